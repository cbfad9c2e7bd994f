import PyProof.Rows.All
import Wide.All
import OpenK.AllK
import PySem.Challenge.RW_uf020006_08
set_option Elab.async false
set_option linter.all false
set_option autoImplicit false
set_option genInjectivity false
set_option genSizeOf false
set_option compiler.extract_closed false
set_option bootstrap.genMatcherCode false
open PySem.Str (ofString)
open List (all_eq_true any_eq_true append_nil concat_eq_append cons_append drop_zero eq_nil_or_concat find?_some findIdx?_cons flatten_append flatten_cons getElem?_append_left getElem?_append_right getElem?_eq_getElem getElem?_eq_none getElem?_map getElem?_of_mem getElem?_range getElem_mem getLast?_append getLast?_concat head?_append head?_drop head?_eq_getElem? idxOf_cons length_cons length_drop length_filter_le length_map length_nil length_range length_reverse length_set length_take lookup_cons map_append map_congr_left map_cons map_drop map_id map_map map_nil mem_append mem_append_left mem_append_right mem_cons mem_cons_of_mem mem_cons_self mem_flatMap mem_flatten mem_map mem_of_getElem? mem_singleton nodup_append not_mem_nil pairwise_singleton range' range'_succ replicate size_toArray take_length zipWith)
open Bool (and_eq_true and_eq_true_iff not_eq_true not_eq_true' or_eq_true or_eq_true_iff)
open Int (ediv_one le_natAbs natCast_nonneg not_lt ofNat ofNat_lt)
open PySem.Challenge (pw_uf020006_08 rw_uf020006_08)
open Nat (add_assoc add_comm add_le_add add_le_add_left beq_refl ble_eq_true_of_le eq_of_beq_eq_true exists_eq_add_of_le le_add_left le_add_right le_antisymm le_max_left le_max_right le_of_ble_eq_true le_of_eq le_of_lt le_of_lt_succ le_of_not_lt le_of_succ_le_succ le_refl le_succ le_succ_of_le le_trans lt_of_le_of_lt lt_of_lt_of_le lt_succ_of_le lt_succ_self max_le min_le_left not_lt_zero pow_le_pow_right pow_succ sub_le sub_pos_of_lt sub_self succ_le_succ succ_pos zero_add zero_le)
open Option (bind_some)
namespace Mine
universe u
@[elab_as_elim] theorem rwm {α : Sort u} {a b : α} {motive : α → Prop} (t : a = b) (x : motive b) : motive a := t ▸ x
@[elab_as_elim] theorem rwn {α : Sort u} {a b : α} {motive : α → Prop} (t : b = a) (x : motive b) : motive a := t ▸ x
@[elab_as_elim] theorem rwi {a b : Prop} {motive : Prop → Prop} (t : a ↔ b) (x : motive b) : motive a := propext t ▸ x
@[elab_as_elim] theorem rwj {a b : Prop} {motive : Prop → Prop} (t : b ↔ a) (x : motive b) : motive a := propext t ▸ x
theorem rwp {a b : Prop} (t : b ↔ a) : a = b := propext t.symm
section
variable {α β : Type} {a b : α} {s t : List α} {x y : Bool} {n m i : Nat} {p : α → Prop}
theorem ae : a ∈ [b] → a = b := List.mem_singleton.mp
theorem aE : a = b → a ∈ [b] := List.mem_singleton.mpr
theorem ah : a ∈ s ++ t → a ∈ s ∨ a ∈ t := List.mem_append.mp
theorem ai : (x && y) = true → x = true ∧ y = true := Bool.and_eq_true_iff.mp
theorem df (h : (x && y) = true) : x = true := (Bool.and_eq_true_iff.mp h).1
theorem dB (h : (x && y) = true) : y = true := (Bool.and_eq_true_iff.mp h).2
theorem aq : (p a ∧ ∀ x, x ∈ s → p x) → ∀ x, x ∈ a :: s → p x := List.forall_mem_cons.mpr
theorem az : a ∈ b :: s → a = b ∨ a ∈ s := List.mem_cons.mp
theorem ak : s[i]? = some a → ∃ h : i < s.length, s[i] = a := List.getElem?_eq_some_iff.mp
theorem ax {x : Option β} {f : β → α} : Option.map f x = some b → ∃ a, x = some a ∧ f a = b := Option.map_eq_some_iff.mp
theorem aT {f : α → β} {b : β} : b ∈ s.map f → ∃ a, a ∈ s ∧ f a = b := List.mem_map.mp
theorem eu {f : α → β} {b : β} : (∃ a, a ∈ s ∧ f a = b) → b ∈ s.map f := List.mem_map.mpr
theorem aI {p : α → Bool} : s.all p = true → ∀ x, x ∈ s → p x = true := List.all_eq_true.mp
theorem bp : m ∈ List.range n → m < n := List.mem_range.mp
theorem bI : m < n → m ∈ List.range n := List.mem_range.mpr
theorem aS : (s ++ t).Nodup → s.Nodup ∧ t.Nodup ∧ ∀ a, a ∈ s → ∀ b, b ∈ t → a ≠ b := List.nodup_append.mp
theorem bi : (a :: s).Nodup → ¬ a ∈ s ∧ s.Nodup := List.nodup_cons.mp
theorem aO {x : Option α} : x.isSome = true → ∃ a, x = some a := Option.isSome_iff_exists.mp
theorem b9 : m ≤ n → (m : Int) ≤ n := Int.ofNat_le.mpr
theorem cH : m < n → (m : Int) < n := Int.ofNat_lt.mpr
theorem dk : ¬ m < n → n ≤ m := Nat.not_lt.mp
theorem dH : m < n → ¬ n ≤ m := Nat.not_le.mpr
theorem cb {p : α → Bool} : a ∈ s.filter p → a ∈ s ∧ p a = true := List.mem_filter.mp
theorem dA {p : α → Bool} : a ∈ s ∧ p a = true → a ∈ s.filter p := List.mem_filter.mpr
end
end Mine
open Lean in
local macro_rules (kind := Lean.Parser.Tactic.rwSeq)
  | s =>
    let l := s[2][1]
    let r := l[0]
    let h := s[3][0][1][0]
    if r.isMissing || !(s[3].isNone || h.getArgs.size == 1 && s[3][0][1][1].isMissing) then Macro.throwUnsupported else
    let z k a := Syntax.node .none (.str `Lean.Parser.Term k) a
    let y k a := Syntax.node .none (.str `Lean.Parser.Tactic k) a
    let w := Syntax.node .none `null
    let q x := s.setArg 2 (s[2].setArg 1 (w x))
    let c f a := z "app" #[f, w a]
    let t := c r[1] #[z "ellipsis" #[r]]
    let u a b := mkIdent (cond r[0].isNone a b)
    let i m v := w #[r, cond s[3].isNone (y "refine" #[r, c m #[t, z "syntheticHole" #[r, z "hole" #[r]]]])
      (y "replace" #[r, z "letDecl" #[z "letIdDecl" #[z "letId" #[h[0]], w #[], w #[], r, z "subst" #[v, r, h]]]])]
    return w #[y "first" #[r, w #[i (u `Mine.rwm `Mine.rwn) (cond r[0].isNone t (c (mkIdent `Eq.symm) #[t])), i (u `Mine.rwi `Mine.rwj) (c (u `propext `Mine.rwp) #[t]), w #[r, y "rewriteSeq" (q #[r]).getArgs]]], q (l.getArgs.extract 2)]
namespace Mine
noncomputable section
open PySem PySem.W PyProof.Rows
noncomputable def jT (tb:String->Option Builtin)(p:Program)(w:World)(n0:Nat)(ann:Option Value):Nat->SharedT->Thread->Option SharedT
 | 0,_,_=>none
 |n+1,s,t=>match through t with
  |true=>some s
  |false=>match stepOk n0 ann t with
   |false=>none
   |true=>match stepT (denote tb) p w s t with
    |some (s',t')=>jT tb p w n0 ann n s' t'
    |none=>none
theorem pI {tb:String->Option Builtin}{p:Program}{w:World}{n0:Nat}{ann:Option Value}:∀{n:Nat} {s s':SharedT} {t:Thread},jT tb p w n0 ann n s t=some s'->topRun tb p w n0 ann n s.abs t=some s'.abs
 | 0,_,_,_,h=>by cases h
 |n+1,s,s',t,h=>by
  unfold jT at h
  unfold topRun
  cases he:through t with
  |true=>rw [he] at h;cases h;rfl
  |false=>
   rw [he] at h
   cases hk:stepOk n0 ann t with
   |false=>rw [hk] at h;cases h
   |true=>
    rw [hk] at h
    cases hs:stepT (denote tb) p w s t with
    |none=>rw [hs] at h;cases h
    |some r=>obtain ⟨s2,t2⟩:=r;rw [hs] at h;rw [stepT_spec hs];exact pI h
noncomputable def Ie {α:Type}:List α->List α
 | []=>[]
 |a::r=>match r with
  | []=>[a]
  |_::r=>a::Ie r
noncomputable def uf:Nat->List Obj->BT
 | 0,_=>.nil
 |n+1,l=>match l with
  | []=>.nil
  |a::r=>.node a (uf n (Ie r)) (uf n (Ie r.tail))
noncomputable def kJ (P:Params):BT:=uf 14 (boot_heap P).objs.toList
theorem Bn {p q:Program}{loose:List Str}{Xt:Shared->Bool}{α:Type}{Yf:Shared->α}{Ya:World->α}{N:Nat}{g0:Bool}{m0:Nat}{ann:Option Value}{life:Life}
  (e:opening p=plainProg p.main.scope.names)(hN:Nat.ble 600 N=true)(f:∀s,fenceModules? p s=some s)
  (h0:∀P,absHeap (kJ P) m0 life=boot_heap P)
  (size:∀P,((boot_heap P).isNs mainGlobals,(boot_heap P).objs.size,(boot_heap P).nsMap mainGlobals "__annotations__")=(true,m0,ann))
  (run:∀(w:World) (os:OsState),(jT treeTable p w m0 ann N ⟨kJ w.params,m0,life,Array.mk [],boot_drawn,boot_toks,os⟩ (topStub p)).map (fun s=>
   (staticsOk (importedModules p.main.body) (boot_heap w.params) s.abs.heap&&namesBound p s.abs.heap&&gensDone s.abs&&laidKept (boot_heap w.params) s.abs.heap,openSeen q loose (importedModules p.main.body) Xt g0 s.abs,Yf s.abs))=some (true,openGood q loose,Ya w)):LeftO p q loose Xt Yf Ya N g0:=fun w=>by
 obtain ⟨⟨h,gs,d,k,os⟩,e1,e2⟩:=ax (boot_open e hN f w)
 obtain ⟨rfl,rfl,rfl,rfl⟩:h=boot_heap w.params/\gs=Array.mk []/\d=boot_drawn/\k=boot_toks:=by simpa using e2
 obtain ⟨s,e3,e4⟩:=ax (run w os)
 obtain ⟨l1,l2⟩:=Prod.mk.inj e4
 obtain ⟨z1,z2,z3⟩:_/\_/\_:=by simpa only [Prod.mk.injEq] using size w.params
 have r:=pI e3
 rw [SharedT.abs,h0 w.params] at r
 have t:topFrom treeTable p w N ⟨boot_heap w.params,Array.mk [],boot_drawn,boot_toks,os⟩=some s.abs:=by
  unfold topFrom
  dsimp only
  rw [z1,z2,z3,r]
  show (match staticsOk (importedModules p.main.body) (boot_heap w.params) s.abs.heap&&namesBound p s.abs.heap&&gensDone s.abs&&laidKept (boot_heap w.params) s.abs.heap with |true=>_ |false=>_)=_
  rw [l1]
 unfold openEnds
 rw [e1]
 show Option.map _ (topFrom treeTable p w N _)=_
 rw [t]
 exact congrArg some l2
end
end Mine
section
namespace Mine.L08
end Mine.L08
open PySem PySem.W PyProof.Rows Mine Mine.L08
set_option maxRecDepth 100000
set_option maxHeartbeats 8000000
namespace Mine.L08
noncomputable section
noncomputable def q:Program:=PySem.W.view pw_uf020006_08 [1,2,3,4,5,7,8,9,10,11,12,13,14,15,16,17,18,20,21,22,23,25,26,27,28,29,30,31,33,35,36,37,38,39,40,41,42,43,44,46,47,48,49,50,51,53,54,55,56,57,58,59,60,61,62,63,64,65,66,67,68,69]
noncomputable def Xt (s:Shared):Bool:=xlAt q [] s&&recOk [] s
theorem l1:opening pw_uf020006_08=plainProg pw_uf020006_08.main.scope.names:=by kernel_rfl
theorem l2 (s:Shared):fenceModules? pw_uf020006_08 s=some s:=by kernel_rfl
theorem l3 (P:Params):absHeap (kJ P) 11 {}=boot_heap P:=by kernel_rfl
theorem l4 (P:Params):((boot_heap P).isNs mainGlobals,(boot_heap P).objs.size,(boot_heap P).nsMap mainGlobals "__annotations__")=(true,11,some (.ref 6)):=by kernel_rfl
theorem l5 (w:World)(os:OsState):(jT treeTable pw_uf020006_08 w 11 (some (.ref 6)) 4000 ⟨kJ w.params,11,{},Array.mk [],boot_drawn,boot_toks,os⟩ (topStub pw_uf020006_08)).map (fun s=>
   (staticsOk (importedModules pw_uf020006_08.main.body) (boot_heap w.params) s.abs.heap&&namesBound pw_uf020006_08 s.abs.heap&&gensDone s.abs&&laidKept (boot_heap w.params) s.abs.heap,openSeen q [] (importedModules pw_uf020006_08.main.body) Xt true s.abs,Hook.obs Hook.none s.abs))=some (true,openGood q [],Hook.val Hook.none w):=by kernel_rfl
theorem left:LeftO pw_uf020006_08 q [] Xt (Hook.obs Hook.none) (Hook.val Hook.none) 4000:=Bn l1 rfl l2 l3 l4 l5
end
end Mine.L08
end
section
set_option genInjectivity true
namespace Mine
noncomputable section
open PySem PySem.W
inductive Ky where
 |int (i:Int)
 |str (x:Str)
 |tup (ks:List Ky)
noncomputable instance:DecidableEq Ky:=fun a b=>Classical.propDecidable (a=b)
noncomputable def u5 (b:Bool):Int:=if b then 1 else 0
inductive Kx where
 |int (i:Int)
 |bool (b:Bool)
 |str (x:Str)
 |tup (ks:List Kx)
mutual
noncomputable def Ky.hash (w:World):Ky->Int
 |.int i=>hashInt i
 |.str x=>hashStr w x
 |.tup ks=>reduceHash (Builtin.Tuple.tupleHashOf (Ky.hashes w ks))
termination_by structural k=>k
noncomputable def Ky.hashes (w:World):List Ky->List Int
 | []=>[]
 |k::r=>k.hash w::Ky.hashes w r
termination_by structural k=>k
end
mutual
noncomputable def Ky.draws:Ky->Nat
 |.int _=>1
 |.str _=>1
 |.tup ks=>Ky.drawsL ks+1
termination_by structural k=>k
noncomputable def Ky.drawsL:List Ky->Nat
 | []=>0
 |k::r=>k.draws+Ky.drawsL r
termination_by structural k=>k
end
mutual
noncomputable def Kx.norm:Kx->Ky
 |.int i=>.int i
 |.bool b=>.int (u5 b)
 |.str x=>.str x
 |.tup ks=>.tup (Kx.norms ks)
termination_by structural k=>k
noncomputable def Kx.norms:List Kx->List Ky
 | []=>[]
 |k::r=>k.norm::Kx.norms r
termination_by structural k=>k
end
mutual
noncomputable def Kx.dat:Kx->PyData
 |.int i=>.int i
 |.bool b=>.bool b
 |.str x=>.str x
 |.tup ks=>.tuple (Kx.dats ks)
termination_by structural k=>k
noncomputable def Kx.dats:List Kx->List PyData
 | []=>[]
 |k::r=>k.dat::Kx.dats r
termination_by structural k=>k
end
mutual
noncomputable def dZ (h:Heap):Kx->Nat->Value->Prop
 |.int i,_,v=>∃t,v=.int i t
 |.bool b,_,v=>v=.bool b
 |.str x,_,v=>PyData.strOk x=true/\∃t,v=.str x t
 |.tup ks,n,v=>∃a vs k m,v=.ref a/\n=m+1/\h.get? a=some ⟨.type "tuple",none,.seq vs k,#[]⟩/\gv h ks m vs.toList
termination_by structural k=>k
noncomputable def gv (h:Heap):List Kx->Nat->List Value->Prop
 | [],_,vs=>vs=[]
 |k::ks,n,vs=>∃v vs',vs=v::vs'/\dZ h k n v/\gv h ks n vs'
termination_by structural k=>k
end
section
variable {h h':Heap}
theorem dZ.keeps (hk:∀a vs k,h.get? a=some ⟨.type "tuple",none,.seq vs k,#[]⟩->h'.get? a=some ⟨.type "tuple",none,.seq vs k,#[]⟩)(x:Kx):∀n v,dZ h x n v->dZ h' x n v:=
 Kx.rec (motive_1:=fun x=>∀n v,dZ h x n v->dZ h' x n v) (motive_2:=fun x=>∀n v,gv h x n v->gv h' x n v)
  (fun _ _ _ q=>q) (fun _ _ _ q=>q) (fun _ _ _ q=>q) (fun _ ih _ _ ⟨a,vs,k,m,e,e',g,r⟩=>⟨a,vs,k,m,e,e',hk a vs k g,ih m _ r⟩) (fun _ _ q=>q) (fun _ _ i1 i2 n _ ⟨v,vs,e,r,r'⟩=>⟨v,vs,e,i1 n v r,i2 n vs r'⟩) x
theorem dZ.inj (x:Kx):∀y n m v,dZ h x n v->dZ h y m v->x=y:=
 Kx.rec (motive_1:=fun x=>∀y n m v,dZ h x n v->dZ h y m v->x=y) (motive_2:=fun x=>∀y n m v,gv h x n v->gv h y m v->x=y)
  (fun i y n m v ⟨t,e⟩ q=>by subst e;cases y with
   |int j=>obtain ⟨_,e⟩:=q;cases e;rfl
   |bool=>cases q
   |str=>obtain ⟨_,_,e⟩:=q;cases e
   |tup=>obtain ⟨_,_,_,_,e,_⟩:=q;cases e)
  (fun b y n m v e q=>by rw [show v=_ from e] at q;cases y with
   |int j=>obtain ⟨_,e⟩:=q;cases e
   |bool=>cases q;rfl
   |str=>obtain ⟨_,_,e⟩:=q;cases e
   |tup=>obtain ⟨_,_,_,_,e,_⟩:=q;cases e)
  (fun s y n m v ⟨_,t,e⟩ q=>by subst e;cases y with
   |int j=>obtain ⟨_,e⟩:=q;cases e
   |bool=>cases q
   |str=>obtain ⟨_,_,e⟩:=q;cases e;rfl
   |tup=>obtain ⟨_,_,_,_,e,_⟩:=q;cases e)
  (fun ks ih y n m v ⟨a,vs,k,j,e,_,g,r⟩ q=>by subst e;cases y with
   |int j=>obtain ⟨_,e⟩:=q;cases e
   |bool=>cases q
   |str=>obtain ⟨_,_,e⟩:=q;cases e
   |tup=>obtain ⟨_,_,_,j',e,_,g',r'⟩:=q;cases e;rw [g] at g';cases g';rw [ih _ j j' _ r r'])
  (fun y n m v e q=>by rw [show v=_ from e] at q;cases y with
   |nil=>rfl
   |cons=>obtain ⟨_,_,e,_⟩:=q;cases e)
  (fun x xs i1 i2 y n m v ⟨u,us,e,r,r'⟩ q=>by subst e;cases y with
   |nil=>cases q
   |cons=>obtain ⟨_,_,e,q,q'⟩:=q;cases e;rw [i1 _ n m _ r q,i2 _ n m _ r' q']) x
theorem dZ.reads (x:Kx):∀n v,dZ h x n v->(∃as,Reads h v x.dat as)/\x.dat.canLay0=true/\x.dat.depth<=n:=
 Kx.rec (motive_1:=fun x=>∀n v,dZ h x n v->(∃as,Reads h v x.dat as)/\x.dat.canLay0=true/\x.dat.depth<=n) (motive_2:=fun x=>∀n v,gv h x n v->(∃as,ReadsAll h v (Kx.dats x) as)/\PyData.canLayAll0 (Kx.dats x)=true/\PyData.depthAll (Kx.dats x)<=n)
  (fun i _ _ ⟨t,e⟩=>e▸⟨⟨_,.int i t⟩,rfl,zero_le _⟩) (fun b _ v e=>(show v=_ from e)▸⟨⟨_,.bool b⟩,rfl,zero_le _⟩) (fun x _ _ ⟨g,t,e⟩=>e▸⟨⟨_,.str _ t⟩,g,zero_le _⟩)
  (fun _ ih _ _ ⟨a,vs,k,m,e,e',g,r⟩=>let ⟨⟨as,q⟩,c,l⟩:=ih m _ r;e▸e'▸⟨⟨as,.tuple g rfl rfl q⟩,c,succ_le_succ l⟩)
  (fun _ v e=>(show v=_ from e)▸⟨⟨_,.nil⟩,rfl,zero_le _⟩)
  (fun _ _ i1 i2 n _ ⟨v,vs,e,r,r'⟩=>let ⟨⟨as,q⟩,c,l⟩:=i1 n v r;let ⟨⟨bs,q'⟩,c',l'⟩:=i2 n vs r';e▸⟨⟨_,.cons q q'⟩,and_eq_true_iff.mpr ⟨c,c'⟩,max_le.mpr ⟨l,l'⟩⟩) x
theorem vZ {α Z:Type}{a b:α}{f:α->Z} [DecidableEq α] [DecidableEq Z] (hf:∀x y,f x=f y->x=y):decide (f a=f b)=decide (a=b):=by
 by_cases q:a=b
 .rw [decide_eq_true q,decide_eq_true (congrArg f q)]
 .rw [decide_eq_false q,decide_eq_false fun e=>q (hf _ _ e)]
theorem mP {α:Type} [BEq α] [LawfulBEq α] [DecidableEq α] (a b:α):(a==b)=decide (a=b):=by
 by_cases q:a=b
 .rw [decide_eq_true q,beq_iff_eq.mpr q]
 .rw [decide_eq_false q,beq_eq_false_iff_ne.mpr q]
theorem uF (i j:Int):decide (Ky.int i=Ky.int j)=decide (i=j):=vZ fun _ _ e=>Ky.int.inj e
theorem Kx.eqv (x:Kx):∀y:Kx,PyData.eqv x.dat y.dat=decide (x.norm=y.norm):=
 have no:∀{a b:Ky},a≠b->false=decide (a=b):=fun h=>(decide_eq_false h).symm
 Kx.rec (motive_1:=fun x=>∀y:Kx,PyData.eqv x.dat y.dat=decide (x.norm=y.norm)) (motive_2:=fun x=>∀y:List Kx,PyData.eqvAll (Kx.dats x) (Kx.dats y)=decide (Ky.tup (Kx.norms x)=Ky.tup (Kx.norms y)))
  (fun i y=>match y with
   |.int j=>(mP i j).trans (uF i j).symm
   |.bool b=>(mP i (u5 b)).trans (uF i _).symm
   |.str _=>no nofun
   |.tup _=>no nofun)
  (fun b y=>match y with
   |.int j=>(mP (u5 b) j).trans (uF _ j).symm
   |.bool c=>by cases b<;>cases c<;>first |exact (decide_eq_true rfl).symm |exact no fun e=>absurd (Ky.int.inj e) (by decide)
   |.str _=>no nofun
   |.tup _=>no nofun)
  (fun s y=>match y with
   |.int _=>no nofun
   |.bool _=>no nofun
   |.str t=>(mP s t).trans (vZ fun _ _ e=>Ky.str.inj e).symm
   |.tup _=>no nofun)
  (fun ks ih y=>match y with
   |.int _=>no nofun
   |.bool _=>no nofun
   |.str _=>no nofun
   |.tup ls=>ih ls)
  (fun y=>match y with
   | []=>(decide_eq_true rfl).symm
   |_::_=>no nofun)
  (fun x xs i1 i2 y=>match y with
   | []=>no nofun
   |z::zs=>by
    show (PyData.eqv x.dat z.dat&&PyData.eqvAll (Kx.dats xs) (Kx.dats zs))=decide (Ky.tup (x.norm::Kx.norms xs)=Ky.tup (z.norm::Kx.norms zs))
    rw [i1 z,i2 zs]
    by_cases h:x.norm=z.norm
    .rw [decide_eq_true h,h,Bool.true_and]
     exact decide_eq_decide.mpr ⟨fun e=>by rw [Ky.tup.inj e],fun e=>by rw [(List.cons.inj (Ky.tup.inj e)).2]⟩
    .rw [decide_eq_false h,Bool.false_and]
     exact no fun e=>h (List.cons.inj (Ky.tup.inj e)).1) x
end
section
variable {prog:Program} {w:World} {E:Value->Shared->Prop}
theorem dZ.pyHash (x:Kx):∀(n:Nat) (v:Value) (A:Around) (s:Shared) (Q:Int->Shared->Prop),dZ s.heap x n v->A.units+n < cLine->Q (x.norm.hash w) {s with toks:=s.toks+x.norm.draws}->wpAny (model prog w) A (PySem.pyHash v) Q E s:=
 Kx.rec (motive_1:=fun x=>∀(n:Nat) (v:Value) (A:Around) (s:Shared) (Q:Int->Shared->Prop),dZ s.heap x n v->A.units+n < cLine->Q (x.norm.hash w) {s with toks:=s.toks+x.norm.draws}->wpAny (model prog w) A (PySem.pyHash v) Q E s)
  (motive_2:=fun x=>∀(n:Nat) (vs:List Value) (A:Around) (s:Shared) (b:Array Int) (Q:Array Int->Shared->Prop),gv s.heap x n vs->A.units+n < cLine->(∀b':Array Int,b'.toList=b.toList++Ky.hashes w (Kx.norms x)->Q b' {s with toks:=s.toks+Ky.drawsL (Kx.norms x)})->
   wpAny (model prog w) A (forIn vs b fun x r=>do let h <-PySem.pyHash x;pure PUnit.unit;pure (ForInStep.yield (r.push h))) Q E s)
  (fun i n v A s Q ⟨t,e⟩ _ h=>e▸wpAny_pyHash_int h)
  (fun b n v A s Q e hu h=>by
   rw [show v=_ from e]
   refine pyHash_slot (T:="bool") rfl F.slot_bool_hash entry_int_hash (args_int_hash _) (beq_builtin_none _) (.inl rfl) ?_
   cases b
   .exact (show wpAny _ _ (do ret (<-mkInt 0)) _ _ s from wpAny_bind (wpAny_mkInt (wpAny_pure ⟨_,_,rfl,h⟩)))
   .exact (show wpAny _ _ (do ret (<-mkInt 1)) _ _ s from wpAny_bind (wpAny_mkInt (wpAny_pure ⟨_,_,rfl,h⟩))))
  (fun x n v A s Q ⟨_,t,e⟩ _ h=>e▸wpAny_pyHash_str h)
  (fun ks ih n v A s Q ⟨a,vs,k,m,e,e',hg,r⟩ hu h=>by
   subst e e'
   refine pyHash_slot (T:="tuple") ⟨_,hg,rfl⟩ F.slot_tuple_hash F.entry_tuple_hash (F.args_tuple_hash_1 _) (beq_builtin_none _) (.inr (lt_of_le_of_lt (le_add_right _ _) hu)) ?_
   show wpAny _ _ (Builtin.Tuple.tupleItemsOf (.ref a) >>=_) _ _ s
   refine wpAny_bind (wpAny_tupleItemsOf hg rfl ?_)
   refine wpAny_bind ?_
   rw [<-Array.forIn_toList]
   refine ih m _ _ _ _ _ r (by simp only [Around.in1_units];lia -abstractProof) fun b hb=>?_
   show wpAny _ _ (retInt (Builtin.Tuple.tupleHashOf b.toList)) _ _ _
   rw [hb]
   exact wpAny_bind (wpAny_mkInt (wpAny_pure ⟨_,_,rfl,h⟩)))
  (fun n vs A s b Q e _ h=>by rw [show vs=_ from e];exact wpAny_pure (h b (append_nil _).symm))
  (fun x xs i1 i2 n vs A s b Q ⟨v,vs',e,r,r'⟩ hu h=>by
   rw [e,List.forIn_cons]
   refine wpAny_bind (wpAny_bind (i1 n _ _ _ _ r hu ?_))
   refine wpAny_bind (wpAny_pure (wpAny_pure ?_))
   refine i2 n _ _ _ _ _ r' hu fun b' hb=>?_
   have:=h b' (by rw [hb,Array.toList_push,List.append_assoc];rfl)
   rw [show Ky.drawsL (Kx.norms (x::xs))=_+_ from rfl,<-add_assoc] at this
   exact this) x
theorem dZ.quiet (x:Kx):∀(n:Nat) (v:Value) (m:Nat) (A:Around) (s:Shared) (Q:Bool->Shared->Prop),dZ s.heap x n v->n<=m->Q true s->wpAny (model prog w) A (eqIsQuiet m v) Q E s:=
 Kx.rec (motive_1:=fun x=>∀(n:Nat) (v:Value) (m:Nat) (A:Around) (s:Shared) (Q:Bool->Shared->Prop),dZ s.heap x n v->n<=m->Q true s->wpAny (model prog w) A (eqIsQuiet m v) Q E s)
  (motive_2:=fun x=>∀(n:Nat) (vs:List Value) (m:Nat) (A:Around) (s:Shared) (Q:Option Bool×PUnit->Shared->Prop),gv s.heap x n vs->n<=m->Q (none,⟨⟩) s->
   wpAny (model prog w) A (forIn vs ((none:Option Bool),PUnit.unit) fun y r=>do
    let c <-eqIsQuiet m y
    if (!c)=true then pure (ForInStep.done (some false,PUnit.unit)) else pure (ForInStep.yield (none,PUnit.unit))) Q E s)
  (fun i n v m A s Q ⟨t,e⟩ _ h=>by rw [e,eqIsQuiet_byValue m rfl];exact wpAny_pure h)
  (fun b n v m A s Q e _ h=>by rw [show v=_ from e,eqIsQuiet_byValue m rfl];exact wpAny_pure h)
  (fun x n v m A s Q ⟨_,t,e⟩ _ h=>by rw [e,eqIsQuiet_byValue m rfl];exact wpAny_pure h)
  (fun ks ih n v m A s Q ⟨a,vs,k,j,e,e',hg,r⟩ hu h=>by
   subst e e'
   cases m with
   |zero=>exact absurd hu (Nat.not_succ_le_zero _)
   |succ m=>
    have hT:s.TypeIs (.ref a) "tuple":=⟨_,hg,rfl⟩
    unfold eqIsQuiet
    refine wpAny_bind (wpAny_specialOf hT F.slot_tuple_eq.lookup ?_)
    show wpAny _ _ (isInstance (.ref a) (.type "tuple") >>=_) _ _ s
    refine wpAny_bind (wpAny_isInstance hT isSubtype_tuple_tuple ?_)
    simp only [Bool.not_true,Bool.false_eq_true,if_false]
    refine wpAny_bind (wpAny_seqItems hg rfl ?_)
    refine wpAny_bind ?_
    show wpAny _ _ (forIn vs _ _) _ _ s
    rw [<-Array.forIn_toList]
    exact ih j _ m _ _ _ r (le_of_succ_le_succ hu) (wpAny_pure h))
  (fun n vs m A s Q e _ h=>by rw [show vs=_ from e];exact wpAny_pure h)
  (fun x xs i1 i2 n vs m A s Q ⟨v,vs',e,r,r'⟩ hu h=>by
   rw [e,List.forIn_cons]
   refine wpAny_bind (wpAny_bind (i1 n _ m _ _ _ r hu ?_))
   exact wpAny_pure (i2 n _ m _ _ _ r' hu h)) x
end
noncomputable def Ck (h:Heap)(n:Nat)(k:Ky)(v:Value):Prop:=∃x:Kx,x.norm=k/\dZ h x n v
noncomputable def EK (h:Heap)(n:Nat)(k:List Ky)(v:List Value):Prop:=∃x:List Kx,Kx.norms x=k/\gv h x n v
noncomputable def cj (prog:Program)(w:World):HeapKind prog w Ky where
 is:=fun h k a=>Ck h 6 k (.ref a)
 hash:=Ky.hash w
 draws:=Ky.draws
 room:=fun A=>A.units+6 < cLine
 inj:=fun hx hy=>let ⟨x,e,q⟩:=hx;let ⟨y,e',q'⟩:=hy;by rw [<-e,<-e',dZ.inj x y 6 6 _ q q']
 keeps:=fun {h h' k a d o es ep} hx ho hd hs=>let ⟨x,e,q⟩:=hx;⟨x,e,dZ.keeps (fun b vs j e=>(hs.2 b fun q=>by rw [q,ho] at e;cases e;cases hd).trans e) x 6 _ q⟩
 pyHash:=fun hu hk h=>by obtain ⟨x,rfl,q⟩:=hk;exact dZ.pyHash x 6 _ _ _ _ q hu h
 eqBool:=fun {A E s x y a b Q} hu hx hy h=>by
  obtain ⟨x,rfl,q1⟩:=hx
  obtain ⟨y,rfl,q2⟩:=hy
  by_cases q:a=b
  .subst q
   rw [dZ.inj x y 6 6 _ q1 q2,decide_eq_true rfl] at h
   exact SeqAt.EqAt.same (.ref a) prog w E Q h
  .obtain ⟨⟨as,r1⟩,c1,l1⟩:=dZ.reads x 6 _ q1
   obtain ⟨⟨bs,r2⟩,c2,l2⟩:=dZ.reads y 6 _ q2
   rw [<-x.eqv y] at h
   exact SeqAt.EqAt.of_refs q (SeqAt.rcAt_reads r1 r2 c1 c2 (lt_of_le_of_lt (add_le_add_left (le_trans (min_le_left _ _) l1) _) hu)) prog w E Q h
 quiet:=fun hk h=>by obtain ⟨x,rfl,q⟩:=hk;exact dZ.quiet x 6 _ _ _ _ _ q (by decide) h
end
end Mine
end
section
set_option backward.eqns.nonrecursive false
namespace Mine
noncomputable section
open PySem PyProof.Rows
noncomputable def lim:Nat:=1000000
noncomputable def cB:Nat:=50
noncomputable def cut {α:Type}(lo hi:Option Int)(xs:List α):List α:=
 (xs.drop (lo.elim 0 (clipAt xs.length))).take (hi.elim xs.length (clipAt xs.length) - lo.elim 0 (clipAt xs.length))
theorem kH (n k:Nat):clipAt n (k:Int)=min k n:=by
 unfold clipAt
 rw [if_neg (not_lt.mpr (natCast_nonneg k))]
 rcases Nat.le_total k n with h |h
 .rw [Nat.min_eq_left h,Int.min_eq_left (b9 h),Int.max_eq_right (natCast_nonneg k)];rfl
 .rw [Nat.min_eq_right h,Int.min_eq_right (b9 h),Int.max_eq_right (natCast_nonneg n)];rfl
theorem rt (n:Nat):clipAt n (-1)=n - 1:=by
 unfold clipAt
 rw [if_pos (by decide)]
 cases n with
 |zero=>rfl
 |succ n=>
  rw [show (-1:Int)+((n+1:Nat):Int)=n from (Int.add_comm _ _).trans (Int.add_sub_cancel (n:Int) 1),Int.min_eq_left (b9 (le_succ n)),Int.max_eq_right (natCast_nonneg n)];rfl
noncomputable def gF (lo hi:Option Int)(x:Str):Str:=⟨(cut lo hi x.cps.toList).toArray⟩
inductive T where
 |none
 |bool (b:Bool)
 |int (i:Int)
 |str (s:Str)
 |tup (ts:List T)
 |lst (ts:List T)
 |dct (ks vs:List T)
 |obj (c:Nat) (fs:List T)
 |scr (ns:List Int)
 |spot
 |self
 deriving Inhabited
structure Sg where
 spot:Int
 self:Option (Nat×List T)
@[reducible] noncomputable def S1:Type:=Sg
@[reducible] noncomputable def S2:Type:=S1
@[reducible] noncomputable def S3:Type:=S2
@[reducible] noncomputable def S4:Type:=S3
@[reducible] noncomputable def S5:Type:=S4
@[reducible] noncomputable def B1:Type:=Bool
@[reducible] noncomputable def B2:Type:=B1
@[reducible] noncomputable def B3:Type:=B2
@[reducible] noncomputable def B4:Type:=B3
@[reducible] noncomputable def B5:Type:=B4
noncomputable abbrev aW:=List (Option T)
inductive cg where
 |ret (t:T) (σ:Sg)
 |fall (ρ:aW) (σ:Sg)
 |exc (c:Nat) (σ:Sg)
 |bad
@[reducible] noncomputable def gd (b:B5)(o:cg):cg:=Bool.rec (motive:=fun _=>cg) .bad o b
structure cr where
 call:Nat->List T->Sg->cg
noncomputable abbrev PK (α:Type):=α->Sg->cg
noncomputable abbrev PG (α:Type):=cr->aW->Sg->PK α->cg
noncomputable abbrev PE:=PG T
noncomputable abbrev PT:=PG Bool
noncomputable abbrev PL:=PG (List T)
noncomputable abbrev PO:=PG (Option Int)
noncomputable abbrev PS:=PG aW
noncomputable def bV:aW->Nat->Option T
 | [],_=>none
 |x::_,0=>x
 |_::r,n+1=>bV r n
noncomputable def up {α:Type}(o:Option α)(σ:S3)(k:PK α):cg:=match o with
 |some a=>k a σ
 |none=>.bad
@[irreducible] noncomputable def sH (o:cg)(k:PK T):cg:=match o with
 |.ret t σ=>k t σ
 |_=>.bad
theorem vE {t:T}{σ:Sg}{k:PK T}:sH (.ret t σ) k=k t σ:=by with_unfolding_all rfl
noncomputable def cT (n:Nat):Bool:=Nat.ble n lim
noncomputable def gt (f:T->Option PyData):List T->Option (List PyData)
 | []=>some []
 |x::r=>match f x with
  |none=>none
  |some d=>(gt f r).map (d::·)
noncomputable def di:Nat->T->Option PyData
 |_,.none=>some .none
 |_,.bool b=>some (.bool b)
 |_,.int i=>some (.int i)
 |_,.str s=>some (.str s)
 |n+1,.tup xs=>(gt (di n) xs).map .tuple
 |n+1,.lst xs=>(gt (di n) xs).map .list
 |_,_=>none
@[reducible] noncomputable def pV (i:Nat):PE:=fun _ ρ σ k=>up (bV ρ i) σ k
@[reducible] noncomputable def pC (t:T):PE:=fun _ _ (σ:S5) k=>k t σ
@[reducible] noncomputable def p1 {α z:Type}(f:α->Option z)(e:PG α):PG z:=fun c ρ σ k=>e c ρ σ fun a σ=>up (f a) σ k
@[reducible] noncomputable def p2 {α z γ:Type}(f:α->z->Option γ)(l:PG α)(r:PG z):PG γ:=fun c ρ σ k=>l c ρ σ fun a σ=>r c ρ σ fun b σ=>up (f a b) σ k
@[reducible] noncomputable def p3 {α z γ g:Type}(f:α->z->γ->Option g)(l:PG α)(m:PG z)(r:PG γ):PG g:=fun c ρ σ k=>l c ρ σ fun a σ=>m c ρ σ fun b σ=>r c ρ σ fun x σ=>up (f a b x) σ k
@[reducible] noncomputable def pB (t:PT):PE:=fun c ρ (σ:S5) k=>t c ρ σ fun b σ=>k (.bool b) σ
@[reducible] noncomputable def ao:PL:=fun _ _ (σ:S5) k=>k [] σ
@[reducible] noncomputable def aa (e:PE)(r:PL):PL:=fun c ρ (σ:S5) k=>e c ρ σ fun v σ=>r c ρ σ fun vs σ=>k (v::vs) σ
@[reducible] noncomputable def aM (r:PL):PE:=fun c ρ (σ:S5) k=>r c ρ σ fun vs σ=>bif cT vs.length then k (.tup vs) σ else .bad
@[reducible] noncomputable def bX (r:PL):PE:=fun c ρ (σ:S5) k=>r c ρ σ fun vs σ=>bif cT vs.length then k (.lst vs) σ else .bad
noncomputable def dM:T->Option Bool
 |.none=>some false
 |.bool b=>some b
 |.int i=>some (i !=0)
 |_=>none
@[reducible] noncomputable def qE (e:PE):PT:=p1 dM e
@[reducible] noncomputable def dK (t:PT):PT:=fun c ρ (σ:S5) k=>t c ρ σ fun b σ=>k (!b) σ
@[reducible] noncomputable def er (t u:PT):PT:=fun c ρ (σ:S5) k=>t c ρ σ fun b σ=>bif b then u c ρ σ k else k false σ
@[reducible] noncomputable def hJ (t u:PT):PT:=fun c ρ (σ:S5) k=>t c ρ σ fun b σ=>bif b then k true σ else u c ρ σ k
@[reducible] noncomputable def aJ:PT:=fun _ _ (σ:S5) k=>k true σ
@[reducible] noncomputable def cS:PT:=fun _ _ (σ:S5) k=>k false σ
@[reducible] noncomputable def jC (e:PE):PE:=p1 (fun t=>(dM t).map fun b=>.bool (!b)) e
@[reducible] noncomputable def jj (d e:PE):PE:=fun c ρ (σ:S5) k=>d c ρ σ fun v σ=>match dM v with
 |some true=>e c ρ σ k
 |some false=>k v σ
 |none=>.bad
@[reducible] noncomputable def xB (d e:PE):PE:=fun c ρ (σ:S5) k=>d c ρ σ fun v σ=>match dM v with
 |some true=>k v σ
 |some false=>e c ρ σ k
 |none=>.bad
@[reducible] noncomputable def Fi (t:PT)(d e:PE):PE:=fun c ρ (σ:S5) k=>t c ρ σ fun b σ=>bif b then d c ρ σ k else e c ρ σ k
@[reducible] noncomputable def aw (f:Nat)(args:PL):PE:=fun c ρ (σ:S5) k=>args c ρ σ fun vs σ=>sH (c.call f vs σ) k
noncomputable def EV:T->Option Bool
 |.bool b=>some b
 |_=>none
noncomputable def jJ:T->Option Int
 |.int i=>some i
 |_=>none
noncomputable def tT:T->Option Str
 |.str s=>some s
 |_=>none
noncomputable def rH:T->Option (List T)
 |.tup xs=>some xs
 |_=>none
noncomputable def gI:T->Option (List T)
 |.lst xs=>some xs
 |_=>none
noncomputable def ET:T->Option (List Int)
 |.scr ns=>some ns
 |_=>none
noncomputable def el {α:Type}(x:Option α)(y:Option α):Option α:=match x with
 |some a=>some a
 |none=>y
noncomputable def o2 {α z γ:Type}(x:Option α)(y:Option z)(f:α->z->Option γ):Option γ:=match x with
 |some a=>match y with
  |some b=>f a b
  |none=>none
 |none=>none
noncomputable def o1 {α z:Type}(x:Option α)(f:α->Option z):Option z:=match x with
 |some a=>f a
 |none=>none
noncomputable def ck (a b:T):Option Bool:=o2 (di cB a) (di cB b) fun d e=>some (PyData.eqv d e)
noncomputable def o8 (a b:T):Option Bool:=(ck a b).map (!·)
noncomputable def qg {α:Type}(n:Nat)(x:α):Option α:=bif cT n then some x else none
noncomputable def bc (a b:T):Option T:=match jJ a with
 |some i=>o1 (jJ b) fun j=>some (.int (i+j))
 |none=>match tT a with
  |some x=>o1 (tT b) fun y=>qg (x++y).length (.str (x++y))
  |none=>match rH a with
   |some x=>o1 (rH b) fun y=>qg (x++y).length (.tup (x++y))
   |none=>o2 (gI a) (gI b) fun x y=>qg (x++y).length (.lst (x++y))
noncomputable def BA (f:Int->Int->Option T)(a b:T):Option T:=o2 (jJ a) (jJ b) f
noncomputable def d5:T->T->Option T:=BA fun a b=>some (.int (a - b))
noncomputable def sm (i:Int):Bool:=Nat.ble i.natAbs 1000000000
@[irreducible] noncomputable def iK:T->T->Option T:=BA fun a b=>bif sm a||sm b then some (.int (a * b)) else none
@[irreducible] noncomputable def d7:T->T->Option T:=BA fun a b=>bif b==0||Nat.ble 1073741824 b.natAbs then none else some (.int (a.fdiv b))
@[irreducible] noncomputable def bM:T->T->Option T:=BA fun a b=>bif b==0 then none else some (.int (a.fmod b))
noncomputable def eQ (a:T):Option T:=o1 (jJ a) fun i=>some (.int (-i))
noncomputable def BX (f:Int->Int->Bool)(a b:T):Option Bool:=o2 (jJ a) (jJ b) fun i j=>some (f i j)
noncomputable def vI:T->T->Option Bool:=BX fun a b=>decide (a < b)
noncomputable def Bs:T->T->Option Bool:=BX fun a b=>decide (a<=b)
noncomputable def Au:T->T->Option Bool:=BX fun a b=>decide (a > b)
noncomputable def IO:T->T->Option Bool:=BX fun a b=>decide (a ≥ b)
noncomputable def ir (a:T):Option (List T):=el (rH a) (gI a)
noncomputable def ib (xs:List T):Option (List PyData):=gt (di cB) xs
noncomputable def lX (a b:T):Option Bool:=o1 (ir b) fun xs=>o2 (di cB a) (ib xs) fun d es=>some (es.any fun y=>PyData.eqv y d)
noncomputable def eP (a b:T):Option Bool:=(lX a b).map (!·)
noncomputable def z0 (i:Int)(xs:List T):Option T:=bif sm i then o1 (seqIndex? i xs.length) fun j=>xs[j]? else none
noncomputable def vh (i:Int)(x:Str):Option T:=bif sm i then ((seqIndex? i x.length).bind (x.cps[·]?)).map fun c=>T.str ⟨#[c]⟩ else none
noncomputable def au (a b:T):Option T:=o1 (jJ b) fun i=>match ir a with
 |some xs=>z0 i xs
 |none=>match ET a with
  |some ns=>z0 i (ns.map T.int)
  |none=>o1 (tT a) (vh i)
@[irreducible] noncomputable def ci (a:T)(lo hi:Option Int):Option T:=match rH a with
 |some xs=>some (.tup (cut lo hi xs))
 |none=>match gI a with
  |some xs=>some (.lst (cut lo hi xs))
  |none=>o1 (tT a) fun x=>some (.str (gF lo hi x))
noncomputable def ba (a:T):Option T:=match ir a with
 |some xs=>some (.int xs.length)
 |none=>match ET a with
  |some xs=>some (.int xs.length)
  |none=>o1 (tT a) fun x=>some (.int x.length)
noncomputable def jo (a:T):Option T:=o1 (ir a) fun xs=>some (.lst xs)
noncomputable def G3 (a:T):Option T:=o1 (gI a) fun xs=>some (.tup xs)
noncomputable def jD (a v:T):Option T:=o1 (gI a) fun xs=>o2 (di cB v) (ib xs) fun d es=>o1 (es.findIdx? fun y=>PyData.eqv y d) fun i=>some (.int i)
@[reducible] noncomputable def an:PS:=fun _ ρ (σ:S5) k=>k ρ σ
@[reducible] noncomputable def af (a b:PS):PS:=fun c ρ (σ:S5) k=>a c ρ σ fun ρ σ=>b c ρ σ k
@[reducible] noncomputable def aG (i:Nat)(e:PE):PS:=fun c ρ (σ:S5) k=>e c ρ σ fun v σ=>k (ρ.set i (some v)) σ
@[reducible] noncomputable def bK (t:PT)(a b:PS):PS:=fun c ρ (σ:S5) k=>t c ρ σ fun q σ=>bif q then a c ρ σ k else b c ρ σ k
@[reducible] noncomputable def aH (e:PE):PS:=fun c ρ (σ:S5) _=>e c ρ σ fun v σ=>.ret v σ
@[reducible] noncomputable def jQ (e:PE):PS:=fun c ρ (σ:S5) k=>e c ρ σ fun _ σ=>k ρ σ
@[reducible] noncomputable def eS:PS:=fun _ _ _ _=>.bad
@[reducible] noncomputable def GZ (x:Nat)(r:PL):PS:=fun c ρ σ _=>r c ρ σ fun vs σ=>bif cT vs.length then .exc x σ else .bad
noncomputable def fh:List Nat->List T->aW->Option aW
 | [],[],ρ=>some ρ
 |i::is,v::vs,ρ=>fh is vs (ρ.set i (some v))
 |_,_,_=>none
@[reducible] noncomputable def IV (is:List Nat)(e:PE):PS:=fun c ρ σ k=>e c ρ σ fun v σ=>match v with
 |.tup ts=>up (fh is ts ρ) σ k
 |_=>.bad
noncomputable abbrev PB:=T->aW->Option aW
@[reducible] noncomputable def bj (i:Nat):PB:=fun v ρ=>some (ρ.set i (some v))
@[reducible] noncomputable def AA (i j:Nat):PB:=fun v ρ=>match v with
 |.tup [a,b]=>some ((ρ.set i (some a)).set j (some b))
 |_=>none
noncomputable def cD (bd:PB)(body:PS)(c:cr):List T->aW->Sg->PK aW->cg
 | [],ρ,σ,k=>k ρ σ
 |v::r,ρ,σ,k=>match bd v ρ with
  |none=>.bad
  |some ρ'=>body c ρ' σ fun ρ σ=>cD bd body c r ρ σ k
theorem q8 {bd:PB}{body:PS}{c:cr}{v:T}{r:List T}{ρ:aW}{σ:Sg}{k:PK aW}:cD bd body c (v::r) ρ σ k=(match bd v ρ with
  |none=>.bad
  |some ρ'=>body c ρ' σ fun ρ σ=>cD bd body c r ρ σ k):=rfl
@[reducible] noncomputable def cU (it:PL)(bd:PB)(body:PS):PS:=fun c ρ (σ:S5) k=>it c ρ σ fun xs σ=>cD bd body c xs ρ σ k
@[irreducible] noncomputable def f8 (t:PT)(body:PS)(c:cr):Nat->aW->Sg->PK aW->cg
 | 0,_,_,_=>.bad
 |n+1,ρ,σ,k=>t c ρ σ fun b σ=>bif b then body c ρ σ fun ρ σ=>f8 t body c n ρ σ k else k ρ σ
theorem il {t:PT}{body:PS}{c:cr}{n:Nat}{ρ:aW}{σ:Sg}{k:PK aW}:f8 t body c (n+1) ρ σ k=t c ρ σ fun b σ=>bif b then body c ρ σ fun ρ σ=>f8 t body c n ρ σ k else k ρ σ:=by with_unfolding_all rfl
theorem mZ {t:PT}{body:PS}{c:cr}{ρ:aW}{σ:Sg}{k:PK aW}:f8 t body c 0 ρ σ k=.bad:=by with_unfolding_all rfl
@[reducible] noncomputable def eR (n:Nat)(t:PT)(body:PS):PS:=fun c ρ (σ:S5) k=>f8 t body c n ρ σ k
@[irreducible] noncomputable def br (bd:PB)(cond:PT)(elt:PE)(c:cr)(ρ:aW):List T->Sg->List T->PK (List T)->cg
 | [],σ,acc,k=>k acc σ
 |v::r,σ,acc,k=>match bd v ρ with
  |none=>.bad
  |some ρ'=>cond c ρ' σ fun b σ=>bif b then elt c ρ' σ fun x σ=>br bd cond elt c ρ r σ (acc++[x]) k else br bd cond elt c ρ r σ acc k
theorem mJ {bd:PB}{cond:PT}{elt:PE}{c:cr}{ρ:aW}{σ:Sg}{acc:List T}{k:PK (List T)}:br bd cond elt c ρ [] σ acc k=k acc σ:=by with_unfolding_all rfl
theorem mL {bd:PB}{cond:PT}{elt:PE}{c:cr}{ρ:aW}{v:T}{r:List T}{σ:Sg}{acc:List T}{k:PK (List T)}:br bd cond elt c ρ (v::r) σ acc k=(match bd v ρ with
  |none=>.bad
  |some ρ'=>cond c ρ' σ fun b σ=>bif b then elt c ρ' σ fun x σ=>br bd cond elt c ρ r σ (acc++[x]) k else br bd cond elt c ρ r σ acc k):=by with_unfolding_all rfl
@[reducible] noncomputable def aV (it:PL)(bd:PB)(cond:PT)(elt:PE):PE:=fun c ρ (σ:S5) k=>it c ρ σ fun xs σ=>br bd cond elt c ρ xs σ [] fun ys σ=>k (.lst ys) σ
@[reducible] noncomputable def bv (e:PE):PL:=p1 ir e
noncomputable def cY (a b c:Int):List T:=(List.range (Builtin.Range.rangeSize a b c).toNat).map fun k=>T.int (a+(k:Nat) * c)
noncomputable def rg (a n:Int):Option (List T):=bif (sm a&&sm n)&&cT (cY a n 1).length then some (cY a n 1) else none
@[irreducible] noncomputable def vv:List T->Option (List T)
 | []=>none
 |m::r=>match r with
  | []=>o1 (jJ m) (rg 0)
  |n::r=>match r with
   | []=>o2 (jJ m) (jJ n) rg
   |_::_=>none
@[reducible] noncomputable def cn (r:PL):PL:=p1 vv r
noncomputable def lY:Nat->List T->List T
 |_,[]=>[]
 |n,x::r=>.tup [.int n,x]::lY (n+1) r
noncomputable def Jd (t:T):Option (List T):=o1 (gI t) fun xs=>some (lY 0 xs)
@[reducible] noncomputable def sZ (e:PE):PL:=p1 Jd e
noncomputable def d9 (x v:T):Option T:=o1 (gI x) fun xs=>qg (xs.length+1) (.lst (xs++[v]))
noncomputable def jk (x v:T):Option T:=o2 (gI x) (gI v) fun xs ys=>qg (xs.length+ys.length) (.lst (xs++ys))
noncomputable def t9 (f:Nat):Bool:=Nat.ble 1000 f
noncomputable def kW (f:Nat):Bool:=Nat.ble 500 f&&Nat.ble f 599
structure gK where
 np:Nat
 ns:Nat
 body:PS
noncomputable def frame (ts:List T)(n:Nat):aW:=ts.map some++replicate n none
noncomputable def aj (Z:Nat->Option gK):Nat->Nat->List T->Sg->cg
 | 0,_,_,_=>.bad
 |n+1,f,args,σ=>match Z f with
  |none=>.bad
  |some F=>bif Nat.beq args.length F.np then
    match F.body ⟨aj Z n⟩ (frame args F.ns) σ fun _ σ=>bif kW f then .bad else .ret .none σ with
    |.ret t σ=>.ret t σ
    |.exc c σ=>.exc c σ
    |_=>.bad
   else .bad
theorem mM {Z:Nat->Option gK}{n f:Nat}{args:List T}{σ:Sg}:aj Z (n+1) f args σ=(match Z f with
  |none=>.bad
  |some F=>bif Nat.beq args.length F.np then
    match F.body ⟨aj Z n⟩ (frame args F.ns) σ fun _ σ=>bif kW f then .bad else .ret .none σ with
    |.ret t σ=>.ret t σ
    |.exc c σ=>.exc c σ
    |_=>.bad
   else .bad):=rfl
inductive BT where
 |list |bool |int |str |tuple
noncomputable def BT.id:BT->String
 |.list=>"list" |.bool=>"bool" |.int=>"int" |.str=>"str" |.tuple=>"tuple"
noncomputable def BT.nm (T:BT):Str:=ofString T.id
inductive MK where
 |list |str |tuple
noncomputable def MK.id:MK->String
 |.list=>"list" |.str=>"str" |.tuple=>"tuple"
noncomputable def qW (κs:List Ky)(κ:Ky):Option Nat:=κs.findIdx? fun x=>decide (x=κ)
noncomputable def nK {α:Type}(i:Option Nat)(k v:α)(ks vs:List α):List α×List α:=match i with
 |some i=>(ks,vs.set i v)
 |none=>(ks++[k],vs++[v])
noncomputable def isN:T->Bool
 |.none=>true
 |_=>false
noncomputable def s8 (a b:T):Option Bool:=bif isN b then some (isN a) else none
noncomputable def cN (t:T):Option (Option Int):=o1 (jJ t) fun i=>some (some i)
noncomputable def fb:List T->Option (List Bool)
 | []=>some []
 |t::r=>o2 (dM t) (fb r) fun b bs=>some (b::bs)
noncomputable def Gk (f:List Bool->Bool)(t:T):Option T:=o1 (gI t) fun ts=>o1 (fb ts) fun bs=>some (.bool (f bs))
noncomputable def u9:T->Option T:=Gk (·.any id)
noncomputable def kU:T->Option T:=Gk (·.all id)
noncomputable def ta (t:T):Option T:=o1 (EV t) fun b=>some (.int (if b then 1 else 0))
noncomputable def HX (X:BT):T->Option Bool
 |.bool _=>some (match X with |.bool |.int=>true |_=>false)
 |.int _=>some (match X with |.int=>true |_=>false)
 |.str _=>some (match X with |.str=>true |_=>false)
 |.tup _=>some (match X with |.tuple=>true |_=>false)
 |.lst _=>some (match X with |.list=>true |_=>false)
 |_=>none
noncomputable def gq (X:BT)(t:T):Option T:=o1 (HX X t) fun b=>some (.bool b)
noncomputable def kT (K:MK)(t:T):Bool:=match K with
 |.list=>(gI t).isSome
 |.str=>(tT t).isSome
 |.tuple=>(rH t).isSome
@[reducible] noncomputable def uw (K:MK)(F:T->T->Option T)(l r:PE):PE:=fun c ρ σ k=>l c ρ σ fun a σ=>gd (kT K a) (r c ρ σ fun b σ=>up (F a b) σ k)
noncomputable def lB (a v:T):Option T:=o1 (gI a) fun xs=>o2 (di cB v) (ib xs) fun d es=>some (.int ((es.countP fun y=>PyData.eqv y d:Nat):Int))
noncomputable def xJ:List T->Option (List Str)
 | []=>some []
 |t::r=>o2 (tT t) (xJ r) fun x xs=>some (x::xs)
noncomputable def vO (a b:T):Option T:=o2 (tT a) (gI b) fun sep ts=>o1 (xJ ts) fun xs=>bif JoinOk sep xs&&PyData.strOk (Txt.join sep xs)&&cT (Txt.join sep xs).length then some (.str (Txt.join sep xs)) else none
noncomputable def qs (a b:T):Option T:=o2 (tT a) (tT b) fun x y=>bif !(y.length==0)&&cT (Txt.split x y).length&&(Txt.split x y).all (fun t=>PyData.strOk t&&decide (t.length<=lim)) then some (.lst ((Txt.split x y).map T.str)) else none
@[irreducible] noncomputable def ma (a b:T):Option T:=o2 (gI a) (jJ b) fun xs k=>bif decide (0<=k)&&(decide (k<=1000)&&Nat.ble xs.length 1000) then some (.lst (replicate k.toNat xs).flatten) else none
noncomputable def BZ (t:T):Option (List T):=o1 (tT t) fun x=>bif x.cps.all (· < 128) then some (x.cps.toList.map fun c=>T.str ⟨#[c]⟩) else none
noncomputable def GM (a b:T):Option Bool:=o2 (tT a) (tT b) fun y x=>some (Txt.contains x y)
@[reducible] noncomputable def ii (i:Nat)(F:T->T->Option T)(e:PE):PS:=fun c ρ (σ:S5) k=>match bV ρ i with
 |some x=>gd (kT .list x) (e c ρ σ fun v σ=>up (F x v) σ fun y σ=>k (ρ.set i (some y)) σ)
 |none=>.bad
noncomputable def my:Nat->T->Option Ky
 |_,.int i=>some (.int i)
 |_,.bool b=>some (.int (u5 b))
 |_,.str s=>some (.str s)
 |n+1,.tup xs=>o1 (go (my n) xs) fun ks=>some (.tup ks)
 |_,_=>none
where go (f:T->Option Ky):List T->Option (List Ky)
 | []=>some []
 |x::r=>o2 (f x) (go f r) fun k ks=>some (k::ks)
theorem CO {n:Nat}{xs:List T}:my (n+1) (.tup xs)=o1 (my.go (my n) xs) fun ks=>some (.tup ks):=rfl
theorem w8 {f:T->Option Ky}{x:T}{r:List T}:my.go f (x::r)=o2 (f x) (my.go f r) fun k ks=>some (k::ks):=rfl
noncomputable def yZ (t:T):Option Ky:=o1 (rH t) fun xs=>my 6 (.tup xs)
noncomputable def gE (us:List T):Option (List Ky):=my.go yZ us
noncomputable def EU:T->Option (List T×List T)
 |.dct us ts=>some (us,ts)
 |_=>none
noncomputable def mn (us:List T)(k:T):Option (Option Nat):=o2 (gE us) (yZ k) fun κs κ=>some (qW κs κ)
noncomputable def CR (a b:T):Option Bool:=o1 (EU b) fun p=>o1 (mn p.1 a) fun i=>some i.isSome
noncomputable def idxD (a k:T):Option T:=o1 (EU a) fun p=>o1 (mn p.1 k) fun i=>o1 i fun j=>p.2[j]?
noncomputable def IP (a:T):Option T:=o1 (EU a) fun p=>some (.int p.1.length)
noncomputable def ox:List T->List T->List T->Option (List T×List T)
 | [],us,ts=>some (us,ts)
 |x::r,us,ts=>o1 (rH x) fun ps=>match ps with
  | [k,v]=>o1 (mn us k) fun i=>ox r (nK i k v us ts).1 (nK i k v us ts).2
  |_=>none
noncomputable def ti (a:T):Option T:=o1 (gI a) fun xs=>o1 (ox xs [] []) fun p=>some (.dct p.1 p.2)
@[reducible] noncomputable def ud (i:Nat)(F:T->T->T->Option T)(j e:PE):PS:=fun c ρ (σ:S5) k=>e c ρ σ fun v σ=>match bV ρ i with
 |some x=>j c ρ σ fun κ σ=>up (F x κ v) σ fun y σ=>k (ρ.set i (some y)) σ
 |none=>.bad
noncomputable def ur (x κ v:T):Option T:=o2 (gI x) (jJ κ) fun xs i=>bif decide (0<=i)&&decide (i < xs.length) then some (.lst (xs.set i.toNat v)) else none
noncomputable def eG (x κ v:T):Option T:=o1 (EU x) fun p=>o1 (mn p.1 κ) fun i=>qg (p.1.length+1) (.dct (nK i κ v p.1 p.2).1 (nK i κ v p.1 p.2).2)
noncomputable def cE:Nat->List Str
 | 0=>[ofString "names",ofString "roads",ofString "firsts"]
 | 10=>[ofString "bonds",ofString "promises",ofString "machine",ofString "known",ofString "knots",ofString "begun",ofString "threads"]
 |_=>[]
noncomputable def iI:Nat->Nat->Bool
 | 10,3=>true
 | 10,4=>true
 | 10,6=>true
 |_,_=>false
@[reducible] noncomputable def wC (j:Nat)(is:List Nat):PS:=fun _ ρ σ k=>up (o1 (bV ρ j) fun x=>o1 (gI x) fun xs=>o1 xs.getLast? fun t=>o1 (rH t) fun ts=>fh is ts (ρ.set j (some (.lst xs.dropLast)))) σ k
@[reducible] noncomputable def nM (j i:Nat):PS:=fun _ ρ σ k=>up (o1 (bV ρ j) fun x=>o1 (gI x) fun xs=>o1 xs.head? fun y=>some ((ρ.set j (some (.lst xs.tail))).set i (some y))) σ k
noncomputable def GQ (c:Nat):T->Option (List T)
 |.obj c' ts=>bif Nat.beq c' c then some ts else none
 |_=>none
noncomputable def kO (c i:Nat)(t:T):Option T:=o1 (GQ c t) fun ts=>ts[i]?
noncomputable def IF (c i:Nat)(σ:Sg):T->Option T
 |.self=>o1 σ.self fun p=>bif Nat.beq p.1 c&&!iI c i then p.2[i]? else none
 |t=>kO c i t
@[reducible] noncomputable def fX (c i:Nat):PE:=fun _ ρ σ k=>up (o1 (bV ρ 0) (IF c i σ)) σ k
@[reducible] noncomputable def rN (c f:Nat)(o:PE)(args:PL):PE:=fun cx ρ (σ:S5) k=>o cx ρ σ fun t σ=>gd (GQ c t).isSome (args cx ρ σ fun ts σ=>sH (cx.call f (t::ts) σ) k)
noncomputable def w0 (c:Nat)(ρ:aW)(σ:Sg):Bool:=match bV ρ 0 with
 |some .self=>match σ.self with
  |some p=>Nat.beq p.1 c
  |none=>false
 |_=>false
@[reducible] noncomputable def sG (c f:Nat)(args:PL):PE:=fun cx ρ (σ:S5) k=>gd (w0 c ρ σ) (args cx ρ σ fun ts σ=>sH (cx.call f (.self::ts) σ) k)
noncomputable def Sg.fld (σ:Sg)(i:Nat)(y:T):Sg:=⟨σ.spot,σ.self.map fun p=>(p.1,p.2.set i y)⟩
noncomputable def cq (c i:Nat)(ρ:aW)(σ:Sg):Option T:=bif w0 c ρ σ&&iI c i then o1 σ.self fun p=>p.2[i]? else none
noncomputable def Sg.push (σ:Sg)(y:T):Sg:=⟨σ.spot,σ.self.map fun p=>(p.1,p.2++[y])⟩
noncomputable def z9 (c i:Nat)(ρ:aW)(σ:Sg):Bool:=w0 c ρ σ&&(match σ.self with
 |some p=>Nat.beq p.2.length i
 |none=>false)
@[reducible] noncomputable def t8 (c i:Nat)(e:PE):PS:=fun cx ρ σ k=>e cx ρ σ fun v σ=>gd (z9 c i ρ σ) (k ρ (σ.push v))
@[irreducible] noncomputable def mc (c:Nat)(o:cg)(k:PK T):cg:=match o with
 |.ret t σ=>bif isN t then (match σ.self with
   |some p=>bif Nat.beq p.1 c then k (.obj c p.2) ⟨σ.spot,none⟩ else .bad
   |none=>.bad) else .bad
 |_=>.bad
@[reducible] noncomputable def uv (c f:Nat)(args:PL):PE:=fun cx ρ (σ:S5) k=>args cx ρ σ fun ts σ=>match σ.self with
 |some _=>.bad
 |none=>mc c (cx.call f (.self::ts) ⟨σ.spot,some (c,[])⟩) k
noncomputable def qX (ρ:aW)(i:Nat):Bool:=match bV ρ i with
 |some .spot=>true
 |_=>false
@[reducible] noncomputable def pQ (i:Nat):PE:=fun _ ρ σ k=>gd (qX ρ i) (k (.int σ.spot) σ)
@[reducible] noncomputable def j7 (i:Nat)(e:PE):PS:=fun cx ρ σ k=>e cx ρ σ fun v σ=>gd (qX ρ i) (match jJ v with
 |some n=>k ρ ⟨n,σ.self⟩
 |none=>.bad)
@[reducible] noncomputable def nQ (F G:T->T->Option Bool)(l m r:PE):PT:=fun c ρ σ k=>l c ρ σ fun a σ=>m c ρ σ fun b σ=>match F a b with
 |some true=>r c ρ σ fun x σ=>up (G b x) σ k
 |some false=>k false σ
 |none=>.bad
noncomputable def fK (a b:T):Option Bool:=(CR a b).map (!·)
noncomputable def FO (a b:T):Option Bool:=(s8 a b).map (!·)
noncomputable def uk (a:T):Option T:=o1 (gI a) fun xs=>some (.lst xs.reverse)
noncomputable def iU:List T->Option (List Bool)
 | []=>some []
 |t::r=>o2 (EV t) (iU r) fun b bs=>some (b::bs)
noncomputable def kY (f:Bool->Bool->Bool)(a b:T):Option T:=o2 (gI a) (gI b) fun xs ys=>o2 (iU xs) (iU ys) fun bs cs=>some (.lst ((zipWith f bs cs).map T.bool))
noncomputable def dn (a n c:Int):Option (List T):=bif (sm a&&sm n&&decide (c=-1))&&cT (cY a n (-1)).length then some (cY a n (-1)) else none
@[irreducible] noncomputable def EQ:List T->Option (List T)
 | []=>none
 |m::r=>match r with
  | []=>none
  |n::r=>match r with
   | []=>none
   |l::r=>match r with
    | []=>o2 (jJ m) (jJ n) fun a b=>o1 (jJ l) (dn a b)
    |_::_=>none
@[reducible] noncomputable def FN (r:PL):PL:=p1 EQ r
noncomputable def lk (ks:List T)(kn:T):List T->List (List T)->Option (List (List T))
 | [],ds=>some ds
 |o::r,ds=>o1 (mn ks o) fun i=>o1 i fun j=>o1 ds[j]? fun l=>bif cT (l.length+1) then lk ks kn r (ds.set j (l++[kn])) else none
noncomputable def sU (ks:List T)(th:T):List T->List (List T)->Option (List (List T))
 | [],ds=>some ds
 |kn::r,ds=>o1 (idxD th kn) fun l=>o1 (gI l) fun os=>o1 (lk ks kn os ds) fun ds=>sU ks th r ds
noncomputable def fM:List T->List T->Bool
 | [],_=>true
 |k::r,us=>match mn us k with
  |some none=>fM r (us++[k])
  |_=>false
theorem DR {ks:List T}{kn o:T}{r:List T}{ds:List (List T)}:lk ks kn (o::r) ds=o1 (mn ks o) fun i=>o1 i fun j=>o1 ds[j]? fun l=>bif cT (l.length+1) then lk ks kn r (ds.set j (l++[kn])) else none:=rfl
theorem DQ {ks:List T}{th kn:T}{r:List T}{ds:List (List T)}:sU ks th (kn::r) ds=o1 (idxD th kn) fun l=>o1 (gI l) fun os=>o1 (lk ks kn os ds) fun ds=>sU ks th r ds:=rfl
theorem oh {k:T}{r us:List T}:fM (k::r) us=(match mn us k with
  |some none=>fM r (us++[k])
  |_=>false):=rfl
noncomputable def sS (w:T):Option T:=o1 (kO 10 4 w) fun kl=>o1 (gI kl) fun ks=>o1 (kO 10 6 w) fun th=>bif cT ks.length&&fM ks [] then o1 (sU ks th ks (ks.map fun _=>[])) fun ds=>some (.dct ks (ds.map .lst)) else none
@[reducible] noncomputable def rQ:PS:=fun _ ρ σ _=>match bV ρ 0 with
 |some w=>match sS w with
  |some t=>.ret t σ
  |none=>.bad
 |none=>.bad
@[reducible] noncomputable def jB:PO:=fun _ _ (σ:S5) k=>k none σ
@[reducible] noncomputable def lP (is:List Nat)(e:PE):PS:=fun c ρ (σ:S5) k=>e c ρ σ fun v σ=>up (o1 (rH v) fun ts=>fh is ts ρ) σ k
@[reducible] noncomputable def ux:PE:=fun _ _ (σ:S5) k=>k (.dct [] []) σ
@[reducible] noncomputable def o7 (c i:Nat):PE:=fun _ ρ σ k=>up (cq c i ρ σ) σ k
@[reducible] noncomputable def CA (c i:Nat)(F:T->T->Option T)(q:PE):PE:=fun cx ρ σ k=>match cq c i ρ σ with
 |some t=>q cx ρ ⟨σ.spot,none⟩ fun s σ'=>up (F t s) ⟨σ'.spot,σ.self⟩ k
 |none=>.bad
@[reducible] noncomputable def qK (c i:Nat)(q:PE):PS:=fun cx ρ σ k=>match cq c i ρ σ with
 |some t=>gd (kT .list t) (q cx ρ ⟨σ.spot,none⟩ fun v σ'=>up (d9 t v) ⟨σ'.spot,σ.self⟩ fun y σ=>k ρ (σ.fld i y))
 |none=>.bad
@[reducible] noncomputable def pR (c i:Nat)(q e:PE):PS:=fun cx ρ σ k=>e cx ρ σ fun v σ=>match cq c i ρ σ with
 |some t=>q cx ρ ⟨σ.spot,none⟩ fun κ σ'=>up (eG t κ v) ⟨σ'.spot,σ.self⟩ fun y σ=>k ρ (σ.fld i y)
 |none=>.bad
@[reducible] noncomputable def nP (c i:Nat)(zb:PB)(elt:PE):PE:=fun cx ρ σ k=>match o1 (cq c i ρ σ) gI with
 |some xs=>br zb aJ elt cx ρ xs ⟨σ.spot,none⟩ [] fun ys σ'=>k (.lst ys) ⟨σ'.spot,σ.self⟩
 |none=>.bad
end
end Mine
end
namespace Mine
noncomputable section
open PySem PyProof.Rows
noncomputable def gW (a v i:T):Option T:=o2 (gI a) (jJ i) fun xs i=>bif decide (0<=i)&&sm i then o2 (di cB v) (ib xs) fun d es=>o1 ((es.drop i.toNat).findIdx? fun y=>PyData.eqv y d) fun j=>some (.int (i+(j:Nat))) else none
@[reducible] noncomputable def GA (K:MK)(F:T->T->T->Option T)(o e f:PE):PE:=fun c ρ σ k=>o c ρ σ fun a σ=>gd (kT K a) (e c ρ σ fun b σ=>f c ρ σ fun x σ=>up (F a b x) σ k)
noncomputable def Id (t:T):Option (Option Bool):=el ((EV t).map some) (bif isN t then some none else none)
noncomputable def IN (a b:T):Option Bool:=o2 (Id a) (EV b) fun x y=>some (x==some y)
noncomputable def y5 (a b:T):Option Bool:=(IN a b).map (!·)
end
end Mine
section
set_option tactic.hygienic false
set_option backward.eqns.nonrecursive false
namespace Mine
noncomputable section
open PySem
structure Pg where
 prog:Program
 w:World
 h₀:Heap
 cls:Nat->Addr
 Ψ:Nat->Option gK
 fnA:Nat->Addr
 fd:Nat->FuncData
 gl:Nat->Bool
 mg:Str->Option Value
 mb:Str->Option Value
noncomputable abbrev Pg.M (P:Pg):Model:=model P.prog P.w
noncomputable abbrev Pg.cx (P:Pg)(n:Nat):cr:=⟨aj P.Ψ n⟩
structure Gh where
 F:Addr->Prop
 Z:Addr->Prop
 o:Nat->Option Addr
 sp:Addr
 sa:Addr
noncomputable def Gh.O (g:Gh)(a:Addr):Prop:=∃i,g.o i=some a
noncomputable abbrev jg (vs:Array Value)(n:Nat):Obj:=⟨.type "tuple",none,.seq vs n,#[]⟩
noncomputable abbrev bO (vs:Array Value)(n:Nat):Obj:=⟨.type "list",none,.seq vs n,#[]⟩
structure Gu (P:Pg) (c:Nat) (dx:Addr) (o:Obj):Prop where
 cls:o.cls=.ref (P.cls c)
 dict:o.dict=some dx
 no:∀k,o.data≠.cls k
structure tZ (c:Nat) (m:Str->Option Value) (us:List Value):Prop where
 no:∀x,x∉cE c->m x=none
 at_:∀(i:Nat) (x:Str) (u:Value),us[i]?=some u->(cE c)[i]?=some x->m x=some u
structure IU (w:World) (ks:List T) (o:Obj) (es:List DictEntry):Prop where
 x:o.ExactDict
 d:∃ep,o.data=.dict es.toArray ep
 k:∃κ,gE ks=some κ/\es.map (·.hash)=κ.map (Ky.hash w)/\κ.Nodup
 l:ks.length<=lim
noncomputable def ql:List Int->List Value->Prop
 | [],vs=>vs=[]
 |i::is,vs=>∃t vs',vs=.int i t::vs'/\ql is vs'
theorem ay {h:Heap}{a:Addr}{o:Obj}(e:h.get? a=some o):h.get? a≠none:=fun q=>by rw [e] at q;cases q
inductive Fz (g:Gh) (O:Addr->Prop) (x:Value):Prop
 |mk (a:Addr) (e:x=.ref a) (f:g.F a) (o:O a)
inductive Am (h:Heap) (ob:Array Value->Nat->Obj) (R:List Value->Prop) (k:Nat) (a:Addr):Prop
 |mk (vs:Array Value) (n:Nat) (e:h.get? a=some (ob vs n)) (l:k<=lim) (r:R vs.toList)
inductive Ay (P:Pg) (h:Heap) (us:List T) (R R':List Value->Prop) (a:Addr):Prop
 |mk (q:(a==sysModules)=false) (o:Obj) (es:List DictEntry) (e:h.get? a=some o) (d:IU P.w us o es) (r:R (es.map (·.key))) (r':R' (es.map (·.val)))
inductive e9 (P:Pg) (h:Heap) (c:Nat) (m:Str->Option Value) (dx a:Addr):Prop
 |mk (o:Obj) (e:h.get? a=some o) (k:Gu P c dx o) (n:h.Ns1 dx m) (ne:dx≠a)
inductive GU (P:Pg) (g:Gh) (h:Heap) (c:Nat) (R:List Value->Prop) (a:Addr):Prop
 |mk (dx:Addr) (m:Str->Option Value) (us:List Value) (f:g.F dx) (i:e9 P h c m dx a) (k:tZ c m us) (r:R us)
inductive IR (P:Pg) (ns:List Int) (x:Value):Prop
 |mk (a:Addr) (items:Array Value) (e:x=.ref a) (l:P.h₀.IsList a items) (b:items.size<=lim) (r:ql ns items.toList)
mutual
noncomputable def Rp (P:Pg)(g:Gh)(h:Heap):T->Value->Prop
 |.none,x=>x=.none
 |.bool b,x=>x=.bool b
 |.int i,x=>∃t,x=.int i t
 |.str s,x=>(PyData.strOk s=true/\s.length<=lim)/\∃t,x=.str s t
 |.scr ns,x=>IR P ns x
 |.tup ts,x=>Fz g (Am h jg (bm P g h ts) ts.length) x
 |.lst ts,x=>Fz g (Am h bO (bm P g h ts) ts.length) x
 |.dct us ts,x=>Fz g (Ay P h us (bm P g h us) (bm P g h ts)) x
 |.obj c ts,x=>Fz g (GU P g h c (bm P g h ts)) x
 |.spot,x=>x=.ref g.sp
 |.self,_=>False
termination_by structural t=>t
noncomputable def bm (P:Pg)(g:Gh)(h:Heap):List T->List Value->Prop
 | [],vs=>vs=[]
 |t::ts,vs=>∃v vs',vs=v::vs'/\Rp P g h t v/\bm P g h ts vs'
termination_by structural t=>t
end
noncomputable def iY (P:Pg)(g:Gh)(h:Heap)(a:Addr):T->Prop
 |.lst ts=>Am h bO (bm P g h ts) ts.length a
 |.dct us ts=>Ay P h us (bm P g h us) (bm P g h ts) a
 |_=>False
section
variable {P:Pg} {g g':Gh} {h h':Heap}
structure aZ (g:Gh) (h:Heap) (g':Gh) (h':Heap):Prop where
 F:∀a,g.F a->g'.F a/\∀o,h.get? a=some o->h'.get? a=some o
 sp:g'.sp=g.sp
theorem Am.mono {ob:Array Value->Nat->Obj}{R R':List Value->Prop}{k:Nat}{a:Addr}(r:Am h ob R k a)(ha:∀o,h.get? a=some o->h'.get? a=some o)(q:∀v,R v->R' v):Am h' ob R' k a:=let ⟨vs,n,e,l,r⟩:=r;⟨vs,n,ha _ e,l,q _ r⟩
theorem Ay.mono {us:List T}{R R' S S':List Value->Prop}{a:Addr}(r:Ay P h us R S a)(ha:∀o,h.get? a=some o->h'.get? a=some o)(q:∀v,R v->R' v)(q':∀v,S v->S' v):Ay P h' us R' S' a:=let ⟨n,o,es,e,d,r,r'⟩:=r;⟨n,o,es,ha _ e,d,q _ r,q' _ r'⟩
theorem Fz.mono {O O':Addr->Prop}{x:Value}(k:aZ g h g' h')(r:Fz g O x)(q:∀a,(∀o,h.get? a=some o->h'.get? a=some o)->O a->O' a):Fz g' O' x:=let ⟨a,e,f,o⟩:=r;⟨a,e,(k.F a f).1,q a (k.F a f).2 o⟩
theorem e9.mono {c:Nat}{m:Str->Option Value}{dx a:Addr}(i:e9 P h c m dx a)(ha:∀o,h.get? a=some o->h'.get? a=some o)(hd:∀o,h.get? dx=some o->h'.get? dx=some o):e9 P h' c m dx a:=let ⟨o,e,k,n,ne⟩:=i;⟨o,ha _ e,k,n.at hd,ne⟩
theorem GU.mono {c:Nat}{R R':List Value->Prop}{a:Addr}(k:aZ g h g' h')(r:GU P g h c R a)(ha:∀o,h.get? a=some o->h'.get? a=some o)(q:∀v,R v->R' v):GU P g' h' c R' a:=let ⟨dx,m,us,f,i,i',r⟩:=r;⟨dx,m,us,(k.F dx f).1,i.mono ha (k.F dx f).2,i',q _ r⟩
theorem Rp.both (k:aZ g h g' h'):(∀t v,Rp P g h t v->Rp P g' h' t v)/\∀t v,bm P g h t v->bm P g' h' t v:=
 have n:∀v,bm P g h [] v->bm P g' h' [] v:=fun _ h=>h
 have c:∀(t:T) (ts:List T),(∀v,Rp P g h t v->Rp P g' h' t v)->(∀v,bm P g h ts v->bm P g' h' ts v)->∀v,bm P g h (t::ts) v->bm P g' h' (t::ts) v:=fun _ _ h h' _ ⟨v,vs,e,r,r'⟩=>⟨v,vs,e,h v r,h' vs r'⟩
 have a:∀t v,Rp P g h t v->Rp P g' h' t v:=fun t=>T.rec (motive_1:=fun t=>∀v,Rp P g h t v->Rp P g' h' t v) (motive_2:=fun t=>∀v,bm P g h t v->bm P g' h' t v)
  (fun _ h=>h) (fun _ _ h=>h) (fun _ _ h=>h) (fun _ _ h=>h) (fun _ ih _ r=>Fz.mono k r fun _ ha r=>r.mono ha ih) (fun _ ih _ r=>Fz.mono k r fun _ ha r=>r.mono ha ih)
  (fun _ _ i1 i2 _ r=>Fz.mono k r fun _ ha r=>r.mono ha i1 i2) (fun _ _ ih _ r=>Fz.mono k r fun _ ha r=>r.mono k ha ih)
  (fun _ _ h=>h) (fun v h=>(show v=_ from h).trans (congrArg Value.ref k.sp.symm)) (fun _ h=>h) n c t
 ⟨a,fun t=>List.rec n (fun t ts h=>c t ts (a t) h) t⟩
theorem Rp.mono (k:aZ g h g' h'){t:T}{x:Value}(r:Rp P g h t x):Rp P g' h' t x:=(Rp.both k).1 t x r
theorem bm.mono (k:aZ g h g' h'){t:List T}{x:List Value}(r:bm P g h t x):bm P g' h' t x:=(Rp.both k).2 t x r
theorem iY.case {a:Addr}{p:T->Prop}(h1:∀ts,iY P g h a (.lst ts)->p (.lst ts))(h2:∀us ts,iY P g h a (.dct us ts)->p (.dct us ts)):∀{t:T},iY P g h a t->p t
 |.lst ts,h=>h1 ts h
 |.dct us ts,h=>h2 us ts h
theorem iY.mono (k:aZ g h g' h'){a:Addr}(ha:∀o,h.get? a=some o->h'.get? a=some o){t:T}(r:iY P g h a t):iY P g' h' a t:=
 r.case (p:=iY P g' h' a) (fun _ r=>Am.mono r ha fun _=>bm.mono k) fun _ _ r=>Ay.mono r ha (fun _=>bm.mono k) fun _=>bm.mono k
theorem iY.rp {a:Addr}{t:T}(f:g.F a)(r:iY P g h a t):Rp P g h t (.ref a):=
 r.case (p:=fun t=>Rp P g h t (.ref a)) (fun _ h=>⟨a,rfl,f,h⟩) fun _ _ h=>⟨a,rfl,f,h⟩
theorem iY.live {a:Addr}{t:T}(r:iY P g h a t):h.get? a≠none:=
 r.case (p:=fun _=>h.get? a≠none) (fun _ r=>let ⟨_,_,e,_,_⟩:=r;ay e) fun _ _ r=>let ⟨_,_,_,e,_,_,_⟩:=r;ay e
theorem bm.nil:bm P g h [] []:=rfl
theorem bm.cons {v:Value}{t:T}{vs:List Value}{ts:List T}(q:Rp P g h t v)(r:bm P g h ts vs):bm P g h (t::ts) (v::vs):=⟨v,vs,rfl,q,r⟩
theorem bm.length {ts:List T}:∀{vs:List Value},bm P g h ts vs->vs.length=ts.length:=by
 induction ts with
 |nil=>exact fun h=>congrArg List.length h
 |cons t ts ih=>exact fun ⟨v,vs,e,_,r⟩=>e▸congrArg (·+1) (ih r)
theorem bm.append {ts':List T}{vs':List Value}(r':bm P g h ts' vs'){ts:List T}:∀{vs:List Value},bm P g h ts vs->bm P g h (ts++ts') (vs++vs'):=by
 induction ts with
 |nil=>exact fun h=>(show _=[] from h)▸r'
 |cons t ts ih=>exact fun ⟨v,vs,e,h,r⟩=>e▸bm.cons h (ih r)
theorem bm.get {ts:List T}:∀{vs:List Value},bm P g h ts vs->∀{i:Nat} {t:T},ts[i]?=some t->∃v,vs[i]?=some v/\Rp P g h t v:=by
 induction ts with
 |nil=>exact fun _ _ _ e=>nomatch e
 |cons t ts ih=>
  rintro _ ⟨v,vs,rfl,q,r⟩ i u e
  cases i with
  |zero=>exact ⟨v,rfl,Option.some.inj e▸q⟩
  |succ i=>exact ih r (i:=i) e
theorem bm.drop (n:Nat){ts:List T}:∀{vs:List Value},bm P g h ts vs->bm P g h (ts.drop n) (vs.drop n):=by
 induction n generalizing ts with
 |zero=>exact fun h=>h
 |succ n ih=>cases ts with
  |nil=>exact fun h=>(show _=[] from h)▸rfl
  |cons t ts=>exact fun ⟨v,vs,e,h,r⟩=>e▸ih r
theorem bm.take (n:Nat){ts:List T}:∀{vs:List Value},bm P g h ts vs->bm P g h (ts.take n) (vs.take n):=by
 induction n generalizing ts with
 |zero=>exact fun _=>rfl
 |succ n ih=>cases ts with
  |nil=>exact fun h=>(show _=[] from h)▸rfl
  |cons t ts=>exact fun ⟨v,vs,e,h,r⟩=>e▸bm.cons h (ih r)
theorem bm.set {v:Value}{t:T}(q:Rp P g h t v)(n:Nat){ts:List T}:∀{vs:List Value},bm P g h ts vs->bm P g h (ts.set n t) (vs.set n v):=by
 induction n generalizing ts with
 |zero=>cases ts with
  |nil=>exact fun h=>(show _=[] from h)▸rfl
  |cons t ts=>exact fun ⟨v,vs,e,h,r⟩=>e▸bm.cons q r
 |succ n ih=>cases ts with
  |nil=>exact fun h=>(show _=[] from h)▸rfl
  |cons t ts=>exact fun ⟨v,vs,e,h,r⟩=>e▸bm.cons h (ih r)
end
inductive jL (P:Pg) (g:Gh) (h:Heap) (c:Nat) (ts:List T):Prop
 |mk (dx:Addr) (m:Str->Option Value) (us:List Value) (i:e9 P h c m dx g.sa) (z:g.Z g.sa) (z':g.Z dx) (ne:dx≠g.sp/\g.sa≠g.sp) (f:tZ c m us) (l:us.length=ts.length)
  (sh:∀(i:Nat) (u:Value) (t:T),us[i]?=some u->ts[i]?=some t->iI c i=false->Rp P g h t u)
  (ow:∀(i:Nat) (u:Value) (t:T),us[i]?=some u->ts[i]?=some t->iI c i=true->∃a,u=.ref a/\g.Z a/\(a≠dx/\a≠g.sa/\a≠g.sp)/\iY P g h a t)
  (nn:∀(i j:Nat) (a:Addr),us[i]?=some (.ref a)->us[j]?=some (.ref a)->iI c i=true->iI c j=true->i=j)
structure bN (P:Pg) (g:Gh) (h:Heap) (σ:Sg):Prop where
 base:∀a o,P.h₀.get? a=some o->g.F a/\h.get? a=some o
 F:∀a,g.F a->h.get? a≠none
 Z:∀a,g.Z a->h.get? a≠none/\¬g.F a
 O:∀a,g.O a->h.get? a≠none/\¬g.F a/\¬g.Z a
 oo:∀i j a,g.o i=some a->g.o j=some a->i=j
 spot:(∃t n,h.get? g.sp=some (bO #[.int σ.spot t] n))/\g.Z g.sp/\(σ.self=none->∀a,g.Z a->a=g.sp)
 self:∀c ts,σ.self=some (c,ts)->jL P g h c ts
structure aQ (g:Gh) (s:Shared) (g':Gh) (s':Shared):Prop where
 st:∃h' tk,s'={s with heap:=h',toks:=tk}
 keep:∀a o,s.heap.get? a=some o->¬g.Z a->s'.heap.get? a=some o
 back:∀a,s'.heap.get? a=none->s.heap.get? a=none
 F:∀a,g.F a->g'.F a
 Fn:∀a,g'.F a->g.F a\/s.heap.get? a=none
 Zn:∀a,g'.Z a->g.Z a\/s.heap.get? a=none
 o:g'.o=g.o
 sp:g'.sp=g.sp
 sa:g'.sa=g.sa
theorem St.trans {s s₁ s2:Shared}(p:∃h' tk,s₁={s with heap:=h',toks:=tk})(q:∃h' tk,s2={s₁ with heap:=h',toks:=tk}):∃h' tk,s2={s with heap:=h',toks:=tk}:=
 let ⟨_,_,e⟩:=p;let ⟨h,t,e'⟩:=q;⟨h,t,by rw [e',e]⟩
theorem aQ.refl (g:Gh)(s:Shared):aQ g s g s:=⟨⟨s.heap,s.toks,rfl⟩,fun _ _ e _=>e,fun _ e=>e,fun _ h=>h,fun _ h=>.inl h,fun _ h=>.inl h,rfl,rfl,rfl⟩
theorem aQ.trans {g g1 g2:Gh}{s s₁ s2:Shared}(p:aQ g s g1 s₁)(q:aQ g1 s₁ g2 s2):aQ g s g2 s2:=
 ⟨St.trans p.st q.st,fun a o e n=>q.keep a o (p.keep a o e n) fun z=>(p.Zn a z).elim n fun z=>(ay e z).elim,fun a e=>p.back a (q.back a e),fun a f=>q.F a (p.F a f),
  fun a f=>(q.Fn a f).elim (p.Fn a) fun e=>.inr (p.back a e),fun a f=>(q.Zn a f).elim (p.Zn a) fun e=>.inr (p.back a e),q.o.trans p.o,q.sp.trans p.sp,q.sa.trans p.sa⟩
theorem aQ.toks (g:Gh)(s:Shared)(t:Nat):aQ g s g {s with toks:=t}:=⟨⟨s.heap,t,rfl⟩,fun _ _ e _=>e,fun _ e=>e,fun _ h=>h,fun _ h=>.inl h,fun _ h=>.inl h,rfl,rfl,rfl⟩
theorem aQ.k {P:Pg}{g g':Gh}{s s':Shared}{σ:Sg}(p:aQ g s g' s')(w:bN P g s.heap σ):aZ g s.heap g' s'.heap:=
 ⟨fun a f=>⟨p.F a f,fun o e=>p.keep a o e fun z=>(w.Z a z).2 f⟩,p.sp⟩
theorem jL.mono' {P:Pg}{g g':Gh}{h h':Heap}{c:Nat}{ts:List T}(k:aZ g h g' h')(z:∀a,a≠g.sp->g.Z a->g'.Z a/\∀o,h.get? a=some o->h'.get? a=some o)(hs:g'.sa=g.sa)(s:jL P g h c ts):jL P g' h' c ts:=by
 obtain ⟨dx,m,us,i,z1,z2,ne,f,l,sh,ow,nn⟩:=s
 have hp:=k.sp
 have a1:=z _ ne.2 z1
 have a2:=z _ ne.1 z2
 refine ⟨dx,m,us,hs▸i.mono a1.2 a2.2,hs▸a1.1,a2.1,hs▸hp▸ne,f,l,fun j u t h1 h2 h3=>(sh j u t h1 h2 h3).mono k,fun j u t h1 h2 h3=>?_,nn⟩
 obtain ⟨a,h4,h5,h6,h7⟩:=ow j u t h1 h2 h3
 have a3:=z _ h6.2.2 h5
 exact ⟨a,h4,a3.1,hs▸hp▸h6,h7.mono k a3.2⟩
theorem jL.mono {P:Pg}{g g':Gh}{h h':Heap}{c:Nat}{ts:List T}(k:aZ g h g' h')(z:∀a,g.Z a->g'.Z a/\∀o,h.get? a=some o->h'.get? a=some o)(hs:g'.sa=g.sa)(s:jL P g h c ts):jL P g' h' c ts:=s.mono' k (fun a _=>z a) hs
theorem bN.grow {P:Pg}{g:Gh}{h h':Heap}{σ:Sg}(w:bN P g h σ)(k:∀a o,h.get? a=some o->h'.get? a=some o)(F:Addr->Prop)(hF:∀a,g.F a->F a)(hn:∀a,F a->g.F a\/(h.get? a=none/\h'.get? a≠none)):bN P {g with F:=F} h' σ:=by
 have lv:∀a,h.get? a≠none->h'.get? a≠none:=fun a n q=>by
  cases e:h.get? a with
  |none=>exact n e
  |some o=>rw [k a o e] at q;cases q
 have kf:aZ g h {g with F:=F} h':=⟨fun a f=>⟨hF a f,k a⟩,rfl⟩
 have nf:∀a,h.get? a≠none->¬g.F a->¬F a:=fun a l n q=>(hn a q).elim n fun q=>l q.1
 exact ⟨fun a o e=>⟨hF a (w.base a o e).1,k a o (w.base a o e).2⟩,fun a f=>(hn a f).elim (fun f=>lv a (w.F a f)) (·.2),fun a z=>⟨lv a (w.Z a z).1,nf a (w.Z a z).1 (w.Z a z).2⟩,
  fun a z=>⟨lv a (w.O a z).1,nf a (w.O a z).1 (w.O a z).2.1,(w.O a z).2.2⟩,w.oo,⟨let ⟨t,n,e⟩:=w.spot.1;⟨t,n,k _ _ e⟩,w.spot.2⟩,fun c ts e=>(w.self c ts e).mono kf (fun a z=>⟨z,k a⟩) rfl⟩
theorem aQ.grow {g:Gh}{s:Shared}{h':Heap}(t:Nat)(k:∀a o,s.heap.get? a=some o->h'.get? a=some o)(F:Addr->Prop)(hF:∀a,g.F a->F a)(hn:∀a,F a->g.F a\/s.heap.get? a=none):aQ g s {g with F:=F} {s with heap:=h',toks:=t}:=
 ⟨⟨h',t,rfl⟩,fun a o e _=>k a o e,fun a e=>by
  cases q:s.heap.get? a with
  |none=>rfl
  |some o=>exact (ay (k a o q) e).elim,hF,hn,fun _ h=>.inl h,rfl,rfl,rfl⟩
theorem bN.toks {P:Pg}{g:Gh}{s:Shared}{σ:Sg}(w:bN P g s.heap σ)(t:Nat):bN P g ({s with toks:=t}:Shared).heap σ:=w
theorem aR (h:Heap):h.get? h.objs.size=none:=by
 cases e:h.get? h.objs.size with
 |none=>rfl
 |some o=>exact absurd (Heap.lt_size e) (Nat.lt_irrefl _)
end
end Mine
namespace Mine
noncomputable section
open PySem PyProof.Rows
noncomputable def jH:List Str:=["len","isinstance","list","tuple","str","int","bool","range","zip","enumerate","any","all","max","sorted","dict","set","ValueError"]
structure t3 (P:Pg):Prop where
 g:P.h₀.Ns mainGlobals P.mg
 b:P.h₀.Ns builtinsNs P.mb
 nolimit:P.h₀.NoLimit
 fn:∀f F,P.Ψ f=some F->∃o,P.h₀.get? (P.fnA f)=some o/\o.data=.func (P.fd f)/\(P.gl f=true->P.mg (P.fd f).name=some (.ref (P.fnA f)))/\P.h₀.CodeRec (P.fd f).code (P.fd f).qualname/\
  (P.fd f).closure=[]/\(P.fd f).globals=mainGlobals/\(P.fd f).builtins=builtinsNs
 blt:∀x∈jH,P.mg x=none/\P.mb x=bootBuiltins x
structure b7 where
 sc:Scope
 tab:List (Option (Str×NameKind))
noncomputable def b7.ok (B:b7):Bool:=B.sc.kind==.function&&(B.tab.all fun
  |some (x,k)=>B.sc.names.lookup x==some k&&(k==.local||k==.cell||k==.free)&&!(x==("__debug__":Str))&&!(x==("__classdict__":Str))
  |none=>true)&&decide ((B.tab.filterMap (·.map (·.1))).Nodup)
structure Ct where
 O:List Nat
 U:List Nat
 m:Bool
noncomputable def bL (C:Ct)(i:Nat):Bool:=C.O.any (Nat.beq i)
inductive Jl (P:Pg) (g:Gh) (h:Heap) (i:Nat) (t:T) (u:Value):Prop
 |mk (a:Addr) (e:u=.ref a) (o:g.o i=some a) (r:iY P g h a t)
noncomputable def bW (P:Pg)(C:Ct)(g:Gh)(h:Heap)(i:Nat)(t:T)(u:Value):Prop:=match bL C i with
 |true=>Jl P g h i t u
 |false=>Rp P g h t u\/(C.m=true/\i=0/\t=.self/\u=.ref g.sa)
inductive dI (B:b7) (env:Env) (h:Heap) (i:Nat) (u:Value):Prop
 |loc (x:Str) (m:Str->Option Value) (t:B.tab[i]?=some (some (x,.local))) (n:h.Ns env.locals m) (e:m x=some u)
 |cel (x:Str) (k:NameKind) (c:Addr) (t:B.tab[i]?=some (some (x,k))) (hk:k=.cell\/k=.free) (l:env.cells.lookup x=some c) (n:h.IsCell c (some u))
noncomputable def own (env:Env):List Addr:=env.locals::env.cells.map (·.2)
structure cI (P:Pg) (B:b7) (C:Ct) (env:Env) (g:Gh) (ρ:aW) (h:Heap):Prop where
 ok:B.ok=true
 sc:env.scope=B.sc
 glob:env.globals=mainGlobals
 blt:env.builtins=builtinsNs
 ns:∃m,h.Ns env.locals m
 cell:∀(i:Nat) (x:Str) (k:NameKind),B.tab[i]?=some (some (x,k))->k=.cell\/k=.free->∃c u,env.cells.lookup x=some c/\h.IsCell c u
 apart:∀x y c,env.cells.lookup x=some c->env.cells.lookup y=some c->x=y
 own:∀a∈own env,h.get? a≠none/\¬g.F a/\¬g.Z a/\¬g.O a
 var:∀i y t,B.tab[i]?=some (some y)->bV ρ i=some t->∃u,dI B env h i u/\bW P C g h i t u
 un:∀i∈C.U,bV ρ i=none
noncomputable def Ch (A:Around)(n:Nat):Prop:=A.depth+2 * n+10 < recursionLimit/\A.units+20 * n+200 < cLine/\A.handled=none
noncomputable def oX (A:Around)(n:Nat):Prop:=A.depth+2 * n+9 < recursionLimit/\A.units+20 * n+190 < cLine/\A.handled=none
theorem Ch.c {A:Around}{n:Nat}(h:Ch A n):oX A n:=⟨Nat.lt_of_succ_lt h.1,lt_of_le_of_lt (add_le_add_left (by decide) _) h.2.1,h.2.2⟩
inductive Cj (P:Pg) (h:Heap) (g':Gh) (h':Heap) (t:T) (x:Value):Prop
 |mk (a:Addr) (e:x=.ref a) (n:h.get? a=none) (f:¬g'.F a) (z:¬g'.Z a) (o:¬g'.O a) (r:iY P g' h' a t)
noncomputable def C8 (P:Pg)(fr:Bool)(h:Heap)(g':Gh)(h':Heap)(t:T)(x:Value):Prop:=match fr with
 |false=>Rp P g' h' t x
 |true=>Cj P h g' h' t x
noncomputable def Args (P:Pg)(m:Bool)(g:Gh)(h:Heap)(ts:List T)(vs:List Value):Prop:=match m with
 |false=>bm P g h ts vs
 |true=>∃v vs' t ts',vs=v::vs'/\ts=t::ts'/\(Rp P g h t v\/(t=.self/\v=.ref g.sa))/\bm P g h ts' vs'
noncomputable def rL (P:Pg)(n:Nat):Prop:=
 ∀f A ts vs g σ s t σ' (Q:Value->Shared->Prop) (E:Value->Shared->Prop),oX A n->bN P g s.heap σ->Args P (t9 f) g s.heap ts vs->aj P.Ψ n f ts σ=.ret t σ'->
  (∀x s' g',aQ g s g' s'->bN P g' s'.heap σ'->C8 P (kW f) s.heap g' s'.heap t x->Q x s')->
  codeAny P.M A (.call (.ref (P.fnA f)) ⟨vs,[]⟩) (fun r s'=>match r with
   |.ok (.ret x)=>Q x s'
   |.ok _=>False
   |.error x=>E x s') s
structure At (P:Pg) (B:b7) (C:Ct) (n:Nat) (A:Around) (env:Env) (g:Gh) (ρ:aW) (σ:Sg) (s:Shared):Prop where
 good:t3 P
 call:∀k,k<=n->rL P k
 room:Ch A n
 env:cI P B C env g ρ s.heap
 g:bN P g s.heap σ
noncomputable abbrev WP (α:Type):=Around->Env->(α->Shared->Prop)->(Value->Shared->Prop)->Shared->Prop
noncomputable abbrev RR (α j:Type):=Heap->Gh->Heap->j->α->Prop
noncomputable def ee (P:Pg)(B:b7)(C:Ct){α j:Type}(W:WP α)(p:PG j)(R:RR α j):Prop:=
 ∀n A env g ρ σ s (k:PK j) (Q:α->Shared->Prop) (E:Value->Shared->Prop),At P B C n A env g ρ σ s->p (P.cx n) ρ σ k≠.bad->
  (∀x s' g' t σ',p (P.cx n) ρ σ k=k t σ'->aQ g s g' s'->bN P g' s'.heap σ'->R s.heap g' s'.heap t x->Q x s')->W A env Q E s
noncomputable abbrev Pg.W (P:Pg){α:Type}(c:Env->Sem α):WP α:=fun A env Q E s=>wpAny P.M A (c env) Q E s
noncomputable abbrev RV (P:Pg):RR Value T:=fun _ g h t x=>Rp P g h t x
noncomputable abbrev RN (P:Pg):RR Value T:=fun h₀ g h t x=>Cj P h₀ g h t x
noncomputable def jq (P:Pg)(g:Gh)(h:Heap)(t:T)(x:Value):Prop:=Rp P g h t x\/∃a,x=.ref a/\(g.O a\/¬g.Z a)/\iY P g h a t
noncomputable abbrev RX (P:Pg):RR Value T:=fun _ g h t x=>jq P g h t x
noncomputable abbrev RL (P:Pg):RR (List Value) (List T):=fun _ g h t x=>bm P g h t x
noncomputable abbrev RQ {α:Type}:RR α α:=fun _ _ _ t x=>t=x
noncomputable abbrev av (P:Pg)(B:b7)(C:Ct)(e:Expr)(p:PE)(R:RR Value T):Prop:=ee P B C (P.W fun env=>eval e env) p R
noncomputable abbrev cW (P:Pg)(B:b7)(C:Ct)(e:Expr)(p:PT):Prop:=ee P B C (P.W fun env=>isTrue e env (eval e env)) p RQ
structure ig (P:Pg) (B:b7) (C:Ct) (es:List Expr) (p:PL):Prop where
 pl:∀env,∀q∈starEach es env,q.1=false
 sim:∀pos,ee P B C (P.W fun env=>spliced (backTo pos (starEach es env))) p (RL P)
section
variable {P:Pg} {B:b7} {C:Ct} {n:Nat} {A:Around} {env:Env} {g g':Gh} {ρ:aW} {σ σ':Sg} {s s':Shared} {h h':Heap} {t:T} {x:Value}
theorem bG {l:List (Str×Addr)}{x:Str}{c:Addr}(h:l.lookup x=some c):c∈l.map (·.2):=by
 induction l with
 |nil=>cases h
 |cons p r ih=>
  obtain ⟨y,d⟩:=p
  rw [lookup_cons] at h
  split at h
  .cases h;exact mem_cons_self
  .exact mem_cons_of_mem _ (ih h)
theorem dI.move {i:Nat}{u:Value}(k:∀a∈Mine.own env,∀o,h.get? a=some o->h'.get? a=some o)(v:dI B env h i u):dI B env h' i u:=by
 cases v with
 |loc x m t n e=>exact .loc x m t (n.at (k _ mem_cons_self)) e
 |cel x kk c t hk l n=>
  obtain ⟨o,e,d⟩:=n
  exact .cel x kk c t hk l ⟨o,k c (mem_cons_of_mem _ (bG l)) o e,d⟩
theorem bW.move {i:Nat}{u:Value}(k:aZ g h g' h')(eo:g'.o=g.o)(es:g'.sa=g.sa)(ko:∀a,g.O a->∀o,h.get? a=some o->h'.get? a=some o)(v:bW P C g h i t u):bW P C g' h' i t u:=by
 unfold bW at *
 cases q:bL C i with
 |true=>rw [q] at v;exact let ⟨a,e,o,r⟩:=v;⟨a,e,eo▸o,r.mono k (ko a ⟨i,o⟩)⟩
 |false=>rw [q] at v;exact v.imp (·.mono k) fun ⟨a,b,c,d⟩=>⟨a,b,c,es▸d⟩
theorem cI.move (x:cI P B C env g ρ h)(k:aZ g h g' h')(eo:g'.o=g.o)(es:g'.sa=g.sa)(ko:∀a,g.O a\/a∈Mine.own env->∀o,h.get? a=some o->h'.get? a=some o)(lv:∀a∈Mine.own env,h'.get? a≠none/\¬g'.F a/\¬g'.Z a):cI P B C env g' ρ h':=
 {x with
  ns:=let ⟨m,n⟩:=x.ns;⟨m,n.at (ko _ (.inr mem_cons_self))⟩
  cell:=fun i y kk ht hk=>let ⟨c,u,l,o,e,d⟩:=x.cell i y kk ht hk;⟨c,u,l,o,ko c (.inr (mem_cons_of_mem _ (bG l))) o e,d⟩
  own:=fun a ha=>⟨(lv a ha).1,(lv a ha).2.1,(lv a ha).2.2,fun ⟨i,q⟩=>(x.own a ha).2.2.2 ⟨i,eo▸q⟩⟩
  var:=fun i y t ht hv=>let ⟨u,v,w⟩:=x.var i y t ht hv;⟨u,v.move fun a ha=>ko a (.inr ha),w.move k eo es fun a ha=>ko a (.inl ha)⟩}
theorem aQ.live (p:aQ g s g' s'){a:Addr}(l:s.heap.get? a≠none):s'.heap.get? a≠none:=fun q=>l (p.back a q)
theorem cI.post (x:cI P B C env g ρ s.heap)(w:bN P g s.heap σ)(p:aQ g s g' s'):cI P B C env g' ρ s'.heap:=
 x.move (p.k w) p.o p.sa (fun a ha o e=>p.keep a o e (ha.elim (fun q=>(w.O a q).2.2) fun q=>(x.own a q).2.2.1)) fun a ha=>let ⟨l,f,z,_⟩:=x.own a ha;⟨p.live l,fun q=>(p.Fn a q).elim f l,fun q=>(p.Zn a q).elim z l⟩
theorem At.post (X:At P B C n A env g ρ σ s)(p:aQ g s g' s')(w:bN P g' s'.heap σ'):At P B C n A env g' ρ σ' s':=⟨X.good,X.call,X.room,X.env.post X.g p,w⟩
theorem At.units (X:At P B C n A env g ρ σ s):A.units+200 < cLine:=lt_of_le_of_lt (Nat.add_le_add_right (le_add_right _ _) _) X.room.2.1
theorem At.depth (X:At P B C n A env g ρ σ s):A.depth+10 < recursionLimit:=lt_of_le_of_lt (Nat.add_le_add_right (le_add_right _ _) _) X.room.1
theorem jq.post (w:bN P g s.heap σ)(p:aQ g s g' s')(r:jq P g s.heap t x):jq P g' s'.heap t x:=
 r.imp (·.mono (p.k w)) fun ⟨a,e,q,r⟩=>⟨a,e,q.imp (fun ⟨i,q⟩=>⟨i,p.o▸q⟩) fun z q=>(p.Zn a q).elim z r.live,r.mono (p.k w) fun o e=>p.keep a o e (q.elim (fun q=>(w.O a q).2.2) id)⟩
theorem ee.map {α j:Type}{W W':WP α}{p:PG j}{R:RR α j}(h:ee P B C W p R)(hW:∀A env Q E s,W A env Q E s->W' A env Q E s):ee P B C W' p R:=fun n A env g ρ σ s k Q E X hb hq=>hW A env Q E s (h n A env g ρ σ s k Q E X hb hq)
theorem ee.weak {α j:Type}{W:WP α}{p:PG j}{R R':RR α j}(h:ee P B C W p R)(hR:∀h g h' t x,R h g h' t x->R' h g h' t x):ee P B C W p R':=fun n A env g ρ σ s k Q E X hb hq=>h n A env g ρ σ s k Q E X hb fun x s' g' t σ' e p w r=>hq x s' g' t σ' e p w (hR _ _ _ _ _ r)
theorem ee.vx {W:WP Value}{p:PE}(h:ee P B C W p (RV P)):ee P B C W p (RX P):=h.weak fun _ _ _ _ _ r=>.inl r
theorem ee.nx {W:WP Value}{p:PE}(h:ee P B C W p (RN P)):ee P B C W p (RX P):=h.weak fun _ _ _ _ _ r=>let ⟨a,e,_,_,z,_,r⟩:=r;.inr ⟨a,e,.inr z,r⟩
theorem bN.freeze {a:Addr}(w:bN P g h σ)(l:h.get? a≠none)(z:¬g.Z a)(o:¬g.O a):bN P {g with F:=fun y=>g.F y\/y=a} h σ:=by
 have kf:aZ g h {g with F:=fun y=>g.F y\/y=a} h:=⟨fun b f=>⟨.inl f,fun _ e=>e⟩,rfl⟩
 exact ⟨fun b o e=>⟨.inl (w.base b o e).1,(w.base b o e).2⟩,fun b f=>f.elim (w.F b) fun q=>q▸l,fun b q=>⟨(w.Z b q).1,fun f=>f.elim (w.Z b q).2 fun e=>z (e▸q)⟩,
  fun b q=>⟨(w.O b q).1,fun f=>f.elim (w.O b q).2.1 fun e=>o (e▸q),(w.O b q).2.2⟩,w.oo,w.spot,fun c ts e=>(w.self c ts e).mono kf (fun _ q=>⟨q,fun _ e=>e⟩) rfl⟩
theorem ee.nv {W:WP Value}{p:PE}(h:ee P B C W p (RN P)):ee P B C W p (RV P):=fun n A env g ρ σ s k Q E X hb hq=>h n A env g ρ σ s k Q E X hb fun x s' g' t σ' e p w r=>by
 obtain ⟨a,rfl,n,f,z,o,r⟩:=r
 have kf:aZ g' s'.heap {g' with F:=fun y=>g'.F y\/y=a} s'.heap:=⟨fun b f=>⟨.inl f,fun _ e=>e⟩,rfl⟩
 exact hq _ s' {g' with F:=fun y=>g'.F y\/y=a} t σ' e ⟨p.st,p.keep,p.back,fun b f=>.inl (p.F b f),fun b f=>f.elim (p.Fn b) fun e=>.inr (e▸n),p.Zn,p.o,p.sp,p.sa⟩ (w.freeze r.live z o) ((r.mono kf fun _ e=>e).rp (.inr rfl))
theorem ee.now {α j:Type}{W:WP α}{p:PG j}{R:RR α j}(h:∀n A env g ρ σ s (k:PK j) (Q:α->Shared->Prop) (E:Value->Shared->Prop),At P B C n A env g ρ σ s->p (P.cx n) ρ σ k≠.bad->(∀x t tk,p (P.cx n) ρ σ k=k t σ->R s.heap g s.heap t x->Q x {s with toks:=tk})->W A env Q E s):ee P B C W p R:=
 fun n A env g ρ σ s k Q E X hb hq=>h n A env g ρ σ s k Q E X hb fun x t tk e r=>hq x _ g t σ e (.toks g s tk) X.g r
end
noncomputable def Dn {α j:Type}(R:RR α j):Prop:=∀h ha g h' t x,(∀a,ha.get? a=none->h.get? a=none)->R ha g h' t x->R h g h' t x
section
variable {P:Pg} {B:b7} {C:Ct}
theorem lA:Dn (RV P):=fun _ _ _ _ _ _ _ r=>r
theorem Jq:Dn (RX P):=fun _ _ _ _ _ _ _ r=>r
theorem Ji:Dn (RL P):=fun _ _ _ _ _ _ _ r=>r
theorem ER {α:Type}:Dn (RQ (α:=α)):=fun _ _ _ _ _ _ _ r=>r
theorem F2:Dn (RN P):=fun _ _ _ _ _ _ b r=>let ⟨a,e,n,f,z,o,r⟩:=r;⟨a,e,b a n,f,z,o,r⟩
theorem ee.bind {α j γ d:Type}{W:WP α}{p:PG j}{R:RR α j}{N:Around->Env->α->(γ->Shared->Prop)->(Value->Shared->Prop)->Shared->Prop}{F:cr->aW->PK d->PK j}{R':RR γ d}(h:ee P B C W p R)(hd:Dn R')
  (hf:∀n A env g g1 ρ σ s s₁ x t (k:PK d) Q E,aQ g s g1 s₁->At P B C n A env g1 ρ σ s₁->R s.heap g1 s₁.heap t x->F (P.cx n) ρ k t σ≠.bad->
   (∀y s' g' u σ',F (P.cx n) ρ k t σ=k u σ'->aQ g1 s₁ g' s'->bN P g' s'.heap σ'->R' s₁.heap g' s'.heap u y->Q y s')->N A env x Q E s₁):
  ee P B C (fun A env Q E s=>W A env (fun x s₁=>N A env x Q E s₁) E s) (fun c ρ σ k=>p c ρ σ (F c ρ k)) R':=fun n A env g ρ σ s k Q E X hb hq=>
 h n A env g ρ σ s (F _ ρ k) _ E X hb fun x s₁ g1 t σ₁ e p w r=>hf n A env g g1 ρ σ₁ s s₁ x t k Q E p (X.post p w) r (fun q=>hb (e.trans q)) fun y s' g' u σ' e' p' w' r'=>hq y s' g' u σ' (e.trans e') (p.trans p') w' (hd _ _ _ _ _ _ p.back r')
theorem cG {α:Type}{o:Option α}{σ:Sg}{k:PK α}(h:up o σ k≠.bad):∃a,o=some a:=by
 cases o with
 |none=>exact absurd rfl h
 |some a=>exact ⟨a,rfl⟩
noncomputable def fU (P:Pg)(g:Gh)(h:Heap)(t:T)(x:Value):Prop:=Rp P g h t x\/∃a,x=.ref a/\iY P g h a t
theorem jq.y {g:Gh}{h:Heap}{t:T}{x:Value}(r:jq P g h t x):fU P g h t x:=r.imp id fun ⟨a,e,_,r⟩=>⟨a,e,r⟩
noncomputable abbrev RY (P:Pg):RR Value T:=fun _ g h t x=>fU P g h t x
theorem ee.xy {W:WP Value}{p:PE}(h:ee P B C W p (RX P)):ee P B C W p (RY P):=h.weak fun _ _ _ _ _=>jq.y
structure Rm (A:Around):Prop where
 units:A.units+200 < cLine
 handled:A.handled=none
 depth:A.depth+10 < recursionLimit
theorem At.rm {n:Nat}{A:Around}{env:Env}{g:Gh}{ρ:aW}{σ:Sg}{s:Shared}(X:At P B C n A env g ρ σ s):Rm A:=⟨X.units,X.room.2.2,X.depth⟩
noncomputable abbrev W1 (γ:Type):=Around->Env->Value->(γ->Shared->Prop)->(Value->Shared->Prop)->Shared->Prop
noncomputable abbrev W2 (γ:Type):=Around->Env->Value->Value->(γ->Shared->Prop)->(Value->Shared->Prop)->Shared->Prop
noncomputable def Ax (P:Pg){γ d:Type}(N:W1 γ)(F:T->Option d)(R:RR γ d):Prop:=
 ∀A env g σ s x t y Q E,Rm A->bN P g s.heap σ->fU P g s.heap t x->F t=some y->(∀u s' g',aQ g s g' s'->bN P g' s'.heap σ->R s.heap g' s'.heap y u->Q u s')->N A env x Q E s
noncomputable def rJ (P:Pg){γ d:Type}(N:W2 γ)(F:T->T->Option d)(R:RR γ d):Prop:=
 ∀A env g σ s x x' t t' y Q E,Rm A->bN P g s.heap σ->fU P g s.heap t x->fU P g s.heap t' x'->F t t'=some y->(∀u s' g',aQ g s g' s'->bN P g' s'.heap σ->R s.heap g' s'.heap y u->Q u s')->N A env x x' Q E s
theorem ee.op1 {γ d:Type}{W:WP Value}{p:PE}{N:W1 γ}{F:T->Option d}{R:RR γ d}(h:ee P B C W p (RY P))(hd:Dn R)(o:Ax P N F R):ee P B C (fun A env Q E s=>W A env (fun x s₁=>N A env x Q E s₁) E s) (p1 F p) R:=
 h.bind (F:=fun _ _ k t σ=>up (F t) σ k) hd fun n A env g g1 ρ σ s s₁ x t k Q E p X r hb hq=>by
  obtain ⟨y,e⟩:=cG hb
  exact o A env g1 σ s₁ x t y Q E X.rm X.g r e fun u s' g' p w r=>hq u s' g' y σ (by rw [e];rfl) p w r
theorem ee.op2 {γ d:Type}{W W':WP Value}{p p':PE}{N:W2 γ}{F:T->T->Option d}{R:RR γ d}(h:ee P B C W p (RX P))(h':ee P B C W' p' (RY P))(hd:Dn R)(o:rJ P N F R):
  ee P B C (fun A env Q E s=>W A env (fun x s₁=>W' A env (fun y s2=>N A env x y Q E s2) E s₁) E s) (p2 F p p') R:=
 h.bind (N:=fun A env x Q E s₁=>W' A env (fun y s2=>N A env x y Q E s2) E s₁) (F:=fun c ρ k a σ=>p' c ρ σ fun b σ=>up (F a b) σ k) hd fun n A env g g1 ρ σ s s₁ x t k Q E p X r hb hq=>
  h' n A env g1 ρ σ s₁ _ _ E X hb fun x' s2 g2 t' σ₂ e pa w2 r2=>by
   obtain ⟨y,e'⟩:=cG fun q=>hb (e.trans q)
   exact o A env g2 σ₂ s2 x x' t t' y Q E X.rm w2 (jq.post X.g pa r).y r2 e' fun u s' g' p w r=>hq u s' g' y σ₂ (e.trans (by rw [e'];rfl)) (pa.trans p) w (hd _ _ _ _ _ _ pa.back r)
theorem av.none {k pos}:av P B C (.Constant .none k pos) (pC .none) (RV P):=.now fun _ _ _ _ _ _ _ _ _ _ _ _ hq=>wpAny_Constant_none (hq _ _ _ rfl rfl)
theorem av.bool {b k pos}:av P B C (.Constant (.bool b) k pos) (pC (.bool b)) (RV P):=.now fun _ _ _ _ _ _ _ _ _ _ _ _ hq=>wpAny_Constant_bool (hq _ _ _ rfl rfl)
theorem av.int {i k pos}:av P B C (.Constant (.int i) k pos) (pC (.int i)) (RV P):=.now fun _ _ _ _ _ _ _ _ _ _ _ _ hq=>wpAny_Constant_int (hq _ _ _ rfl ⟨_,rfl⟩)
theorem av.str {y k pos}(h:(PyData.strOk y&&decide (y.length<=lim))=true):av P B C (.Constant (.str y) k pos) (pC (.str y)) (RV P):=.now fun _ _ _ _ _ _ _ _ _ _ _ _ hq=>
 have h':=ai h
 wpAny_Constant_str (hq _ _ _ rfl ⟨⟨h'.1,of_decide_eq_true h'.2⟩,_,rfl⟩)
theorem b7.look {B:b7}(h:B.ok=true){i:Nat}{x:Str}{k:NameKind}(ht:B.tab[i]?=some (some (x,k))):
  B.sc.kind=.function/\B.sc.names.lookup x=some k/\(k=.local\/k=.cell\/k=.free)/\(x==("__debug__":Str))=false/\(x==("__classdict__":Str))=false:=by
 simp only [b7.ok,and_eq_true,beq_iff_eq] at h
 have:=aI h.1.2 _ (mem_of_getElem? ht)
 simp only [and_eq_true,beq_iff_eq,or_eq_true,not_eq_true'] at this
 exact ⟨h.1.1,this.1.1.1,this.1.1.2.elim (fun q=>q.imp_right .inl) fun q=>.inr (.inr q),this.1.2,this.2⟩
theorem bJ {n:Nat}{A:Around}{env:Env}{g:Gh}{ρ:aW}{σ:Sg}{s:Shared}{i:Nat}{y:Str}{u:Value}{k:NameKind}{pos:Pos}{Q:Value->Shared->Prop}{E:Value->Shared->Prop}(X:At P B C n A env g ρ σ s)(ht:B.tab[i]?=some (some (y,k)))(v:dI B env s.heap i u)(hq:Q u s):
  wpAny P.M A (eval (.Name y pos) env) Q E s:=by
 obtain ⟨h1,h2,h3,h4,h5⟩:=b7.look X.env.ok ht
 have hk:env.scope.kind=.function:=X.env.sc▸h1
 cases v with
 |loc x m t n e=>
  rw [t] at ht;cases ht
  exact wpAny_Name (wpAny_loadName_local hk (show env.scope.names.lookup y=_ from X.env.sc▸h2) n e hq) h4
 |cel x k c t hk' l n=>
  rw [t] at ht;cases ht
  rcases hk' with rfl |rfl
  .exact wpAny_Name (wpAny_loadName_cell hk (show env.scope.names.lookup y=_ from X.env.sc▸h2) l n hq) h4
  .exact wpAny_Name (wpAny_loadName_free hk (show env.scope.names.lookup y=_ from X.env.sc▸h2) l n hq h5) h4
theorem av.name {i:Nat}{y:Str}{k:NameKind}{pos:Pos}{R:RR Value T}(ht:B.tab[i]?=some (some (y,k)))(h:∀g h t u,bW P C g h i t u->R h g h t u):av P B C (.Name y pos) (pV i) R:=.now fun n A env g ρ σ s k Q E X hb hq=>by
 obtain ⟨t,e⟩:=cG hb
 obtain ⟨u,v,w⟩:=X.env.var i _ t ht e
 exact bJ X ht v (hq u t s.toks (by rw [pV,e];rfl) (h _ _ _ _ w))
noncomputable def k9 (C:Ct)(i:Nat):Bool:=!bL C i&&(!C.m||!Nat.beq i 0)
theorem jR {g:Gh}{h:Heap}{i:Nat}{t:T}{u:Value}(hv:k9 C i=true)(v:bW P C g h i t u):Rp P g h t u:=by
 obtain ⟨h1,h2⟩:=ai hv
 unfold bW at v
 cases q:bL C i with
 |true=>rw [q] at h1;cases h1
 |false=>
  rw [q] at v
  refine v.elim id fun ⟨a,b,_⟩=>?_
  subst b;rw [a] at h2;cases h2
theorem av.var {i:Nat}{y:Str}{k:NameKind}{pos:Pos}(hv:k9 C i=true)(ht:B.tab[i]?=some (some (y,k))):av P B C (.Name y pos) (pV i) (RV P):=.name ht fun _ _ _ _=>jR hv
theorem av.own {i:Nat}{y:Str}{k:NameKind}{pos:Pos}(hv:bL C i=true)(ht:B.tab[i]?=some (some (y,k))):av P B C (.Name y pos) (pV i) (RX P):=.name ht fun _ _ _ _ v=>by
 unfold bW at v
 rw [hv] at v
 exact let ⟨a,e,o,r⟩:=v;.inr ⟨a,e,.inl ⟨i,o⟩,r⟩
theorem At.fn {n:Nat}{A:Around}{env:Env}{g:Gh}{ρ:aW}{σ:Sg}{s:Shared}(X:At P B C n A env g ρ σ s):env.scope.kind=.function:=by
 have:=X.env.ok
 simp only [b7.ok,and_eq_true,beq_iff_eq] at this
 exact X.env.sc▸this.1.1
theorem At.glob {n:Nat}{A:Around}{env:Env}{g:Gh}{ρ:aW}{σ:Sg}{s:Shared}(X:At P B C n A env g ρ σ s){x:Str}{pos:Pos}{v:Value}{Q:Value->Shared->Prop}{E:Value->Shared->Prop}(hx:B.sc.names.lookup x=some .globalImplicit)(hd:(x==("__debug__":Str))=false)
  (hv:P.mg x=some v)(h:Q v s):wpAny P.M A (eval (.Name x pos) env) Q E s:=
 Calls.Name_function_global X.fn (show env.scope.names.lookup x=_ from X.env.sc▸hx) (Calls.loadGlobal_global (mg:=P.mg) (X.env.glob▸X.good.g.keeps fun a o e=>(X.g.base a o e).2) hv h) hd
theorem av.gconst {y:Str}{t:T}{pos:Pos}(hx:B.sc.names.lookup y=some .globalImplicit)(hd:(y==("__debug__":Str))=false)(hv:∃u,P.mg y=some u/\∀g h,Rp P g h t u):av P B C (.Name y pos) (pC t) (RV P):=.now fun n A env g ρ σ s k Q E X hb hq=>
 let ⟨u,h1,h2⟩:=hv;X.glob hx hd h1 (hq u t s.toks rfl (h2 _ _))
noncomputable abbrev Cf (P:Pg)(op:Value->Value->Sem Value):W2 Value:=fun A _ x y Q E s=>wpAny P.M A (op x y) Q E s
noncomputable abbrev EH (P:Pg)(op:Value->Sem Value):W1 Value:=fun A _ x Q E s=>wpAny P.M A (op x) Q E s
theorem av.bin {l r:Expr}{op:Operator}{pos:Pos}{pl pr:PE}{F:T->T->Option T}{R:RR Value T}(hd:Dn R)(o:rJ P (Cf P (binaryOp op)) F R)(hl:av P B C l pl (RX P))(hr:av P B C r pr (RX P)):av P B C (.BinOp l op r pos) (p2 F pl pr) R:=
 (hl.op2 hr.xy hd o).map fun _ _ _ _ _=>wpAny_BinOp
noncomputable def jN (P:Pg)(op:CmpOp)(F:T->T->Option Bool):Prop:=
 ∀A g σ s x x' t t' b Q E,Rm A->bN P g s.heap σ->fU P g s.heap t x->fU P g s.heap t' x'->F t t'=some b->(∀tk,Q (.bool b) {s with toks:=tk})->wpAny P.M A (compareOp op x x') Q E s
theorem jN.e {op:CmpOp}{F:T->T->Option Bool}(o:jN P op F):rJ P (Cf P (compareOp op)) (fun a b=>(F a b).map T.bool) (RV P):=fun A env g σ s x x' t t' y Q E rm w r r' e hq=>by
 obtain ⟨b,e1,rfl⟩:=ax e
 exact o A g σ s x x' t t' b Q E rm w r r' e1 fun tk=>hq _ _ g (.toks g s tk) w rfl
theorem jN.t {op:CmpOp}{F:T->T->Option Bool}(o:jN P op F):rJ P (fun A _ x y Q E s=>wpAny P.M A (compareOp op x y) (fun v s₁=>wpAny P.M A (truthy v) Q E s₁) E s) F RQ:=fun A env g σ s x x' t t' b Q E rm w r r' e hq=>
 o A g σ s x x' t t' b _ E rm w r r' e fun tk=>wpAny_truthy_bool (hq b _ g (.toks g s tk) w rfl)
theorem Df {α j:Type}(o:Option α)(f:α->j)(σ:Sg)(k:PK j):up (o.map f) σ k=up o σ fun a σ=>k (f a) σ:=by cases o<;>rfl
theorem ee.eq {α j:Type}{W:WP α}{p p':PG j}{R:RR α j}(h:ee P B C W p R)(e:p=p'):ee P B C W p' R:=e▸h
theorem av.cmp {l r:Expr}{op:CmpOp}{pos:Pos}{pl pr:PE}{F:T->T->Option Bool}(o:jN P op F)(hm:behindInMarks op r=false)(hl:av P B C l pl (RX P))(hr:av P B C r pr (RX P)):av P B C (.Compare l [op] [r] pos) (pB (p2 F pl pr)) (RV P):=
 ((hl.op2 hr.xy lA o.e).map fun _ _ _ _ _ h=>wpAny_Compare1 h hm).eq (by unfold p2 pB;simp only [Df])
theorem cW.cmpY {l r:Expr}{op:CmpOp}{pos:Pos}{pl pr:PE}{F:T->T->Option Bool}(o:jN P op F)(hm:behindInMarks op r=false)(hl:av P B C l pl (RX P))(hr:av P B C r pr (RY P)):cW P B C (.Compare l [op] [r] pos) (p2 F pl pr):=
 (hl.op2 hr ER o.t).map fun _ _ _ _ _ h=>wpAny_isTrue_Compare1 h hm
theorem cW.cmp {l r:Expr}{op:CmpOp}{pos:Pos}{pl pr:PE}{F:T->T->Option Bool}(o:jN P op F)(hm:behindInMarks op r=false)(hl:av P B C l pl (RX P))(hr:av P B C r pr (RX P)):cW P B C (.Compare l [op] [r] pos) (p2 F pl pr):=.cmpY o hm hl hr.xy
theorem ip {A:Around}{g:Gh}{h:Heap}{s:Shared}{t:T}{x:Value}{b:Bool}{Q:Bool->Shared->Prop}{E:Value->Shared->Prop}(r:fU P g h t x)(ht:dM t=some b)(k:Q b s):wpAny P.M A (truthy x) Q E s:=by
 cases t with
 |none=>cases ht;exact r.elim (fun r=>(show x=_ from r)▸fun _ _ _=>k) fun ⟨_,_,r⟩=>r.elim
 |bool c=>cases ht;exact r.elim (fun r=>(show x=_ from r)▸wpAny_truthy_bool k) fun ⟨_,_,r⟩=>r.elim
 |int i=>cases ht;exact r.elim (fun ⟨_,r⟩=>r▸PySem.P.truthy_int k) fun ⟨_,_,r⟩=>r.elim
 |_=>cases ht
theorem cW.val {e:Expr}{p:PE}(h:av P B C e p (RX P))(he:∀env whole,isTrue e env whole=(do let v <-whole;standAt e.pos;holding [v] (truthy v))):cW P B C e (qE p):=
 (h.xy.op1 (N:=fun A _ x Q E s=>wpAny P.M A (truthy x) Q E s) ER fun A env g σ s x t b Q E rm w r e hq=>ip r e (hq b s g (.refl g s) w rfl)).map fun A env Q E s h=>wpAny_isTrue_value h (he env _)
theorem cW.not {e:Expr}{p:PT}{pos:Pos}(h:cW P B C e p):cW P B C (.UnaryOp .Not e pos) (dK p):=
 (h.bind (N:=fun A _ b Q E s=>Q (!b) s) (F:=fun _ _ k b σ=>k (!b) σ) (R':=RQ) ER fun n A env g g1 ρ σ s s₁ x t k Q E p X r hb hq=>hq _ s₁ g1 _ σ rfl (.refl _ _) X.g (congrArg Bool.not r)).map fun _ _ _ _ _=>wpAny_isTrue_Not
noncomputable abbrev jl (P:Pg)(B:b7)(C:Ct)(op:BoolOp)(es:List Expr)(p:PT):Prop:=ee P B C (P.W fun env=>allTrue op es env) p RQ
theorem jl.andNil:jl P B C .And [] aJ:=.now fun _ _ _ _ _ _ _ _ _ _ _ _ hq=>wpAny_allTrue_And_nil (hq _ _ _ rfl rfl)
theorem jl.orNil:jl P B C .Or [] cS:=.now fun _ _ _ _ _ _ _ _ _ _ _ _ hq=>wpAny_allTrue_Or_nil (hq _ _ _ rfl rfl)
theorem ee.ite {α j:Type}{W:WP Bool}{p:PT}{W1 W2:WP α}{p1 p2:PG j}{R:RR α j}(h:ee P B C W p RQ)(hd:Dn R)(h1:ee P B C W1 p1 R)(h2:ee P B C W2 p2 R):
  ee P B C (fun A env Q E s=>W A env (fun b s₁=>match b with |true=>W1 A env Q E s₁ |false=>W2 A env Q E s₁) E s) (fun c ρ σ k=>p c ρ σ fun b σ=>bif b then p1 c ρ σ k else p2 c ρ σ k) R:=
 h.bind (N:=fun A env b Q E s₁=>match b with |true=>W1 A env Q E s₁ |false=>W2 A env Q E s₁) (F:=fun c ρ k b σ=>bif b then p1 c ρ σ k else p2 c ρ σ k) hd fun n A env g g1 ρ σ s s₁ x t k Q E p X r hb hq=>by
  cases r
  cases x with
  |true=>exact h1 n A env g1 ρ σ s₁ k Q E X hb hq
  |false=>exact h2 n A env g1 ρ σ s₁ k Q E X hb hq
theorem ee.yes {j:Type}{t:j}:ee P B C (fun A env Q E s=>Q t s) (fun _ _ σ k=>k t σ) RQ:=.now fun _ _ _ _ _ _ _ _ _ _ _ _ hq=>hq _ _ _ rfl rfl
theorem jl.and {e:Expr}{es:List Expr}{p ps:PT}(h:cW P B C e p)(hs:jl P B C .And es ps):jl P B C .And (e::es) (er p ps):=
 (h.ite ER hs (.yes (t:=false))).map fun A env Q E s h=>wpAny_allTrue_And_cons (wpAny_mono h (fun b s h=>by cases b<;>exact h) fun _ _ h=>h)
theorem jl.or {e:Expr}{es:List Expr}{p ps:PT}(h:cW P B C e p)(hs:jl P B C .Or es ps):jl P B C .Or (e::es) (hJ p ps):=
 (h.ite ER (.yes (t:=true)) hs).map fun A env Q E s h=>wpAny_allTrue_Or_cons (wpAny_mono h (fun b s h=>by cases b<;>exact h) fun _ _ h=>h)
theorem cW.boolOp {op:BoolOp}{es:List Expr}{p:PT}{pos:Pos}(h:jl P B C op es p):cW P B C (.BoolOp op es pos) p:=h.map fun _ _ _ _ _=>wpAny_isTrue_BoolOp
theorem av.ifExp {t b o:Expr}{pt:PT}{pb po:PE}{pos:Pos}{R:RR Value T}(hd:Dn R)(ht:cW P B C t pt)(h1:av P B C b pb R)(h2:av P B C o po R):av P B C (.IfExp t b o pos) (Fi pt pb po) R:=
 (ht.ite hd h1 h2).map fun A env Q E s h=>wpAny_IfExp (wpAny_mono h (fun b s h=>by cases b<;>exact h) fun _ _ h=>h)
theorem av.not {e:Expr}{p:PE}{pos:Pos}(h:av P B C e p (RX P)):av P B C (.UnaryOp .Not e pos) (jC p) (RV P):=
 (h.xy.op1 (N:=EH P (unaryOp .Not)) lA fun A env g σ s x t y Q E rm w r e hq=>by
  obtain ⟨b,e1,rfl⟩:=ax e
  exact not_value (ip r e1 (hq _ s g (.refl g s) w rfl))).map fun _ _ _ _ _=>wpAny_UnaryOp
noncomputable abbrev jK (P:Pg)(B:b7)(C:Ct)(op:BoolOp)(es:List Expr)(p:PE):Prop:=∀pos,ee P B C (P.W fun env=>boolOp pos op (evalEach es env)) p (RV P)
theorem jK.one {op:BoolOp}{e:Expr}{p:PE}(h:av P B C e p (RV P)):jK P B C op [e] p:=fun _=>h
theorem jK.and {e e':Expr}{es:List Expr}{p ps:PE}(h:av P B C e p (RV P))(hs:jK P B C .And (e'::es) ps):jK P B C .And (e::e'::es) (jj p ps):=fun pos=>
 (h.bind (N:=fun A env v Q E s=>wpAny P.M A (do standAt pos;let t <-holding [v] (truthy v);match BoolOp.And,t with |.And,false |.Or,true=>pure v |_,_=>boolOp pos .And (evalEach (e'::es) env)) Q E s)
  (F:=fun cx ρ k v σ=>match dM v with |some true=>ps cx ρ σ k |some false=>k v σ |none=>.bad) (R':=RV P) lA fun n A env g g1 ρ σ s s₁ x t k Q E p X r hb hq=>by
   cases e:dM t with
   |none=>rw [e] at hb;exact absurd rfl hb
   |some b=>
    rw [e] at hb hq
    refine wpAny_bind (wpAny_standAt (wpAny_bind (wpAny_holding (ip (.inl r) e ?_))))
    cases b with
    |true=>exact hs pos n A env g1 ρ σ s₁ k Q E X hb hq
    |false=>exact wpAny_pure (hq x s₁ g1 t σ rfl (.refl _ _) X.g r)).map fun _ _ _ _ _=>wpAny_bind
theorem jK.or {e e':Expr}{es:List Expr}{p ps:PE}(h:av P B C e p (RV P))(hs:jK P B C .Or (e'::es) ps):jK P B C .Or (e::e'::es) (xB p ps):=fun pos=>
 (h.bind (N:=fun A env v Q E s=>wpAny P.M A (do standAt pos;let t <-holding [v] (truthy v);match BoolOp.Or,t with |.And,false |.Or,true=>pure v |_,_=>boolOp pos .Or (evalEach (e'::es) env)) Q E s)
  (F:=fun cx ρ k v σ=>match dM v with |some true=>k v σ |some false=>ps cx ρ σ k |none=>.bad) (R':=RV P) lA fun n A env g g1 ρ σ s s₁ x t k Q E p X r hb hq=>by
   cases e:dM t with
   |none=>rw [e] at hb;exact absurd rfl hb
   |some b=>
    rw [e] at hb hq
    refine wpAny_bind (wpAny_standAt (wpAny_bind (wpAny_holding (ip (.inl r) e ?_))))
    cases b with
    |false=>exact hs pos n A env g1 ρ σ s₁ k Q E X hb hq
    |true=>exact wpAny_pure (hq x s₁ g1 t σ rfl (.refl _ _) X.g r)).map fun _ _ _ _ _=>wpAny_bind
theorem av.boolOp {op:BoolOp}{es:List Expr}{p:PE}{pos:Pos}(h:jK P B C op es p):av P B C (.BoolOp op es pos) p (RV P):=h pos
theorem ig.nil:ig P B C [] ao:=⟨(fun _ _ q=>nomatch q),fun pos=>ee.now fun _ _ _ _ _ _ _ _ _ _ _ _ hq=>wpAny_items_nil (hq _ _ _ rfl rfl)⟩
theorem ig.cons {e:Expr}{es:List Expr}{p:PE}{ps:PL}(hn:∀env,starEach (e::es) env=(false,eval e env)::starEach es env)(h:av P B C e p (RV P))(hs:ig P B C es ps):ig P B C (e::es) (aa p ps):=⟨fun env q hq=>by
 rw [hn] at hq
 cases hq with
 |head=>rfl
 |tail _ hq=>exact hs.pl env q hq,fun pos=>
 (h.bind (N:=fun A env v Q E s=>wpAny P.M A (spliced (backTo pos (starEach es env))) (fun vs s₁=>Q (v::vs) s₁) E s) (F:=fun c ρ k v σ=>ps c ρ σ fun vs σ=>k (v::vs) σ) (R':=RL P) Ji fun n A env g g1 ρ σ s s₁ x t k Q E p X r hb hq=>
  hs.sim pos n A env g1 ρ σ s₁ _ _ E X hb fun xs s2 g2 ts σ₂ e pa w2 r2=>hq _ s2 g2 _ σ₂ e pa w2 (bm.cons (Rp.mono (pa.k X.g) r) r2)).map fun _ env _ _ _ h=>wpAny_items_cons h (hn env)⟩
theorem bD {k:Nat}(h:k<=lim):k<=sizeLine:=le_trans h (by decide)
theorem gY {n:Nat}(h:cT n=true):n<=lim:=le_of_ble_eq_true h
theorem ku {c:Bool}{o:cg}(h:gd c o≠.bad):c=true:=by cases c with
 |true=>rfl
 |false=>exact absurd rfl h
theorem lH {c:Bool}{o:cg}(h:(bif c then o else .bad)≠.bad):c=true:=by cases c with
 |true=>rfl
 |false=>exact absurd rfl h
theorem cw (s:Shared)(ob:Obj):∀a o,s.heap.get? a=some o->(s.heap.push ob).get? a=some o:=fun _ _ e=>Heap.get?_push_of_some _ e
theorem eB {g:Gh}{s:Shared}{σ:Sg}(w:bN P g s.heap σ):¬g.F s.heap.objs.size/\¬g.Z s.heap.objs.size/\¬g.O s.heap.objs.size:=⟨fun q=>w.F _ q (aR _),fun q=>(w.Z _ q).1 (aR _),fun q=>(w.O _ q).1 (aR _)⟩
theorem bN.push {g:Gh}{s:Shared}{σ:Sg}(w:bN P g s.heap σ)(ob:Obj):bN P g (s.heap.push ob) σ:=w.grow (cw s ob) g.F (fun _ h=>h) fun _ h=>.inl h
theorem aQ.push {g:Gh}{s:Shared}(ob:Obj)(t:Nat):aQ g s g {s with heap:=s.heap.push ob,toks:=t}:=.grow t (cw s ob) g.F (fun _ h=>h) fun _ h=>.inl h
theorem ch {h:Heap}(ob:Obj)(hf:ob.isFreed=false:=by rfl):(h.push ob).get? h.objs.size=some ob:=Heap.get?_push_size _ hf
theorem bN.pushF {g:Gh}{s:Shared}{σ:Sg}(w:bN P g s.heap σ)(ob:Obj)(hf:ob.isFreed=false:=by rfl):bN P {g with F:=fun y=>g.F y\/y=s.heap.objs.size} (s.heap.push ob) σ:=w.grow (cw s ob) _ (fun _ h=>.inl h) fun a h=>h.elim .inl fun e=>.inr (e▸⟨aR _,ay (ch ob hf)⟩)
theorem aQ.pushF {g:Gh}{s:Shared}(ob:Obj)(t:Nat):aQ g s {g with F:=fun y=>g.F y\/y=s.heap.objs.size} {s with heap:=s.heap.push ob,toks:=t}:=.grow t (cw s ob) _ (fun _ h=>.inl h) fun a h=>h.elim .inl fun e=>.inr (e▸aR _)
theorem ue {g:Gh}{s:Shared}{σ:Sg}{ts:List T}{xs:List Value}{tk:Nat}(w:bN P g s.heap σ)(r:bm P g s.heap ts xs)(hl:ts.length<=lim){Q:Value->Shared->Prop}(hq:∀u s' g',aQ g s g' s'->bN P g' s'.heap σ->Rp P g' s'.heap (.tup ts) u->Q u s'):
  Q (.ref s.heap.objs.size) {s with heap:=s.heap.push (jg xs.toArray 0),toks:=tk}:=
 hq _ _ _ (.pushF _ tk) (w.pushF _) ⟨_,rfl,.inr rfl,_,_,ch _,hl,r.mono ((aQ.pushF _ 0).k w)⟩
theorem vJ {g:Gh}{s:Shared}{σ:Sg}{ts:List T}{xs:List Value}{tk:Nat}(w:bN P g s.heap σ)(r:bm P g s.heap ts xs)(hl:ts.length<=lim){Q:Value->Shared->Prop}(hq:∀u s' g',aQ g s g' s'->bN P g' s'.heap σ->Cj P s.heap g' s'.heap (.lst ts) u->Q u s'):
  Q (.ref s.heap.objs.size) {s with heap:=s.heap.push (bO xs.toArray 0),toks:=tk}:=
 hq _ _ _ (.push _ tk) (w.push _) ⟨_,rfl,aR _,(eB w).1,(eB w).2.1,(eB w).2.2,_,_,ch _,hl,r.mono ((aQ.push (bO xs.toArray 0) 0).k w)⟩
theorem av.tup {es:List Expr}{ps:PL}{k:Nat}{pos:Pos}(h:ig P B C es ps):av P B C (.Tuple es k pos) (aM ps) (RV P):=
 ((h.sim pos).bind (N:=fun A env xs Q E s=>xs.length<=sizeLine/\Q (.ref s.heap.objs.size) {s with heap:=s.heap.push (jg xs.toArray 0)}) (F:=fun c ρ k vs σ=>bif cT vs.length then k (.tup vs) σ else .bad) (R':=RV P) lA fun n A env g g1 ρ σ s s₁ x t k Q E p X r hb hq=>by
  have hl:=gY (lH hb)
  exact ⟨bD (r.length▸hl),ue (tk:=s₁.toks) X.g r hl fun u s' g' p w r=>hq u s' g' _ σ (by rw [lH hb];rfl) p w r⟩).map fun _ _ _ _ _=>wpAny_Tuple
theorem av.list {es:List Expr}{ps:PL}{pos:Pos}(h:ig P B C es ps):av P B C (.List es pos) (bX ps) (RN P):=
 ((h.sim pos).bind (N:=fun A env xs Q E s=>xs.length<=sizeLine/\Q (.ref s.heap.objs.size) {s with heap:=s.heap.push (bO xs.toArray 0)}) (F:=fun c ρ k vs σ=>bif cT vs.length then k (.lst vs) σ else .bad) (R':=RN P) F2 fun n A env g g1 ρ σ s s₁ x t k Q E p X r hb hq=>by
  have hl:=gY (lH hb)
  exact ⟨bD (r.length▸hl),vJ (tk:=s₁.toks) X.g r hl fun u s' g' p w r=>hq u s' g' _ σ (by rw [lH hb];rfl) p w r⟩).map fun _ _ _ _ _=>wpAny_List
end
end
end Mine
namespace Mine
noncomputable section
open PySem PyProof.Rows PySem.SeqAt
section
variable {P:Pg} {B:b7} {C:Ct} {g:Gh} {h:Heap} {t:T} {x:Value}
theorem Ez {b:Bool}(e:EV t=some b):t=.bool b:=by cases t<;>cases e;rfl
theorem oQ {i:Int}(e:jJ t=some i):t=.int i:=by cases t<;>cases e;rfl
theorem Aa {i:Str}(e:tT t=some i):t=.str i:=by cases t<;>cases e;rfl
theorem lK {i:List T}(e:rH t=some i):t=.tup i:=by cases t<;>cases e;rfl
theorem fT {i:List T}(e:gI t=some i):t=.lst i:=by cases t<;>cases e;rfl
theorem Ey {i:List Int}(e:ET t=some i):t=.scr i:=by cases t<;>cases e;rfl
theorem fU.v (q:fU P g h t x)(h1:∀a,iY P g h a t->False):Rp P g h t x:=q.elim id fun ⟨a,_,r⟩=>(h1 a r).elim
theorem fU.b {b:Bool}(q:fU P g h t x)(e:EV t=some b):x=.bool b:=by cases Ez e;exact q.v fun _ h=>h
theorem fU.i {i:Int}(q:fU P g h t x)(e:jJ t=some i):∃p,x=.int i p:=by cases oQ e;exact q.v fun _ h=>h
theorem fU.s {s:Str}(q:fU P g h t x)(e:tT t=some s):(PyData.strOk s=true/\s.length<=lim)/\∃p,x=.str s p:=by cases Aa e;exact q.v fun _ h=>h
theorem fU.n {s:List Int}(q:fU P g h t x)(e:ET t=some s):IR P s x:=by cases Ey e;exact q.v fun _ h=>h
theorem fU.tu {ts:List T}(q:fU P g h t x)(e:rH t=some ts):Fz g (Am h jg (bm P g h ts) ts.length) x:=by cases lK e;exact q.v fun _ h=>h
theorem fU.ls {ts:List T}(q:fU P g h t x)(e:gI t=some ts):∃a,x=.ref a/\Am h bO (bm P g h ts) ts.length a:=by cases fT e;exact q.elim (fun r=>let ⟨a,e,_,o⟩:=r;⟨a,e,o⟩) id
theorem aD {α Z:Type}{a:Option α}{f:α->Option Z}{y:Z}(h:o1 a f=some y):∃x,a=some x/\f x=some y:=by
 cases a with
 |none=>cases h
 |some x=>exact ⟨x,rfl,h⟩
theorem bn {α Z γ:Type}{a:Option α}{b:Option Z}{f:α->Z->Option γ}{y:γ}(h:o2 a b f=some y):∃x z,a=some x/\b=some z/\f x z=some y:=by
 cases a with
 |none=>cases h
 |some x=>cases b with
  |none=>cases h
  |some z=>exact ⟨x,z,rfl,rfl,h⟩
structure Rd (h:Heap) (x:Value) (d:PyData) (n:Nat):Prop where
 r:∃as,Reads h x d as
 c:d.canLay0=true
 l:d.depth<=n
structure Jk (h:Heap) (x:List Value) (d:List PyData) (n:Nat):Prop where
 r:∃as,ReadsAll h x d as
 c:PyData.canLayAll0 d=true
 l:PyData.depthAll d<=n
theorem ej {f:T->Option PyData}{n:Nat}(ih:∀t x d,f t=some d->Rp P g h t x->Rd h x d n):∀(ts:List T) (xs:List Value) (ds:List PyData),gt f ts=some ds->bm P g h ts xs->Jk h xs ds n
 | [],_,_,e,r=>by cases r;cases e;exact ⟨⟨[],.nil⟩,rfl,zero_le _⟩
 |t::ts,_,_,e,⟨x,xs,e',r,rs⟩=>by
  subst e'
  unfold gt at e
  cases hd:f t with
  |none=>rw [hd] at e;cases e
  |some d=>
   rw [hd] at e
   obtain ⟨ds,hds,rfl⟩:=ax e
   obtain ⟨⟨as,h1⟩,h2,h3⟩:=ih t x d hd r
   obtain ⟨⟨bs,h4⟩,h5,h6⟩:=ej ih ts xs ds hds rs
   exact ⟨⟨as++bs,.cons h1 h4⟩,and_eq_true_iff.mpr ⟨h2,h5⟩,max_le.mpr ⟨h3,h6⟩⟩
theorem cL:∀n t x d,di n t=some d->fU P g h t x->Rd h x d n:=by
 have base:∀n t x d,(match t with |.tup _=>False |.lst _=>False |_=>True)->di n t=some d->fU P g h t x->Rd h x d n:=fun n t x d ht e q=>by
  cases t with
  |none=>cases n<;>cases e<;>(rw [show x=_ from q.v fun _ h=>h];exact ⟨⟨[],.none⟩,rfl,zero_le _⟩)
  |bool b=>cases n<;>cases e<;>(rw [q.b rfl];exact ⟨⟨[],.bool _⟩,rfl,zero_le _⟩)
  |int i=>obtain ⟨p,rfl⟩:=q.i rfl;cases n<;>cases e<;>exact ⟨⟨[],.int _ _⟩,rfl,zero_le _⟩
  |str s=>obtain ⟨⟨h1,_⟩,p,rfl⟩:=q.s rfl;cases n<;>cases e<;>exact ⟨⟨[],.str _ _⟩,h1,zero_le _⟩
  |tup=>exact ht.elim
  |lst=>exact ht.elim
  |_=>cases n<;>cases e
 intro n
 induction n with
 |zero=>
  intro t x d e q
  cases t with
  |tup=>cases e
  |lst=>cases e
  |_=>exact base 0 _ x d trivial e q
 |succ n ih=>
  intro t x d e q
  cases t with
  |tup ts=>
   obtain ⟨ds,hd,rfl⟩:=ax e
   obtain ⟨a,rfl,_,vs,m,e1,_,r⟩:=q.tu rfl
   obtain ⟨⟨as,q1⟩,q2,q3⟩:=ej (fun t x d e r=>ih t x d e (.inl r)) ts _ ds hd r
   exact ⟨⟨as,.tuple e1 rfl rfl q1⟩,q2,succ_le_succ q3⟩
  |lst ts=>
   obtain ⟨ds,hd,rfl⟩:=ax e
   obtain ⟨a,rfl,vs,m,e1,_,r⟩:=q.ls rfl
   obtain ⟨⟨as,q1⟩,q2,q3⟩:=ej (fun t x d e r=>ih t x d e (.inl r)) ts _ ds hd r
   exact ⟨⟨a::as,.list e1 rfl rfl q1⟩,q2,succ_le_succ q3⟩
  |_=>exact base (n+1) _ x d trivial e q
theorem mE {A:Around}{a b:Nat}(rm:Rm A)(h:a<=cB):A.units+1+min a b < cLine:=by
 have:=rm.units
 have:min a b<=50:=le_trans (min_le_left _ _) h
 lia -abstractProof
theorem Gc:jN P .Eq ck:=fun A g σ s x x' t t' b Q E rm w q q' e k=>by
 obtain ⟨d,d',h1,h2,h3⟩:=bn e
 obtain ⟨⟨_,r1⟩,c1,l1⟩:=cL cB t x d h1 q
 obtain ⟨⟨_,r2⟩,c2,l2⟩:=cL cB t' x' d' h2 q'
 cases h3
 exact compareEq_reads r1 r2 c1 c2 (lt_of_le_of_lt (by lia) (mE (b:=d'.depth) rm l1)) (k s.toks)
theorem F6:jN P .NotEq o8:=fun A g σ s x x' t t' b Q E rm w q q' e k=>by
 obtain ⟨c,e1,rfl⟩:=ax e
 obtain ⟨d,d',h1,h2,h3⟩:=bn e1
 obtain ⟨⟨_,r1⟩,c1,l1⟩:=cL cB t x d h1 q
 obtain ⟨⟨_,r2⟩,c2,l2⟩:=cL cB t' x' d' h2 q'
 cases h3
 exact compareNe_reads r1 r2 c1 c2 (lt_of_le_of_lt (by lia) (mE (b:=d'.depth) rm l1)) (k s.toks)
theorem eF {α:Type}{t':T}{x':Value}{f:Int->Int->Option α}{y:α}(q:fU P g h t x)(q':fU P g h t' x')(e:o2 (jJ t) (jJ t') f=some y):∃i j p p',x=.int i p/\x'=.int j p'/\f i j=some y:=by
 obtain ⟨i,j,h1,h2,h3⟩:=bn e
 obtain ⟨p,e1⟩:=q.i h1
 obtain ⟨p',e2⟩:=q'.i h2
 exact ⟨i,j,p,p',e1,e2,h3⟩
theorem F7:jN P .Lt vI:=fun A g σ s x x' t t' b Q E rm w q q' e k=>by
 obtain ⟨i,j,p,p',rfl,rfl,e⟩:=eF q q' e
 cases e;exact PySem.P.lt_int (k s.toks)
theorem F8:jN P .LtE Bs:=fun A g σ s x x' t t' b Q E rm w q q' e k=>by
 obtain ⟨i,j,p,p',rfl,rfl,e⟩:=eF q q' e
 cases e;exact PySem.P.le_int (k s.toks)
theorem Ga:jN P .Gt Au:=fun A g σ s x x' t t' b Q E rm w q q' e k=>by
 obtain ⟨i,j,p,p',rfl,rfl,e⟩:=eF q q' e
 cases e;exact PySem.P.gt_int (k s.toks)
theorem Gb:jN P .GtE IO:=fun A g σ s x x' t t' b Q E rm w q q' e k=>by
 obtain ⟨i,j,p,p',rfl,rfl,e⟩:=eF q q' e
 cases e;exact PySem.P.ge_int (k s.toks)
inductive Iq (P:Pg) (g:Gh) (h:Heap) (ts:List T) (x:Value):Prop
 |tup (a:Addr) (vs:Array Value) (n:Nat) (e:x=.ref a) (e':h.get? a=some (jg vs n)) (l:ts.length<=lim) (r:bm P g h ts vs.toList)
 |lst (a:Addr) (vs:Array Value) (n:Nat) (e:x=.ref a) (e':h.get? a=some (bO vs n)) (l:ts.length<=lim) (r:bm P g h ts vs.toList)
theorem fU.sq {ts:List T}(q:fU P g h t x)(e:ir t=some ts):Iq P g h ts x:=by
 unfold ir el at e
 cases e1:rH t with
 |some us=>rw [e1] at e;cases e;obtain ⟨a,e,_,vs,n,e',l,r⟩:=q.tu e1;exact .tup a vs n e e' l r
 |none=>rw [e1] at e;obtain ⟨a,e,vs,n,e',l,r⟩:=q.ls e;exact .lst a vs n e e' l r
inductive Jm (h:Heap) (A:Around) (x x':Value) (b:Bool):Prop
 |mk (d:PyData) (ds:List PyData) (as bs:List Addr) (e:b=ds.any fun y=>PyData.eqv y d) (r:Reads h x' (.list ds) as\/Reads h x' (.tuple ds) as) (r':Reads h x d bs) (c:PyData.canLayAll0 ds=true) (c':d.canLay0=true) (l:A.units+1+min (PyData.depthAll ds) d.depth < cLine)
theorem tc {A:Around}{x':Value}{t':T}{b:Bool}(rm:Rm A)(q:fU P g h t x)(q':fU P g h t' x')(e:lX t t'=some b):Jm h A x x' b:=by
 obtain ⟨ts,e1,e⟩:=aD e
 obtain ⟨d,ds,h1,h2,e⟩:=bn e
 obtain ⟨⟨_,r1⟩,c1,l1⟩:=cL cB t x d h1 q
 have ra:=fun xs r=>ej (fun t x d e r=>cL cB t x d e (.inl r)) ts xs ds h2 (P:=P) (g:=g) (h:=h) r
 cases e
 rcases q'.sq e1 with ⟨a,vs,n,rfl,e',l,r⟩ | ⟨a,vs,n,rfl,e',l,r⟩
 .obtain ⟨⟨_,r2⟩,c2,l2⟩:=ra _ r
  exact ⟨d,ds,_,_,rfl,.inr (.tuple e' rfl rfl r2),r1,c2,c1,mE rm l2⟩
 .obtain ⟨⟨_,r2⟩,c2,l2⟩:=ra _ r
  exact ⟨d,ds,_,_,rfl,.inl (.list e' rfl rfl r2),r1,c2,c1,mE rm l2⟩
theorem F9:jN P .In lX:=fun A g σ s x x' t t' b Q E rm w q q' e k=>by
 obtain ⟨d,ds,as,bs,rfl,r |r,h1,h2,h3,h4⟩:=tc rm q q' e
 .exact in_list_reads r h1 h2 h3 h4 (k s.toks)
 .exact in_tuple_reads r h1 h2 h3 h4 (k s.toks)
theorem zJ:jN P .NotIn eP:=fun A g σ s x x' t t' b Q E rm w q q' e k=>by
 obtain ⟨c,e1,rfl⟩:=ax e
 obtain ⟨d,ds,as,bs,rfl,r |r,h1,h2,h3,h4⟩:=tc rm q q' e1
 .exact notIn_list_reads r h1 h2 h3 h4 (k s.toks)
 .exact notIn_tuple_reads r h1 h2 h3 h4 (k s.toks)
theorem qq {a b:Str}(ha:PyData.strOk a=true)(hb:PyData.strOk b=true):PyData.strOk (a++b)=true:=by
 have:(a++b).cps=a.cps++b.cps:=rfl
 simp only [PyData.strOk,this,Array.all_append,and_eq_true] at *
 exact ⟨ha,hb⟩
theorem gG {α:Type}{n:Nat}{x y:α}(h:qg n x=some y):n<=lim/\x=y:=by
 unfold qg at h
 cases q:cT n with
 |true=>rw [q] at h;exact ⟨gY q,Option.some.inj h⟩
 |false=>rw [q] at h;cases h
theorem dg {σ:Sg}{s:Shared}{i:Int}{tk p:Nat}(w:bN P g s.heap σ){Q:Value->Shared->Prop}(hq:∀u s' g',aQ g s g' s'->bN P g' s'.heap σ->Rp P g' s'.heap (.int i) u->Q u s'):Q (.int i p) {s with toks:=tk}:=hq _ _ g (.toks g s tk) w ⟨_,rfl⟩
theorem tg {ts:List T}{vs:Array Value}(r:bm P g h ts vs.toList)(e:vs.isEmpty=true):ts=[]:=by
 have z:vs.toList=[]:=Array.toList_eq_nil_iff.mpr (Array.isEmpty_iff.mp e)
 rw [z] at r
 have:=r.length
 exact List.length_eq_zero_iff.mp this.symm
theorem tU {ts us:List T}{vs vs':Array Value}(r:bm P g h ts vs.toList)(r':bm P g h us vs'.toList)(hl:(ts++us).length<=lim):vs.size+vs'.size<=lim:=by
 rw [List.length_append,<-r.length,<-r'.length] at hl;exact hl
theorem kh {σ:Sg}{s:Shared}{ts:List T}{xs:List Value}{tk:Nat}(w:bN P g s.heap σ)(r:bm P g s.heap ts xs)(hl:ts.length<=lim){Q:Value->Shared->Prop}(hq:∀u s' g',aQ g s g' s'->bN P g' s'.heap σ->Rp P g' s'.heap (.lst ts) u->Q u s'):
  Q (.ref s.heap.objs.size) {s with heap:=s.heap.push (bO xs.toArray 0),toks:=tk}:=
 hq _ _ _ (.pushF _ tk) (w.pushF _) ⟨_,rfl,.inr rfl,_,_,ch _,hl,r.mono ((aQ.pushF (bO xs.toArray 0) 0).k w)⟩
theorem wc (vs vs':Array Value):vs++vs'=(vs.toList++vs'.toList).toArray:=by simp
theorem Fq:rJ P (Cf P (binaryOp .Add)) bc (RV P):=fun A env g σ s x x' t t' y Q E rm w q q' e hq=>by
 unfold bc at e
 cases e1:jJ t with
 |some i=>
  rw [e1] at e
  obtain ⟨j,e2,e⟩:=aD e
  obtain ⟨p,rfl⟩:=q.i e1
  obtain ⟨p',rfl⟩:=q'.i e2
  cases e;exact PySem.P.add_int (dg w hq)
 |none=>cases e2:tT t with
  |some a=>
   rw [e1,e2] at e
   obtain ⟨b,e3,e⟩:=aD e
   obtain ⟨⟨h1,_⟩,p,rfl⟩:=q.s e2
   obtain ⟨⟨h3,_⟩,p',rfl⟩:=q'.s e3
   obtain ⟨hl,rfl⟩:=gG e
   exact add_str (fun t' tk=>hq _ _ g (.toks g s tk) w ⟨⟨qq h1 h3,hl⟩,_,rfl⟩) (le_trans (by have:(a++b).length=a.length+b.length:=Array.size_append;lia -abstractProof) (bD hl))
  |none=>cases e3:rH t with
   |some ts=>
    rw [e1,e2,e3] at e
    obtain ⟨us,e4,e⟩:=aD e
    obtain ⟨hl,rfl⟩:=gG e
    have qt:=q.tu e3
    have qu:=q'.tu e4
    obtain ⟨a,rfl,f,vs,n,g1,l1,r1⟩:=id qt
    obtain ⟨a',rfl,f',vs',n',g2,l2,r2⟩:=id qu
    by_cases z1:vs.isEmpty=true
    .obtain rfl:=tg r1 z1
     exact concat_meets ⟨_,g1,rfl⟩ ⟨_,g2,rfl⟩ noFill_tuple_add seq_tuple_add F.slot_tuple_add F.entry_tuple_add (F.args_tuple_add_2 _ _) (tuple_addW0 a a' vs vs' n n' none none #[] #[] z1) ⟨g1,g2,hq _ s g (.refl g s) w qu⟩
    .by_cases z2:vs'.isEmpty=true
     .obtain rfl:=tg r2 z2
      rw [append_nil] at hq
      exact concat_meets ⟨_,g1,rfl⟩ ⟨_,g2,rfl⟩ noFill_tuple_add seq_tuple_add F.slot_tuple_add F.entry_tuple_add (F.args_tuple_add_2 _ _) (tuple_addW1 a a' vs vs' n n' none none #[] #[] z1 z2) ⟨g1,g2,hq _ s g (.refl g s) w qt⟩
     .refine PySem.P.add_tuple g1 g2 z1 z2 ?_ (bD (tU r1 r2 hl))
      rw [wc]
      exact ue (tk:=s.toks) w (bm.append r2 r1) hl hq
   |none=>
    rw [e1,e2,e3] at e
    obtain ⟨ts,us,e4,e5,e⟩:=bn e
    obtain ⟨hl,rfl⟩:=gG e
    obtain ⟨a,rfl,vs,n,g1,l1,r1⟩:=q.ls e4
    obtain ⟨a',rfl,vs',n',g2,l2,r2⟩:=q'.ls e5
    refine PySem.P.add_list g1 g2 ?_ (bD (tU r1 r2 hl))
    rw [wc]
    exact kh (tk:=s.toks) w (bm.append r2 r1) hl hq
theorem Fk:rJ P (Cf P (binaryOp .Sub)) d5 (RV P):=fun A env g σ s x x' t t' y Q E rm w q q' e hq=>by
 obtain ⟨i,j,p,p',rfl,rfl,e⟩:=eF q q' e
 cases e;exact PySem.P.sub_int (dg w hq)
theorem tO {α:Type}{c:Bool}{x y:α}(h:(bif c then none else some x)=some y):c=false/\x=y:=by
 cases c with
 |true=>cases h
 |false=>exact ⟨rfl,Option.some.inj h⟩
theorem de {α:Type}{c:Bool}{x y:α}(h:(bif c then some x else none)=some y):c=true/\x=y:=by
 cases c with
 |true=>exact ⟨rfl,Option.some.inj h⟩
 |false=>cases h
theorem Fp:rJ P (Cf P (binaryOp .FloorDiv)) d7 (RV P):=fun A env g σ s x x' t t' y Q E rm w q q' e hq=>by
 unfold d7 at e
 obtain ⟨i,j,p,p',rfl,rfl,e1⟩:=eF q q' e
 obtain ⟨c,rfl⟩:=tO e1
 obtain ⟨c1,c2⟩:=Bool.or_eq_false_iff.mp c
 exact floordiv_int (beq_eq_false_iff_ne.mp c1) (dg w hq) (.inl (PyProof.noPylong_small (Nat.lt_of_not_le fun q=>by rw [ble_eq_true_of_le q] at c2;cases c2)))
theorem Fo:rJ P (Cf P (binaryOp .Mod)) bM (RV P):=fun A env g σ s x x' t t' y Q E rm w q q' e hq=>by
 unfold bM at e
 obtain ⟨i,j,p,p',rfl,rfl,e1⟩:=eF q q' e
 obtain ⟨c,rfl⟩:=tO e1
 exact mod_int' (beq_eq_false_iff_ne.mp c) (dg w hq)
theorem xP {i:Int}(h:sm i=true):i.natAbs<=1000000000:=le_of_ble_eq_true h
theorem vk {i:Int}(h:sm i=true):Builtin.Int.intBits i<=64:=by
 have q:(i.natAbs:Int)<=1000000000:=b9 (xP h)
 exact intBits_le_64 (Int.neg_lt_of_neg_lt (Int.lt_of_le_of_lt (Int.le_trans (Int.natAbs_neg i▸le_natAbs) q) (by decide))) (Int.lt_of_le_of_lt (Int.le_trans le_natAbs q) (by decide))
theorem Fm:rJ P (Cf P (binaryOp .Mult)) iK (RV P):=fun A env g σ s x x' t t' y Q E rm w q q' e hq=>by
 unfold iK at e
 obtain ⟨i,j,p,p',rfl,rfl,e1⟩:=eF q q' e
 obtain ⟨c,rfl⟩:=de e1
 exact PySem.P.mul_int (dg w hq) ((or_eq_true_iff.mp c).elim (fun q=>.of_left (vk q)) fun q=>.of_right (vk q))
theorem av.neg {e:Expr}{p:PE}{pos:Pos}(h:av P B C e p (RX P)):av P B C (.UnaryOp .USub e pos) (p1 eQ p) (RV P):=
 (h.xy.op1 (N:=EH P (unaryOp .USub)) lA fun A env g σ s x t y Q E rm w r e hq=>by
  obtain ⟨i,e1,e2⟩:=aD e
  obtain ⟨p,rfl⟩:=r.i e1
  cases e2;exact PySem.P.neg_int (dg w hq)).map fun _ _ _ _ _=>wpAny_UnaryOp
end
section
variable {P:Pg} {B:b7} {C:Ct}
theorem nh {i:Int}{n k:Nat}(h:seqIndex? i n=some k):(0<=i/\k=i.toNat/\i < n)\/(i < 0/\-(n:Int)<=i/\k=(i+n).toNat):=by
 have h:(if (decide (0<=(if i < 0 then i+n else i))&&decide ((if i < 0 then i+n else i) < (n:Int)))=true then some (if i < 0 then i+n else i).toNat else none)=some k:=h
 by_cases q:i < 0
 .rw [if_pos q] at h
  cases c:decide (0<=i+(n:Int))&&decide (i+(n:Int) < (n:Int)) with
  |false=>rw [c] at h;cases h
  |true=>
   rw [c] at h;cases h
   exact .inr ⟨q,by have:=of_decide_eq_true (df c);lia -abstractProof,rfl⟩
 .rw [if_neg q] at h
  cases c:decide (0<=i)&&decide (i < (n:Int)) with
  |false=>rw [c] at h;cases h
  |true=>
   rw [c] at h;cases h
   exact .inl ⟨of_decide_eq_true (df c),rfl,of_decide_eq_true (dB c)⟩
theorem AK {p:Str}{c:Nat}{k:Option Nat}(g:PyData.strOk p=true)(hv:k.bind (p.cps[·]?)=some c):PyData.strOk ⟨#[c]⟩=true:=by
 obtain ⟨k,_,hk⟩:=Option.bind_eq_some_iff.mp hv
 simp only [PyData.strOk,Array.all_eq_true,decide_eq_true_eq] at g ⊢
 intro j hj
 obtain ⟨hk1,hk2⟩:=Array.getElem?_eq_some_iff.mp hk
 have:=g k hk1
 simp at hj;subst hj
 simpa [hk2] using this
theorem bm.size {g:Gh}{h:Heap}{ts:List T}{vs:Array Value}(r:bm P g h ts vs.toList):vs.size=ts.length:=r.length
theorem r8 {i:Int}(h:sm i=true):-(2 ^ 63:Int)<=i/\i < 2 ^ 63:=
 have q:(i.natAbs:Int)<=1000000000:=b9 (xP h)
 ⟨Int.neg_le_of_neg_le (Int.le_trans (Int.le_trans (Int.natAbs_neg i▸le_natAbs) q) (by decide)),Int.lt_of_le_of_lt (Int.le_trans le_natAbs q) (by decide)⟩
inductive Jo (i:Int) (ts:List T) (y:T):Prop
 |mk (k:Nat) (s:sm i=true) (hk:seqIndex? i ts.length=some k) (hx:ts[k]?=some y)
theorem tS {i:Int}{ts:List T}{y:T}(h:z0 i ts=some y):Jo i ts y:=by
 unfold z0 at h
 cases q:sm i with
 |false=>rw [q] at h;cases h
 |true=>rw [q] at h;obtain ⟨k,h1,h2⟩:=aD h;exact ⟨k,q,h1,h2⟩
theorem ql.rp {g:Gh}{h:Heap}:∀{ns:List Int} {vs:List Value},ql ns vs->bm P g h (ns.map T.int) vs
 | [],_,r=>r
 |_::_,_,⟨t,vs',e,r⟩=>⟨_,vs',e,⟨t,rfl⟩,ql.rp r⟩
theorem s7 {A:Around}{g:Gh}{σ:Sg}{s:Shared}{ts:List T}{l:Addr}{items:Array Value}{i:Int}{p:Tok}{y:T}{Q:Value->Shared->Prop}{E:Value->Shared->Prop}(w:bN P g s.heap σ)(hl:s.heap.IsList l items)(r:bm P g s.heap ts items.toList)(e:z0 i ts=some y)
  (hq:∀u s' g',aQ g s g' s'->bN P g' s'.heap σ->Rp P g' s'.heap y u->Q u s'):wpAny P.M A (getItem (.ref l) (.int i p)) Q E s:=by
 obtain ⟨k,hs,hk,hx⟩:=tS e
 obtain ⟨u,hu,hR⟩:=r.get hx
 rw [Array.getElem?_toList] at hu
 have hlen:items.size=ts.length:=r.length
 rcases nh hk with ⟨h0,rfl,h1⟩ | ⟨h0,h1,rfl⟩
 .exact wpAny_getItem_list hl h0 (r8 hs).2 hu (hq u s g (.refl g s) w hR)
 .rw [<-hlen] at h1 hu
  exact wpAny_getItem_list_neg hl h0 h1 (r8 hs).1 (x:=u) hu (hq u s g (.refl g s) w hR)
noncomputable abbrev Aj (P:Pg)(value slice:Expr):W2 Value:=fun A _ x y Q E s=>wpAny P.M A (subscriptTail value slice x y) Q E s
theorem yk {value slice:Expr}(hs:∀x y,subscripted slice false x y=operate [x,y] (getItem x y)):rJ P (Aj P value slice) au (RV P):=fun A env g σ s x x' t t' y Q E rm w q q' e hq=>by
 obtain ⟨i,e1,e2⟩:=aD e
 obtain ⟨p,rfl⟩:=q'.i e1
 cases e3:ir t with
 |some ts=>
  rw [e3] at e2
  rcases q.sq e3 with ⟨a,vs,n,rfl,h1,l,r⟩ | ⟨a,vs,n,rfl,h1,l,r⟩
  .obtain ⟨k,h2,hk,hx⟩:=tS e2
   obtain ⟨u,hu,hR⟩:=r.get hx
   rw [Array.getElem?_toList] at hu
   rw [show ts.length=vs.size from r.length.symm] at hk
   exact tail_any ⟨_,h1,rfl⟩ slot_tuple_getitem.lookup (PySem.P.getItem_tuple h1 (r8 h2).1 (r8 h2).2 hk hu (hq u s g (.refl g s) w hR)) (hs _ _)
  .have hl:s.heap.IsList a vs:=⟨_,h1,rfl,n,rfl⟩
   exact tail_any hl.typeIs slot_list_getitem.lookup (s7 w hl r e2 hq) (hs _ _)
 |none=>cases e4:ET t with
  |some ns=>
   rw [e3,e4] at e2
   obtain ⟨a,items,rfl,⟨o,g1,g2⟩,_,r⟩:=q.n e4
   have hl:s.heap.IsList a items:=⟨o,(w.base _ _ g1).2,g2⟩
   exact tail_any hl.typeIs slot_list_getitem.lookup (s7 w hl r.rp e2 hq) (hs _ _)
  |none=>
   rw [e3,e4] at e2
   obtain ⟨z,e5,e6⟩:=aD e2
   obtain ⟨⟨g1,g2⟩,p',rfl⟩:=q.s e5
   unfold vh at e6
   cases h2:sm i with
   |false=>rw [h2] at e6;cases e6
   |true=>
    rw [h2] at e6
    obtain ⟨c,hv,rfl⟩:=ax e6
    have hlo:=r8 h2
    exact tail_any (typeIs_str s z p') slot_str_getitem.lookup (getItem_str (by simp;lia -abstractProof) hv (hq _ _ g (.toks g s _) w ⟨⟨AK g1 hv,show (1:Nat)<=lim by decide⟩,_,rfl⟩)) (hs _ _)
theorem av.idx {a i:Expr}{pa pi:PE}{pos:Pos}(hs:∀x y,subscripted i false x y=operate [x,y] (getItem x y))(ha:av P B C a pa (RX P))(hi:av P B C i pi (RX P)):av P B C (.Subscript a i pos) (p2 au pa pi) (RV P):=
 (ha.op2 hi.xy lA (yk hs)).map fun _ _ _ _ _=>Subscript_
theorem bm.cut {g:Gh}{h:Heap}{ts:List T}{xs:List Value}(r:bm P g h ts xs)(lo hi:Option Int):bm P g h (Mine.cut lo hi ts) (Mine.cut lo hi xs):=by
 unfold Mine.cut
 rw [r.length]
 exact (r.drop _).take _
theorem fQ {α:Type}(lo hi:Option Int)(xs:List α):(cut lo hi xs).length<=xs.length:=le_trans (List.length_take_le' _ _) (by rw [length_drop];exact sub_le _ _)
theorem BS {α:Type}{lo hi:Option Int}{xs:List α}{a:α}(h:a∈cut lo hi xs):a∈xs:=List.mem_of_mem_drop (List.mem_of_mem_take h)
theorem yg (items:Array Value)(lo hi:Option Int):slicePick items lo hi none=(cut lo hi items.toList).toArray:=by
 rw [slicePick_plain];simp [cut]
theorem BY (n:Nat)(i:Int):clipAt n i<=n:=Int.toNat_le.mpr (Int.max_le.mpr ⟨natCast_nonneg n,Int.min_le_right _ _⟩)
theorem vb (lo hi:Option Int)(n:Nat):Builtin.Slice.sliceAdjust lo hi 1 (n:Int)=(((lo.elim 0 (clipAt n):Nat):Int),((hi.elim n (clipAt n):Nat):Int)):=by
 unfold Builtin.Slice.sliceAdjust
 have h1:¬((1:Int) < 0):=by lia -abstractProof
 simp only [h1,if_false]
 have one:∀i:Int,(if i < 0 then max (i+(n:Int)) 0 else min i (n:Int))=((clipAt n i:Nat):Int):=fun i=>by
  rw [clipAt_cast]
  by_cases q:i < 0
  .rw [if_pos q,if_pos q,Int.min_eq_left (Int.add_le_of_le_sub_right (by rw [Int.sub_self];exact Int.le_of_lt q)),Int.max_comm]
  .rw [if_neg q,if_neg q,Int.max_eq_right (Int.le_min.mpr ⟨not_lt.mp q,natCast_nonneg n⟩)]
 cases lo<;>cases hi<;>simp [one]
theorem ut (a b:Nat):Builtin.Slice.slicePlaces (a:Int) (b:Int) 1=b - a:=by
 unfold Builtin.Slice.slicePlaces
 rw [if_pos (show (1:Int) > 0 by decide)]
 by_cases q:(a:Int) < b
 .rw [if_pos q,ediv_one];lia
 .rw [if_neg q,Nat.sub_eq_zero_of_le (Int.ofNat_le.mp (not_lt.mp q))];rfl
theorem wE (xs:Array Value)(a m:Nat):((List.range m).filterMap fun (k:Nat)=>xs[((a:Int)+(k:Int) * 1).toNat]?)=(xs.toList.drop a).take m:=by
 have e:(fun (k:Nat)=>xs[((a:Int)+(k:Int) * 1).toNat]?)=fun k=>xs[a+k]?:=by
  funext k
  have:((a:Int)+(k:Int) * 1).toNat=a+k:=by lia -abstractProof
  rw [this]
 rw [e]
 have:=pick_run xs a m
 rw [List.filterMap_map] at this
 exact this
theorem jX {prog:Program}{w:World}{A:Around}{E:Value->Shared->Prop}{s:Shared}{v:Value}{i:Option Int}{Q:Option Int->Shared->Prop}(p:IsPart v i)(h:Q i s):wpAny (model prog w) A (Builtin.Slice.slicePartIndex v) Q E s:=by
 cases p with
 |none=>exact slicePart_none h
 |int i t=>exact slicePart_int h
theorem kq {prog:Program}{w:World}{A:Around}{E:Value->Shared->Prop}{s:Shared}{t sl:Addr}{items:Array Value}{n:Nat}{vl vu:Value}{lo hi:Option Int}{Q:Value->Shared->Prop}(ht:IsT s.heap t items n)(hs:s.heap.IsSliceOf sl vl vu .none)(pl:IsPart vl lo)(pu:IsPart vu hi)
  (h1:cut lo hi items.toList=items.toList->Q (.ref t) s)
  (h:Q (.ref s.heap.objs.size) {s with heap:=s.heap.push {cls:=.type "tuple",data:=.seq (cut lo hi items.toList).toArray}})
  (hsz:items.size<=sizeLine):wpAny (model prog w) A (getItem (.ref t) (.ref sl)) Q E s:=by
 have hT:s.TypeIs (.ref t) "tuple":=⟨_,ht,rfl⟩
 have hI:IsTup s.heap t items:=⟨_,ht,rfl,n,rfl⟩
 have hdrop:sizeOk (.seq (cut lo hi items.toList).toArray):=by
  show (cut lo hi items.toList).toArray.size<=sizeLine
  rw [size_toArray]
  have:=fQ lo hi items.toList
  simp at this;lia -abstractProof
 obtain ⟨os,hos,hcs,hds⟩:=id hs
 have hTs:s.TypeIs (.ref sl) "slice":=⟨os,hos,hcs⟩
 unfold getItem
 try with_reducible refine wpAny_holding ?_
 first |refine wpAny_bind (wpAny_pure ?_) |skip
 refine wpAny_bind (wpAny_sequenceKey hT (by decide) ?_)
 refine wpAny_bind (wpAny_callSpecial?_slot (name:=ofString "__getitem__") hT slot_tuple_getitem
  (wpAny_call_entry slot_tuple_getitem hT entry_tuple_getitem ?_ (args_tuple_getitem _ _)))
 show wpAny _ _ (Builtin.Tuple.tupleItemsOf (.ref t) >>=_) _ _ s
 refine wpAny_bind (tupleItemsOf_ hI ?_)
 refine wpAny_bind (wpAny_typeOf hTs ?_)
 rw [if_pos (by decide)]
 have app:∀(Q':Int×Int×Nat->Shared->Prop) (E':Value->Shared->Prop) (A':Around),Q' (((lo.elim 0 (clipAt items.size):Nat):Int),1,hi.elim items.size (clipAt items.size) - lo.elim 0 (clipAt items.size)) s->wpAny (model prog w) A' (Builtin.Slice.sliceApplied (.ref sl) (pure (items.size:Int))) Q' E' s:=fun Q' E' A' hq=>by
  unfold Builtin.Slice.sliceApplied Builtin.Slice.sliceFields
  refine wpAny_bind (wpAny_bind (wpAny_field hos hds (x:=vl) rfl (wpAny_bind (wpAny_field hos hds (x:=vu) rfl (wpAny_bind (wpAny_field hos hds (x:=.none) rfl (wpAny_pure ?_)))))))
  refine wpAny_bind (slicePart_none ?_)
  show wpAny _ _ (if ((1:Int)==0)=true then _ else _) _ _ s
  rw [if_neg (by decide)]
  refine wpAny_bind (jX pl (wpAny_bind (jX pu (wpAny_bind (wpAny_pure ?_)))))
  show wpAny _ _ (match Builtin.Slice.sliceAdjust lo hi 1 (items.size:Int) with | (lo,hi)=>pure (lo,(1:Int),Builtin.Slice.slicePlaces lo hi 1)) _ _ s
  rw [vb]
  show wpAny _ _ (pure (_,(1:Int),Builtin.Slice.slicePlaces _ _ 1)) _ _ s
  rw [ut]
  exact wpAny_pure hq
 refine wpAny_bind (app _ _ _ ?_)
 dsimp only
 have ecut:cut lo hi items.toList=(items.toList.drop (lo.elim 0 (clipAt items.size))).take (hi.elim items.size (clipAt items.size) - lo.elim 0 (clipAt items.size)):=by simp [cut]
 by_cases hw:(((lo.elim 0 (clipAt items.size):Nat):Int)==0&&(1:Int)==1&&(hi.elim items.size (clipAt items.size) - lo.elim 0 (clipAt items.size))==items.size)=true
 .have hq:Q (.ref t) s:=h1 (by
   simp only [and_eq_true,beq_iff_eq] at hw
   have z:lo.elim 0 (clipAt items.size)=0:=by lia -abstractProof
   rw [ecut,hw.2,z,drop_zero,List.take_of_length_le (by simp)])
  rw [if_pos hw]
  refine wpAny_bind ?_
  unfold Builtin.Tuple.tupleIsExact
  refine wpAny_bind (wpAny_typeOf hT (wpAny_pure ?_))
  rw [if_pos (by decide)]
  first
   |exact wpAny_bind (wpAny_rule (wpAny_pure ⟨_,rfl,wpAny_pure hq⟩))
   |exact wpAny_bind (wpAny_rule (wpAny_bind (wpAny_pure (wpAny_pure ⟨_,rfl,wpAny_pure hq⟩))))
   |exact wpAny_bind (wpAny_rule (wpAny_bind (wpAny_pure (wpAny_pure ⟨_,rfl,hq⟩))))
   |exact wpAny_bind (wpAny_rule (wpAny_pure ⟨_,rfl,hq⟩))
 .rw [if_neg hw,wE,<-ecut]
  first
   |exact wpAny_bind (m:=Builtin.Tuple.tupleExact _) (wpAny_newObj_type (wpAny_pure ⟨_,rfl,wpAny_pure h⟩) hdrop)
   |exact wpAny_bind (m:=Builtin.Tuple.tupleExact _) (wpAny_newObj_type (wpAny_bind (wpAny_pure (wpAny_pure ⟨_,rfl,wpAny_pure h⟩))) hdrop)
   |exact wpAny_bind (wpAny_bind (m:=Builtin.Tuple.tupleExact _) (wpAny_newObj_type (wpAny_pure (wpAny_pure ⟨_,rfl,wpAny_pure h⟩)) hdrop))
   |exact wpAny_bind (wpAny_bind (m:=Builtin.Tuple.tupleExact _) (wpAny_newObj_type (wpAny_pure ⟨_,rfl,wpAny_pure h⟩) hdrop))
theorem vR (lo hi:Option Int)(n:Nat):Builtin.Str.strSliceIndices lo hi 1 n=(List.range (hi.elim n (clipAt n) - lo.elim 0 (clipAt n))).map (lo.elim 0 (clipAt n)+·):=by
 have:Builtin.Str.strSliceIndices lo hi 1 n=sliceRange (sliceBounds lo hi none n).1 (sliceBounds lo hi none n).2.1 (sliceBounds lo hi none n).2.2:=rfl
 rw [this,sliceBounds_plain,sliceRange_one]
theorem wD (x:Str)(lo hi:Option Int):(Builtin.Str.strSliceIndices lo hi 1 x.length).filterMap (x.cps[·]?)=cut lo hi x.cps.toList:=by
 rw [vR,pick_run];simp [cut,Str.length]
theorem uP (x:Str)(lo hi:Option Int)(h:(Builtin.Str.strSliceIndices lo hi 1 x.length).length=x.length):gF lo hi x=x:=by
 have hl:=h
 rw [vR] at hl
 simp only [length_map,length_range] at hl
 have hle:hi.elim x.length (clipAt x.length)<=x.length:=by
  cases hi with
  |none=>exact le_refl _
  |some i=>exact BY _ i
 have e:cut lo hi x.cps.toList=x.cps.toList:=by
  unfold cut
  simp only [Array.length_toList]
  change _=_
  by_cases hx:x.length=0
  .have:x.cps.toList=[]:=by have:x.cps.size=0:=hx;simpa using this
   rw [this];simp
  .have z:lo.elim 0 (clipAt x.cps.size)=0:=by show lo.elim 0 (clipAt x.length)=0;lia
   have z':hi.elim x.cps.size (clipAt x.cps.size)=x.cps.size:=by show hi.elim x.length (clipAt x.length)=x.length;lia
   rw [z,z',drop_zero,List.take_of_length_le (by simp)]
 unfold gF
 rw [e]
theorem wo {x:Str}(h:PyData.strOk x=true)(lo hi:Option Int):PyData.strOk (gF lo hi x)=true:=by
 simp only [PyData.strOk,Array.all_eq_true',decide_eq_true_eq] at h ⊢
 intro c hc
 exact h c (Array.mem_toList_iff.mp (BS (by simpa [gF] using hc)))
set_option tactic.hygienic true in
theorem mj {prog:Program}{w:World}{A:Around}{E:Value->Shared->Prop}{s:Shared}{x:Str}{t:Tok}{sl:Addr}{vl vu:Value}{lo hi:Option Int}{Q:Value->Shared->Prop}(hs:s.heap.IsSliceOf sl vl vu .none)(pl:IsPart vl lo)(pu:IsPart vu hi)
  (h:∀t' tk,Q (.str (gF lo hi x) t') {s with toks:=tk})(hsz:x.length<=lim):wpAny (model prog w) A (getItem (.str x t) (.ref sl)) Q E s:=by
 have part:∀{v:Value} {i:Option Int},IsPart v i->∃p:Option (Int×Tok),v=partValue p/\p.map (·.1)=i:=fun p=>by
  cases p with
  |none=>exact ⟨none,rfl,rfl⟩
  |int i t=>exact ⟨some (i,t),rfl,rfl⟩
 obtain ⟨l,rfl,rfl⟩:=part pl
 obtain ⟨u,rfl,rfl⟩:=part pu
 refine wpAny_getItem_str_slice (l:=l) (u:=u) (st:=none) ?_ rfl ?_
 .obtain ⟨o,e1,e2,e3⟩:=hs
  exact ⟨o,e1,e2,e3⟩
 .unfold sliceMade
  have e:slicePicked x l u none=Builtin.Str.strSliceIndices (l.map (·.1)) (u.map (·.1)) 1 x.length:=rfl
  split
  .rename_i hw
   simp only [e,and_eq_true,beq_iff_eq] at hw
   have:=h t s.toks
   rw [uP x _ _ hw.2] at this
   exact this
  .rw [e,wD]
   exact ⟨by
    have:=fQ (l.map (·.1)) (u.map (·.1)) x.cps.toList
    show (cut (l.map (·.1)) (u.map (·.1)) x.cps.toList).toArray.size<=sizeLine
    simp at this ⊢
    have h2:x.cps.size<=lim:=hsz
    simp only [lim,sizeLine] at *
    lia -abstractProof,h s.toks (s.toks+1)⟩
noncomputable abbrev tW (P:Pg)(B:b7)(C:Ct)(e:Option Expr)(p:PO):Prop:=ee P B C (P.W fun env=>valueOrNone (evalOpt e env)) p fun _ _ _ i x=>IsPart x i
theorem tW.none:tW P B C Option.none jB:=.now fun _ _ _ _ _ _ _ _ _ _ _ _ hq=>wpAny_pure (hq _ _ _ rfl .none)
theorem tW.some {e:Expr}{p:PE}(h:av P B C e p (RX P)):tW P B C (Option.some e) (p1 cN p):=
 (h.xy.op1 (N:=fun A _ x Q E s=>Q x s) (fun _ _ _ _ _ _ _ r=>r) fun A env g σ s x t y Q E rm w q e hq=>by
  obtain ⟨i,e1,e2⟩:=aD e
  obtain ⟨p,rfl⟩:=q.i e1
  cases e2;exact hq _ s g (.refl g s) w (.int i p)).map fun _ _ _ _ _ h=>h
theorem zz {lo hi:Option Int}{xs:List T}{ys:List Value}(hl:ys.length=xs.length)(h:cut lo hi ys=ys):cut lo hi xs=xs:=by
 have e:=congrArg List.length h
 unfold cut at e ⊢
 rw [length_take,length_drop,hl] at e
 cases xs with
 |nil=>simp
 |cons y ys=>
  generalize lo.elim 0 (clipAt (y::ys).length)=a at *
  generalize hi.elim (y::ys).length (clipAt (y::ys).length)=b at *
  have hp:0 < (y::ys).length:=succ_pos _
  have z:a=0:=Nat.eq_zero_of_not_pos fun q=>dH (Nat.sub_lt hp q) (le_trans (le_of_eq e.symm) (Nat.min_le_right _ _))
  subst z
  exact List.take_of_length_le (le_trans (le_of_eq e.symm) (min_le_left _ _))
noncomputable abbrev Gz (vl vu:Value):Obj:={cls:=.type "slice",data:=.fields #[vl,vu,.none]}
theorem xe {z:Str}(lo hi:Option Int)(h:z.length<=lim):(gF lo hi z).length<=lim:=le_trans (by
 show (cut lo hi z.cps.toList).toArray.size<=_
 rw [size_toArray];exact fQ lo hi _) h
theorem Dl {A:Around}{g:Gh}{σ:Sg}{s:Shared}{t y:T}{x vl vu:Value}{lo hi:Option Int}{value slice:Expr}{Q:Value->Shared->Prop}{E:Value->Shared->Prop}(w:bN P g s.heap σ)(q:jq P g s.heap t x)(pl:IsPart vl lo)(pu:IsPart vu hi)(e:ci t lo hi=some y)
  (hs:∀x i,subscripted slice false x i=operate [i,x] (getItem x i))(hq:∀u s' g',aQ g s g' s'->bN P g' s'.heap σ->Rp P g' s'.heap y u->Q u s'):
  wpAny P.M A (subscriptTail value slice x (.ref s.heap.objs.size)) Q E {s with heap:=s.heap.push (Gz vl vu)}:=by
 have p:aQ g s g {s with heap:=s.heap.push (Gz vl vu),toks:=s.toks}:=.push _ _
 have w':bN P g (s.heap.push (Gz vl vu)) σ:=w.push _
 have hsl:=Heap.IsSliceOf.new s.heap vl vu .none
 have q':=(jq.post w p q).y
 have hq':∀u s' g',aQ g {s with heap:=s.heap.push (Gz vl vu)} g' s'->bN P g' s'.heap σ->Rp P g' s'.heap y u->Q u s':=fun u s' g' p'=>hq u s' g' (p.trans p')
 unfold ci at e
 cases e1:rH t with
 |some ts=>
  rw [e1] at e;cases e
  have qt:=q'.tu e1
  obtain ⟨l,rfl,f,vs,n,g1,g3,g2⟩:=id qt
  have hl:=le_trans (fQ lo hi ts) g3
  refine tail_any ⟨_,g1,rfl⟩ slot_tuple_getitem.lookup (kq (lo:=lo) (hi:=hi) g1 hsl pl pu (fun e=>?_) (ue (tk:=s.toks) w' (g2.cut lo hi) hl hq') (bD (g2.size▸g3))) (hs _ _)
  exact hq' _ _ g (.refl _ _) w' (by rw [zz g2.length e];exact qt)
 |none=>cases e2:gI t with
  |some ts=>
   rw [e1,e2] at e;cases e
   obtain ⟨l,rfl,vs,n,g1,g3,g2⟩:=q'.ls e2
   have hl:=le_trans (fQ lo hi ts) g3
   refine tail_any ⟨_,g1,rfl⟩ slot_list_getitem.lookup (wpAny_getItem_list_slice (lo:=lo) (hi:=hi) (st:=none) ⟨_,g1,rfl,n,rfl⟩ hsl pl pu .none (by simp) ?_ (bD (g2.size▸g3))) (hs _ _)
   rw [yg]
   exact kh (tk:=s.toks) w' (g2.cut lo hi) hl hq'
  |none=>
   rw [e1,e2] at e
   obtain ⟨z,e3,e4⟩:=aD e
   obtain ⟨⟨g1,g2⟩,p',rfl⟩:=q'.s e3
   cases e4
   exact tail_any (typeIs_str _ z p') slot_str_getitem.lookup (mj hsl pl pu (fun t' tk=>hq' _ _ g (.toks _ _ tk) w' ⟨⟨wo g1 lo hi,xe lo hi g2⟩,_,rfl⟩) g2) (hs _ _)
theorem av.slc {a:Expr}{lo hi:Option Expr}{pa:PE}{pl ph:PO}{p pos:Pos}(ha:av P B C a pa (RX P))(hl:tW P B C lo pl)(hh:tW P B C hi ph):av P B C (.Subscript a (.Slice lo hi Option.none p) pos) (p3 ci pa pl ph) (RV P):=
 (ha.bind (N:=fun A env x Q E s=>wpAny P.M A (eval (.Slice lo hi Option.none p) env) (fun y s2=>wpAny P.M A (subscriptTail a (.Slice lo hi Option.none p) x y) Q E s2) E s) (F:=fun c ρ k t σ=>pl c ρ σ fun b σ=>ph c ρ σ fun x σ=>up (ci t b x) σ k) (R':=RV P) lA
  fun n A env g ga ρ σ s s₁ x t k Q E p X r hb hq=>by
   rw [arm_eval_Slice]
   refine wpAny_bind (hl n A env ga ρ σ s₁ _ _ _ X hb fun vl s2 gb l σ₂ ea pb w2 k2=>?_)
   refine wpAny_bind (wpAny_holding (hh n A env gb ρ σ₂ s2 _ _ _ (X.post pb w2) (fun q=>hb (ea.trans q)) fun vu s3 gc h σ₃ eb pc w3 k3=>?_))
   refine wpAny_bind (wpAny_holding (wpAny_pure (wpAny_newObj_type ?_ (by show (3:Nat)<=sizeLine+2;decide))))
   obtain ⟨y,e⟩:=cG fun q=>hb (ea.trans (eb.trans q))
   exact Dl w3 (jq.post w2 pc (jq.post X.g pb r)) k2 k3 e (fun _ _=>rfl) fun u s' g' p w r=>hq u s' g' y σ₃ (ea.trans (eb.trans (by rw [e];rfl))) ((pb.trans pc).trans p) w r).map fun _ _ _ _ _=>Subscript_
end
structure be (V W:List Addr) (g:Gh) (s:Shared) (g':Gh) (s':Shared):Prop where
 st:∃h' tk,s'={s with heap:=h',toks:=tk}
 keep:∀a o,s.heap.get? a=some o->¬g.Z a->¬g.O a->a∉W->s'.heap.get? a=some o
 back:∀a,a∉V->s'.heap.get? a=none->s.heap.get? a=none
 F:∀a,g.F a->g'.F a
 Fn:∀a,g'.F a->g.F a\/g.O a\/s.heap.get? a=none
 Zn:∀a,g'.Z a->g.Z a\/s.heap.get? a=none
 On:∀a,g'.O a->g.O a\/s.heap.get? a=none
 sp:g'.sp=g.sp
 sa:g'.sa=g.sa
structure cf (V W:List Addr) (g:Gh) (s:Shared) (g':Gh) (s':Shared):Prop where
 st:∃h' tk,s'={s with heap:=h',toks:=tk}
 keep:∀a o,s.heap.get? a=some o->¬g.Z a->a∉W->s'.heap.get? a=some o
 back:∀a,a∉V->s'.heap.get? a=none->s.heap.get? a=none
 F:∀a,g.F a->g'.F a
 Fn:∀a,g'.F a->g.F a\/s.heap.get? a=none
 Zn:∀a,g'.Z a->g.Z a\/s.heap.get? a=none
 o:g'.o=g.o
 sp:g'.sp=g.sp
 sa:g'.sa=g.sa
inductive It (P:Pg) (g:Gh) (h:Heap) (g':Gh) (h':Heap) (t:T) (x:Value):Prop
 |mk (a:Addr) (e:x=.ref a) (n:g.O a\/h.get? a=none) (f:¬g'.F a) (z:¬g'.Z a) (r:iY P g' h' a t)
noncomputable def tX (P:Pg)(fr:Bool)(g:Gh)(h:Heap)(g':Gh)(h':Heap)(t:T)(x:Value):Prop:=match fr with
 |false=>Rp P g' h' t x
 |true=>It P g h g' h' t x
noncomputable def ew (P:Pg)(B:b7)(C:Ct)(fr:Bool)(C':Ct)(W:WP Flow)(p:PS):Prop:=
 ∀n A env g ρ σ s (k:PK aW) (Q:Flow->Shared->Prop) (E:Value->Shared->Prop),At P B C n A env g ρ σ s->p (P.cx n) ρ σ k≠.bad->
  (∀s' g' ρ' σ',p (P.cx n) ρ σ k=k ρ' σ'->be [] (own env) g s g' s'->At P B C' n A env g' ρ' σ' s'->Q .next s')->
  (∀x s' g' t σ',p (P.cx n) ρ σ k=.ret t σ'->be [] (own env) g s g' s'->bN P g' s'.heap σ'->tX P fr g s.heap g' s'.heap t x->Q (.ret x) s')->W A env Q E s
noncomputable abbrev aX (P:Pg)(B:b7)(C:Ct)(fr:Bool)(C':Ct)(st:Stmt)(p:PS):Prop:=ew P B C fr C' (P.W fun env=>exec st env) p
noncomputable abbrev iX (P:Pg)(B:b7)(C:Ct)(fr:Bool)(C':Ct)(ss:List Stmt)(p:PS):Prop:=ew P B C fr C' (P.W fun env=>execs ss env) p
section
variable {P:Pg} {B:b7} {C C' C'':Ct} {fr:Bool} {n:Nat} {A:Around} {env:Env} {g g' g1 g2:Gh} {ρ:aW} {σ:Sg} {s s' s₁ s2:Shared} {h h':Heap}
theorem aQ.toS {W:List Addr}(p:aQ g s g' s'):be [] W g s g' s':=⟨p.st,fun a o e z _ _=>p.keep a o e z,fun a _=>p.back a,p.F,fun a f=>(p.Fn a f).imp_right .inr,p.Zn,fun a ⟨i,q⟩=>.inl ⟨i,p.o▸q⟩,p.sp,p.sa⟩
theorem be.b {W:List Addr}(p:be [] W g s g1 s₁)(a:Addr):s₁.heap.get? a=none->s.heap.get? a=none:=p.back a (fun q=>nomatch q)
theorem be.trans {V W:List Addr}(p:be [] W g s g1 s₁)(q:be V W g1 s₁ g2 s2):be V W g s g2 s2 where
 st:=St.trans p.st q.st
 keep a o e z o' w:=q.keep a o (p.keep a o e z o' w) (fun x=>(p.Zn a x).elim z (ay e)) (fun x=>(p.On a x).elim o' (ay e)) w
 back a v e:=p.b a (q.back a v e)
 F a f:=q.F a (p.F a f)
 Fn a f:=(q.Fn a f).elim (p.Fn a) fun x=>.inr (x.elim (p.On a) fun x=>.inr (p.b a x))
 Zn a f:=(q.Zn a f).elim (p.Zn a) fun x=>.inr (p.b a x)
 On a f:=(q.On a f).elim (p.On a) fun x=>.inr (p.b a x)
 sp:=q.sp.trans p.sp
 sa:=q.sa.trans p.sa
theorem aQ.toE {W:List Addr}(p:aQ g s g' s'):cf [] W g s g' s':=⟨p.st,fun a o e z _=>p.keep a o e z,fun a _=>p.back a,p.F,p.Fn,p.Zn,p.o,p.sp,p.sa⟩
theorem cf.toS {V W:List Addr}(p:cf V W g s g' s'):be V W g s g' s':=⟨p.st,fun a o e z _=>p.keep a o e z,p.back,p.F,fun a f=>(p.Fn a f).imp_right .inr,p.Zn,fun a ⟨i,q⟩=>.inl ⟨i,p.o▸q⟩,p.sp,p.sa⟩
theorem cf.weak {V V' W W':List Addr}(p:cf V W g s g' s')(hv:∀a∈V,a∈V')(hw:∀a∈W,a∈W'):cf V' W' g s g' s':={p with keep:=fun a o e z n=>p.keep a o e z fun x=>n (hw a x),back:=fun a n=>p.back a fun x=>n (hv a x)}
theorem be.weak {W W':List Addr}(p:be [] W g s g' s')(hw:∀a∈W,a∈W'):be [] W' g s g' s':={p with keep:=fun a o e z q n=>p.keep a o e z q fun x=>n (hw a x)}
theorem cf.trans {V W:List Addr}(p:cf [] W g s g1 s₁)(q:cf V W g1 s₁ g2 s2):cf V W g s g2 s2:=
 have b:∀a,s₁.heap.get? a=none->s.heap.get? a=none:=fun a=>p.back a (fun q=>nomatch q)
 ⟨St.trans p.st q.st,fun a o e z w=>q.keep a o (p.keep a o e z w) (fun x=>(p.Zn a x).elim z (ay e)) w,fun a v e=>b a (q.back a v e),fun a f=>q.F a (p.F a f),fun a f=>(q.Fn a f).elim (p.Fn a) fun x=>.inr (b a x),fun a f=>(q.Zn a f).elim (p.Zn a) fun x=>.inr (b a x),q.o.trans p.o,q.sp.trans p.sp,q.sa.trans p.sa⟩
theorem cf.toP {V W:List Addr}(p:cf V W g s g' s')(hw:∀a∈W,s.heap.get? a=none)(hv:∀a∈V,s.heap.get? a=none):aQ g s g' s':=
 ⟨p.st,fun a o e z=>p.keep a o e z fun x=>ay e (hw a x),fun a e=>by
  by_cases x:a∈V
  .exact hv a x
  .exact p.back a x e,p.F,p.Fn,p.Zn,p.o,p.sp,p.sa⟩
theorem tX.after {W:List Addr}{t:T}{x:Value}(p:be [] W g s g1 s₁)(r:tX P fr g1 s₁.heap g' h' t x):tX P fr g s.heap g' h' t x:=by
 cases fr with
 |false=>exact r
 |true=>exact let ⟨a,e,n,f,z,r⟩:=r;⟨a,e,n.elim (p.On a) fun x=>.inr (p.b a x),f,z,r⟩
theorem ew.map {W W':WP Flow}{p:PS}(h:ew P B C fr C' W p)(hW:∀A env Q E s,W A env Q E s->W' A env Q E s):ew P B C fr C' W' p:=fun n A env g ρ σ s k Q E X hb hq hr=>hW A env Q E s (h n A env g ρ σ s k Q E X hb hq hr)
theorem ee.then {α Y:Type}{W:WP α}{p:PG Y}{R:RR α Y}{N:Around->Env->α->(Flow->Shared->Prop)->(Value->Shared->Prop)->Shared->Prop}{F:cr->aW->PK aW->PK Y}(h:ee P B C W p R)
  (hf:∀n A env g g1 ρ σ s s₁ x t (k:PK aW) Q E,aQ g s g1 s₁->At P B C n A env g1 ρ σ s₁->R s.heap g1 s₁.heap t x->F (P.cx n) ρ k t σ≠.bad->
   (∀s' g' ρ' σ',F (P.cx n) ρ k t σ=k ρ' σ'->be [] (own env) g1 s₁ g' s'->At P B C' n A env g' ρ' σ' s'->Q .next s')->
   (∀x s' g' u σ',F (P.cx n) ρ k t σ=.ret u σ'->be [] (own env) g1 s₁ g' s'->bN P g' s'.heap σ'->tX P fr g1 s₁.heap g' s'.heap u x->Q (.ret x) s')->N A env x Q E s₁):
  ew P B C fr C' (fun A env Q E s=>W A env (fun x s₁=>N A env x Q E s₁) E s) (fun c ρ σ k=>p c ρ σ (F c ρ k)):=fun n A env g ρ σ s k Q E X hb hq hr=>
 h n A env g ρ σ s (F _ ρ k) _ E X hb fun x s₁ g1 t σ₁ e p w r=>hf n A env g g1 ρ σ₁ s s₁ x t k Q E p (X.post p w) r (fun q=>hb (e.trans q)) (fun s' g' ρ' σ' e' p' X'=>hq s' g' ρ' σ' (e.trans e') (p.toS.trans p') X')
  fun x s' g' u σ' e' p' w' r'=>hr x s' g' u σ' (e.trans e') (p.toS.trans p') w' (tX.after (W:=own env) p.toS r')
theorem ew.nil:iX P B C fr C [] an:=fun n A env g ρ σ s k Q E X hb hq hr=>wpAny_execs_nil (hq s g ρ σ rfl (aQ.refl g s).toS X)
theorem ew.cons {st:Stmt}{ss:List Stmt}{p ps:PS}(h:aX P B C fr C' st p)(hs:iX P B C' fr C'' ss ps):iX P B C fr C'' (st::ss) (af p ps):=fun n A env g ρ σ s k Q E X hb hq hr=>by
 refine wpAny_execs_cons (h n A env g ρ σ s (fun ρ σ=>ps _ ρ σ k) _ E X hb (fun s₁ g1 ρ₁ σ₁ e p X1=>?_) fun x s₁ g1 t σ₁ e p w r=>hr x s₁ g1 t σ₁ e p w r)
 exact hs n A env g1 ρ₁ σ₁ s₁ k Q E X1 (fun q=>hb (e.trans q)) (fun s' g' ρ' σ' e' p' X'=>hq s' g' ρ' σ' (e.trans e') (p.trans p') X') fun x s' g' t σ' e' p' w' r'=>hr x s' g' t σ' (e.trans e') (p.trans p') w' (tX.after p r')
theorem aX.if {t:Expr}{a b:List Stmt}{pt:PT}{pa pb:PS}{pos:Pos}(ht:cW P B C t pt)(h1:iX P B C fr C' a pa)(h2:iX P B C fr C' b pb):aX P B C fr C' (.If t a b pos) (bK pt pa pb):=
 (ht.then (N:=fun A env q Q E s=>wpAny P.M A (if q=true then execs a env else execs b env) Q E s) (F:=fun c ρ k q σ=>bif q then pa c ρ σ k else pb c ρ σ k) fun n A env g g1 ρ σ s s₁ x t k Q E p X r hb hq hr=>by
  cases r
  cases x with
  |true=>exact h1 n A env g1 ρ σ s₁ k Q E X hb hq hr
  |false=>exact h2 n A env g1 ρ σ s₁ k Q E X hb hq hr).map fun A env Q E s h=>wpAny_If (wpAny_mono h (fun q s₁ h=>by cases q<;>exact h) fun _ _ h=>h)
theorem aX.ret {e:Expr}{p:PE}{pos:Pos}(h:av P B C e p (RV P)):aX P B C false C' (.Return (some e) pos) (aH p):=
 (h.then (fr:=false) (N:=fun A env x Q E s=>Q (.ret x) s) (F:=fun c ρ k t σ=>.ret t σ) fun n A env g g1 ρ σ s s₁ x t k Q E p X r hb hq hr=>hr x s₁ g1 t σ rfl (aQ.refl g1 s₁).toS X.g r).map fun _ _ _ _ _=>wpAny_Return_some
theorem aX.retN {e:Expr}{p:PE}{pos:Pos}(h:av P B C e p (RN P)):aX P B C true C' (.Return (some e) pos) (aH p):=fun n A env g ρ σ s k Q E X hb hq hr=>
 wpAny_Return_some (h n A env g ρ σ s (fun t σ=>.ret t σ) _ E X hb fun x s₁ g1 t σ₁ e p w r=>hr x s₁ g1 t σ₁ e p.toS w (let ⟨a,e,n,f,z,o,r⟩:=r;⟨a,e,.inr n,f,z,r⟩))
theorem aX.retO {i:Nat}{y:Str}{k:NameKind}{ep pos:Pos}(hv:bL C i=true)(ht:B.tab[i]?=some (some (y,k))):aX P B C true C' (.Return (some (.Name y ep)) pos) (aH (pV i)):=fun n A env g ρ σ s k Q E X hb hq hr=>by
 obtain ⟨t,e⟩:=cG hb
 obtain ⟨u,v,w⟩:=X.env.var i _ t ht e
 refine wpAny_Return_some (bJ X ht v (hr u s g t σ (by show up (bV ρ i) σ _=_;rw [e];rfl) (aQ.refl g s).toS X.g ?_))
 unfold bW at w
 rw [hv] at w
 obtain ⟨a,rfl,o,r⟩:=w
 exact ⟨a,rfl,.inl ⟨i,o⟩,(X.g.O a ⟨i,o⟩).2.1,(X.g.O a ⟨i,o⟩).2.2,r⟩
theorem aX.expr {e:Expr}{p:PE}{pos:Pos}(hw:∀env,swapsWith e none pos.line env=pure false)(h:av P B C e p (RX P)):aX P B C fr C (.Expr e pos) (jQ p):=fun n A env g ρ σ s k Q E X hb hq hr=>by
 show wpAny P.M A (exec (.Expr e pos) env) Q E s
 rw [exec_Expr env e pos (by simp [interactive,X.fn]) (hw env)]
 exact wpAny_bind (wpAny_standAt (wpAny_bind (h n A env g ρ σ s (fun _ σ=>k ρ σ) _ _ X hb fun x s₁ g1 t σ₁ e p w r=>wpAny_dropValue (hq s₁ g1 ρ σ₁ e p.toS (X.post p w)))))
theorem aX.bad {st:Stmt}:aX P B C fr C' st eS:=fun n A env g ρ σ s k Q E X hb hq hr=>absurd rfl hb
theorem i8 {i j:Nat}{u:T}{v:Option T}:∀{r:aW},bV (r.set i v) j=some u->(j=i/\v=some u)\/(j≠i/\bV r j=some u):=by
 induction i generalizing j with
 |zero=>
  intro r h
  cases r with
  |nil=>cases h
  |cons x r=>
   cases j with
   |zero=>exact .inl ⟨rfl,h⟩
   |succ j=>exact .inr ⟨Nat.succ_ne_zero _,h⟩
 |succ i ih=>
  intro r h
  cases r with
  |nil=>cases h
  |cons x r=>
   cases j with
   |zero=>exact .inr ⟨(Nat.succ_ne_zero _).symm,h⟩
   |succ j=>exact (ih (r:=r) h).imp (fun q=>⟨congrArg Nat.succ q.1,q.2⟩) fun q=>⟨fun e=>q.1 (Nat.succ.inj e),q.2⟩
theorem dT {i j:Nat}{v:Option T}(hn:j≠i):∀{r:aW},bV r j=none->bV (r.set i v) j=none:=fun {r} h=>by
 cases e:bV (r.set i v) j with
 |none=>rfl
 |some u=>exact (i8 e).elim (fun q=>(hn q.1).elim) fun q=>by rw [q.2] at h;cases h
theorem iq:∀{tab:List (Option (Str×NameKind))},(tab.filterMap (·.map (·.1))).Nodup->∀{i j:Nat} {x:Str} {k k':NameKind},tab[i]?=some (some (x,k))->tab[j]?=some (some (x,k'))->i=j
 | [],_,i,j,x,k,k',h,_=>nomatch h
 |none::r,hn,i,j,x,k,k',hi,hj=>match i,j,hi,hj with
  |i+1,j+1,hi,hj=>congrArg (·+1) (iq (tab:=r) hn hi hj)
 |some (y,q)::r,hn,i,j,x,k,k',hi,hj=>by
  have hn':(y::r.filterMap (·.map (·.1))).Nodup:=hn
  have out:∀{m:Nat} {q':NameKind},r[m]?=some (some (y,q'))->False:=fun {m q'} h=>(bi hn').1 (List.mem_filterMap.mpr ⟨_,mem_of_getElem? h,rfl⟩)
  cases i with
  |zero=>cases j with
   |zero=>rfl
   |succ j=>cases hi;exact (out hj).elim
  |succ i=>cases j with
   |zero=>cases hj;exact (out hi).elim
   |succ j=>exact congrArg (·+1) (iq (tab:=r) (bi hn').2 hi hj)
theorem b7.inj {B:b7}(h:B.ok=true){i j:Nat}{x:Str}{k k':NameKind}(hi:B.tab[i]?=some (some (x,k)))(hj:B.tab[j]?=some (some (x,k'))):i=j:=by
 simp only [b7.ok,and_eq_true] at h
 exact iq (of_decide_eq_true h.2) hi hj
structure oW (C:Ct) (i:Nat) (C':Ct):Prop where
 m:C'.m=C.m
 o:∀j,j≠i->bL C' j=bL C j
 un:∀j∈C'.U,j≠i/\j∈C.U
noncomputable def cQ (C:Ct)(i:Nat)(o:Bool)(C':Ct):Bool:=(C'.m==C.m)&&C.O.all (fun j=>Nat.beq j i||bL C' j)&&C'.O.all (fun j=>Nat.beq j i||bL C j)&&(o==bL C' i)&&C'.U.all (fun j=>!Nat.beq j i&&C.U.any (Nat.beq j))
theorem kQ {l:List Nat}{i:Nat}(h:l.any (Nat.beq i)=true):i∈l:=by
 obtain ⟨j,h1,h2⟩:=any_eq_true.mp h
 exact eq_of_beq_eq_true h2▸h1
theorem zY {i j:Nat}(h:i≠j):Nat.beq i j=false:=by
 cases e:Nat.beq i j with
 |false=>rfl
 |true=>exact (h (eq_of_beq_eq_true e)).elim
theorem fg {i:Nat}{o:Bool}(h:cQ C i o C'=true):oW C i C'/\bL C' i=o:=by
 simp only [cQ,and_eq_true,all_eq_true,beq_iff_eq,not_eq_true'] at h
 obtain ⟨⟨⟨⟨h1,h2⟩,h3⟩,h4⟩,h5⟩:=h
 have key:∀{D D':Ct},(∀j∈D.O,(Nat.beq j i||bL D' j)=true)->∀j,j≠i->bL D j=true->bL D' j=true:=fun h j n q=>by
  have:=h j (kQ q)
  rw [zY n] at this;exact this
 refine ⟨⟨h1,fun j n=>?_,fun j hj=>⟨fun q=>?_,kQ (h5 j hj).2⟩⟩,h4.symm⟩
 .cases e:bL C j with
  |true=>exact key h2 j n e
  |false=>cases e':bL C' j with
   |false=>rfl
   |true=>rw [key h3 j n e'] at e;cases e
 .have:=(h5 j hj).1
  rw [q,beq_refl] at this;cases this
structure C6 (P:Pg) (env:Env) (g:Gh) (s:Shared) (h':Heap) (W:Addr):Prop where
 k:aZ g s.heap g h'
 p:∀tk,cf [] [W] g s g {s with heap:=h',toks:=tk}
 lv:∀a,s.heap.get? a≠none->h'.get? a≠none
theorem Cv {W:Addr}(x:cI P B C env g ρ s.heap)(w:bN P g s.heap σ)(hW:W∈own env)(ho:∀b,b≠W->h'.get? b=s.heap.get? b)(hl:h'.get? W≠none):C6 P env g s h' W/\bN P g h' σ:=by
 have nf:∀a,g.F a\/g.Z a\/g.O a->h'.get? a=s.heap.get? a:=fun a q=>ho a fun e=>by
  obtain ⟨_,f,z,o⟩:=x.own W hW
  subst e;exact q.elim f fun q=>q.elim z o
 have kf:aZ g s.heap g h':=⟨fun a f=>⟨f,fun o e=>(nf a (.inl f)).trans e⟩,rfl⟩
 have lv:∀a,s.heap.get? a≠none->h'.get? a≠none:=fun a l=>by
  by_cases q:a=W
  .exact q▸hl
  .rw [ho a q];exact l
 refine ⟨⟨kf,fun tk=>⟨⟨h',tk,rfl⟩,fun a o e _ n=>(ho a fun q=>n (q▸aE rfl)).trans e,fun a _ e=>?_,fun _ f=>f,fun _ f=>.inl f,fun _ f=>.inl f,rfl,rfl,rfl⟩,lv⟩,
  fun a o e=>⟨(w.base a o e).1,(nf a (.inl (w.base a o e).1)).trans (w.base a o e).2⟩,fun a f=>lv a (w.F a f),fun a z=>⟨lv a (w.Z a z).1,(w.Z a z).2⟩,fun a z=>⟨lv a (w.O a z).1,(w.O a z).2⟩,w.oo,
  ⟨let ⟨t,n,e⟩:=w.spot.1;⟨t,n,(nf _ (.inr (.inl w.spot.2.1))).trans e⟩,w.spot.2⟩,fun c ts e=>(w.self c ts e).mono kf (fun a z=>⟨z,fun o e=>(nf a (.inr (.inl z))).trans e⟩) rfl⟩
 by_cases q:s.heap.get? a=none
 .exact q
 .exact (lv a q e).elim
structure Gx (g g':Gh) (i:Nat):Prop where
 F:g'.F=g.F
 Z:g'.Z=g.Z
 sp:g'.sp=g.sp
 sa:g'.sa=g.sa
 o:∀j,j≠i->g'.o j=g.o j
theorem Gx.refl (g:Gh)(i:Nat):Gx g g i:=⟨rfl,rfl,rfl,rfl,fun _ _=>rfl⟩
theorem Gx.k {i:Nat}(x:Gx g g' i)(h:Heap):aZ g h g' h:=⟨fun a f=>⟨x.F▸f,fun _ e=>e⟩,x.sp⟩
theorem cI.forget {i:Nat}(x:cI P B C env g ρ h)(hc:oW C i C')(q:Gx g g' i)(hno:∀a∈Mine.own env,¬g'.O a):cI P B C' env g' (ρ.set i none) h:=
 {x with
  own:=fun a ha=>⟨(x.own a ha).1,q.F▸(x.own a ha).2.1,q.Z▸(x.own a ha).2.2.1,hno a ha⟩
  var:=fun j z v hj hv=>by
   rcases i8 hv with ⟨_,e⟩ | ⟨n,e⟩
   .cases e
   .obtain ⟨u,h1,h2⟩:=x.var j z v hj e
    refine ⟨u,h1,?_⟩
    unfold bW at h2 ⊢
    rw [hc.o j n]
    cases e:bL C j with
    |true=>rw [e] at h2;exact let ⟨a,h3,h4,h5⟩:=h2;⟨a,h3,(q.o j n).trans h4,h5.mono (q.k h) fun _ e=>e⟩
    |false=>rw [e] at h2;exact h2.imp (·.mono (q.k h)) fun ⟨a,b,c,d⟩=>⟨hc.m.trans a,b,c,q.sa▸d⟩
  un:=fun j hj=>dT (hc.un j hj).1 (x.un j (hc.un j hj).2)}
theorem cI.put {W:Addr}{i:Nat}{o:Option T}{u:Value}(x:cI P B C env g ρ s.heap)(hi:i∉C.U)(hW:W∈Mine.own env)(T:C6 P env g s h' W)(ho:∀b,b≠W->h'.get? b=s.heap.get? b)
  (hv:dI B env h' i u)(hns:∃m,h'.Ns env.locals m)(hcl:∀c u,s.heap.IsCell c u->∃u',h'.IsCell c u')(hot:∀j v,j≠i->dI B env s.heap j v->dI B env h' j v)(q:∀t,o=some t->bW P C g s.heap i t u):cI P B C env g (ρ.set i o) h':=
 have mv:∀{j t u},bW P C g s.heap j t u->bW P C g h' j t u:=fun v=>v.move T.k rfl rfl fun a ha o e=>(ho a fun q=>(x.own W hW).2.2.2 (q▸ha)).trans e
 {x with
  ns:=hns
  cell:=fun j z kk hj hk=>let ⟨c,u,l,n⟩:=x.cell j z kk hj hk;let ⟨u',n'⟩:=hcl c u n;⟨c,u',l,n'⟩
  own:=fun a ha=>⟨T.lv a (x.own a ha).1,(x.own a ha).2⟩
  var:=fun j z v hj hv'=>(i8 hv').elim (fun ⟨e,e'⟩=>by subst e;exact ⟨u,hv,mv (q v e')⟩) fun ⟨n,e⟩=>let ⟨u',h1,h2⟩:=x.var j z v hj e;⟨u',hot j u' n h1,mv h2⟩
  un:=fun j hj=>dT (fun q:j=i=>hi (q▸hj)) (x.un j hj)}
theorem yu {h:Heap}{L c:Addr}{m:Str->Option Value}{u:Option Value}(n:h.Ns L m)(k:h.IsCell c u):c≠L:=fun q=>by
 obtain ⟨o,es,ep,e,d,_⟩:=n
 obtain ⟨o',e',d'⟩:=k
 rw [q,e] at e';cases e';rw [d] at d';cases d'
theorem vF {h:Heap}{L:Addr}{m m':Str->Option Value}(n:h.Ns L m)(n':h.Ns L m'){x:Str}:m x=m' x:=by
 obtain ⟨o,es,ep,e,d,_,f⟩:=n
 obtain ⟨o',es',ep',e',d',_,f'⟩:=n'
 rw [e] at e';cases e';rw [d] at d';cases d'
 exact (f x).symm.trans (f' x)
noncomputable def Cw (k:NameKind)(x:Str)(env:Env):List Addr:=match k with
 |.local=>[env.locals]
 |_=>(env.cells.lookup x).toList
theorem dN {k:NameKind}{x:Str}{env:Env}:∀a∈Cw k x env,a∈Mine.own env:=fun a ha=>by
 have hc:a∈(env.cells.lookup x).toList->a∈Mine.own env:=fun h=>mem_cons_of_mem _ (bG (Option.mem_toList.mp h))
 cases k<;>first |exact hc ha |exact mem_cons.mpr (.inl (ae ha))
theorem pK {i:Nat}{y:Str}{k:NameKind}{o:Option T}{u:Value}{Q:Unit->Shared->Prop}{E:Value->Shared->Prop}(X:At P B C n A env g ρ σ s)(hi:i∉C.U)(ht:B.tab[i]?=some (some (y,k)))(hk:k=.local\/k=.cell)(q:∀t,o=some t->bW P C g s.heap i t u)
  (hq:∀s',cf [] (Cw k y env) g s g s'->At P B C n A env g (ρ.set i o) σ s'->dI B env s'.heap i u->(∀j v,j≠i->dI B env s.heap j v->dI B env s'.heap j v)->Q () s'):wpAny P.M A (storeName env y u) Q E s:=by
 obtain ⟨h1,h2,_,_,_⟩:=b7.look X.env.ok ht
 have hl:env.kindOf y=some k:=show env.scope.names.lookup y=_ from X.env.sc▸h2
 have tab:∀{j z kk},j≠i->B.tab[j]?=some (some (z,kk))->z≠y:=fun n hj e=>n (b7.inj X.env.ok (e▸hj) ht)
 rcases hk with rfl |rfl
 .obtain ⟨m,hn⟩:=X.env.ns
  refine wpAny_storeName_local hl hn (fun h' hn' hs=>?_) (by rw [X.fn];rfl)
  obtain ⟨T,w⟩:=Cv X.env X.g (W:=env.locals) mem_cons_self hs.2 (let ⟨o,_,_,e,_⟩:=hn';ay e)
  have hot:∀j v,j≠i->dI B env s.heap j v->dI B env h' j v:=fun j v nj hv=>by
   cases hv with
   |loc z m' tz nz ez=>exact .loc z _ tz hn' (by rw [if_neg (tab nj tz),vF hn nz];exact ez)
   |cel z kk c tz hk' l nz=>
    obtain ⟨o,e,d⟩:=id nz
    exact .cel z kk c tz hk' l ⟨o,(hs.2 c (yu hn nz)).trans e,d⟩
  refine hq _ ((T.p _).weak (fun _ h=>h) fun a ha=>ha) ⟨X.good,X.call,X.room,X.env.put hi mem_cons_self T hs.2 (.loc y _ ht hn' (if_pos rfl)) ⟨_,hn'⟩ (fun c v hc=>?_) hot q,w⟩ (.loc y _ ht hn' (if_pos rfl)) hot
  obtain ⟨o,e,d⟩:=id hc
  exact ⟨v,o,(hs.2 c (yu hn hc)).trans e,d⟩
 .obtain ⟨c,u0,c1,c4⟩:=X.env.cell i y _ ht (.inl rfl)
  refine wpAny_storeName_cell X.fn hl c1 c4 fun h' hv' hs=>?_
  have hc:c∈own env:=mem_cons_of_mem _ (bG c1)
  obtain ⟨T,w⟩:=Cv X.env X.g hc hs.2 (let ⟨o,e,_⟩:=hv';ay e)
  have nl:∀{m},s.heap.Ns env.locals m->h'.Ns env.locals m:=fun hn=>hn.at fun o e=>(hs.2 _ fun q=>yu hn c4 q.symm).trans e
  have hot:∀j v,j≠i->dI B env s.heap j v->dI B env h' j v:=fun j v nj hv=>by
   cases hv with
   |loc z m' tz nz ez=>exact .loc z m' tz (nl nz) ez
   |cel z kk d tz hk' l nz=>exact .cel z kk d tz hk' l (let ⟨o,e1,e2⟩:=nz;⟨o,(hs.2 d fun e=>tab nj tz (X.env.apart z y d l (e▸c1))).trans e1,e2⟩)
  refine hq _ ((T.p s.toks).weak (fun _ h=>h) fun a ha=>by rw [ae ha];exact Option.mem_toList.mpr c1) ⟨X.good,X.call,X.room,X.env.put hi hc T hs.2 (.cel y _ c ht (.inl rfl) c1 hv') (let ⟨m,hn⟩:=X.env.ns;⟨m,nl hn⟩) (fun d v hd=>?_) hot q,w⟩ (.cel y _ c ht (.inl rfl) c1 hv') hot
  by_cases e:d=c
  .exact ⟨_,e▸hv'⟩
  .exact let ⟨o,e1,e2⟩:=hd;⟨v,o,(hs.2 d e).trans e1,e2⟩
theorem jV {i:Nat}{y:Str}{k:NameKind}{t:T}{u:Value}{Q:Unit->Shared->Prop}{E:Value->Shared->Prop}(X:At P B C n A env g ρ σ s)(hi:i∉C.U)(ht:B.tab[i]?=some (some (y,k)))(hk:k=.local\/k=.cell)(q:bW P C g s.heap i t u)
  (hq:∀s',cf [] (Cw k y env) g s g s'->At P B C n A env g (ρ.set i (some t)) σ s'->(∀j v,j≠i->dI B env s.heap j v->dI B env s'.heap j v)->Q () s'):wpAny P.M A (storeName env y u) Q E s:=
 pK (o:=some t) X hi ht hk (fun _ e=>Option.some.inj e▸q) fun s' p X' _ hot=>hq s' p X' hot
end
noncomputable def xA (e:Expr)(x:Str)(p:Pos)(l:Nat)(sc:Scope):Bool:=match e with
 |.ListComp _ _ s _ |.SetComp _ _ s _ |.DictComp _ _ _ s _=>(if sc.kind.isAnnotationScope then ScopeKind.function else sc.kind)==.function&&sc.names.lookup x==some .local&&p.line==e.pos.line
   &&!(s.names.any fun (n,k)=>n==x&&(k==.local||k==.cell))
 |_=>false
theorem lc {e:Expr}{x:Str}{p:Pos}{l:Nat}{env:Env}{sc:Scope}(h:env.scope=sc):swapsWith e (some (.Name x p)) l env=pure (xA e x p l sc):=by
 subst h
 cases e<;>first |rfl
section
variable {P:Pg} {B:b7} {C C' C'':Ct} {fr:Bool} {n:Nat} {A:Around} {env:Env} {g g' g1 g2:Gh} {ρ:aW} {σ:Sg} {s s' s₁ s2:Shared} {h h':Heap}
theorem oW.nu {i:Nat}(hc:oW C i C'):i∉C'.U:=fun q=>(hc.un i q).1 rfl
theorem set_set (ρ:aW)(i:Nat)(a b:Option T):(ρ.set i a).set i b=ρ.set i b:=List.set_set ..
theorem i4 {i:Nat}{y:Str}{k:NameKind}{t:T}{u:Value}{Q:Unit->Shared->Prop}{E:Value->Shared->Prop}(X:At P B C n A env g ρ σ s)(hc:cQ C i false C'=true)(ht:B.tab[i]?=some (some (y,k)))(hk:k=.local\/k=.cell)(r:Rp P g s.heap t u)
  (hq:∀s',cf [] (Cw k y env) g s g s'->At P B C' n A env g (ρ.set i (some t)) σ s'->Q () s'):wpAny P.M A (storeName env y u) Q E s:=by
 obtain ⟨hs,ho⟩:=fg hc
 have X2:At P B C' n A env g (ρ.set i none) σ s:=⟨X.good,X.call,X.room,X.env.forget hs (.refl g i) fun a ha=>(X.env.own a ha).2.2.2,X.g⟩
 refine jV X2 hs.nu ht hk (by unfold bW;rw [ho];exact .inl r) fun s' p X' _=>hq s' p ?_
 rw [set_set] at X';exact X'
theorem aX.set {i:Nat}{y:Str}{k:NameKind}{e:Expr}{p:PE}{ps pos:Pos}(hc:cQ C i false C'=true)(ht:B.tab[i]?=some (some (y,k)))(hk:k=.local\/k=.cell)(hw:xA e y ps pos.line B.sc=false)(h:av P B C e p (RV P)):
  aX P B C fr C' (.Assign [.Name y ps] e pos) (aG i p):=fun n A env g ρ σ s k Q E X hb hq hr=>
 wpAny_Assign_Name (h n A env g ρ σ s (fun v σ=>k (ρ.set i (some v)) σ) _ E X hb fun x s₁ g1 t σ₁ e p w r=>i4 (X.post p w) hc ht hk r fun s' p' X'=>hq s' g1 _ σ₁ e (p.toS.trans (p'.toS.weak dN)) X') (by rw [lc X.env.sc,hw])
noncomputable def Gh.put (g:Gh)(i:Nat)(a:Option Addr):Gh:={g with o:=fun j=>bif Nat.beq j i then a else g.o j}
theorem iz (g:Gh)(i:Nat)(a:Option Addr):(g.put i a).o i=a:=by show (bif Nat.beq i i then a else _)=_;rw [beq_refl];rfl
theorem nJ (g:Gh){i j:Nat}(a:Option Addr)(h:j≠i):(g.put i a).o j=g.o j:=by show (bif Nat.beq j i then a else _)=_;rw [zY h];rfl
theorem jx (g:Gh)(i:Nat)(a:Option Addr):Gx g (g.put i a) i:=⟨rfl,rfl,rfl,rfl,fun j h=>nJ g a h⟩
theorem j4 {i:Nat}{a:Option Addr}{b:Addr}(h:(g.put i a).O b):a=some b\/∃j,j≠i/\g.o j=some b:=by
 obtain ⟨j,e⟩:=h
 by_cases q:j=i
 .subst q;rw [iz] at e;exact .inl e
 .rw [nJ g a q] at e;exact .inr ⟨j,q,e⟩
theorem bN.put {i:Nat}{a:Option Addr}(w:bN P g h σ)(ha:∀b,a=some b->h.get? b≠none/\¬g.F b/\¬g.Z b/\¬g.O b):bN P (g.put i a) h σ:=
 ⟨w.base,w.F,w.Z,fun b q=>(j4 q).elim (fun e=>let ⟨h1,h2,h3,_⟩:=ha b e;⟨h1,h2,h3⟩) fun ⟨j,_,e⟩=>w.O b ⟨j,e⟩,fun j k b h1 h2=>by
  by_cases q:j=i
  .by_cases q':k=i
   .rw [q,q']
   .subst q;rw [iz] at h1;rw [nJ g a q'] at h2;exact ((ha b h1).2.2.2 ⟨k,h2⟩).elim
  .rw [nJ g a q] at h1
   by_cases q':k=i
   .subst q';rw [iz] at h2;exact ((ha b h2).2.2.2 ⟨j,h1⟩).elim
   .rw [nJ g a q'] at h2;exact w.oo j k b h1 h2,w.spot,fun c ts e=>(w.self c ts e).mono ((jx g i a).k h) (fun _ z=>⟨z,fun _ e=>e⟩) rfl⟩
theorem aX.setN {i:Nat}{y:Str}{k:NameKind}{e:Expr}{p:PE}{ps pos:Pos}(hc:cQ C i true C'=true)(ht:B.tab[i]?=some (some (y,k)))(hk:k=.local\/k=.cell)(hw:xA e y ps pos.line B.sc=false)(h:av P B C e p (RN P)):
  aX P B C fr C' (.Assign [.Name y ps] e pos) (aG i p):=fun n A env g ρ σ s k Q E X hb hq hr=>by
 refine wpAny_Assign_Name (h n A env g ρ σ s (fun v σ=>k (ρ.set i (some v)) σ) _ E X hb fun x s₁ g1 t σ₁ e p w r=>?_) (by rw [lc X.env.sc,hw])
 obtain ⟨hs,ho⟩:=fg hc
 obtain ⟨a,rfl,nw,f,z,o,r⟩:=r
 have X1:=X.post p w
 have ow:∀b∈own env,¬(g1.put i (some a)).O b:=fun b hb q=>(j4 q).elim (fun q=>(X.env.own b hb).1 (Option.some.inj q▸nw)) fun ⟨j,_,q⟩=>(X1.env.own b hb).2.2.2 ⟨j,q⟩
 have pa:be [] (own env) g s (g1.put i (some a)) s₁:={(p.toS:be [] (own env) g s g1 s₁) with On:=fun b q=>(j4 q).elim (fun q=>.inr (Option.some.inj q▸nw)) fun ⟨j,_,q⟩=>.inl ⟨j,p.o▸q⟩}
 have X2:At P B C' n A env (g1.put i (some a)) (ρ.set i none) σ₁ s₁:=⟨X.good,X.call,X.room,X1.env.forget hs (jx g1 i _) ow,w.put fun b q=>Option.some.inj q▸⟨r.live,f,z,o⟩⟩
 refine wpAny_mono (jV (E:=E) X2 hs.nu ht hk (by unfold bW;rw [ho];exact ⟨a,rfl,iz ..,r.mono ((jx g1 i _).k _) fun _ e=>e⟩) fun s' p' X' _=>hq s' _ _ σ₁ e (pa.trans (p'.toS.weak dN)) ?_) (fun _ _ h=>h) fun _ _ h=>h
 rw [set_set] at X';exact X'
theorem cI.add {i:Nat}{t:T}{u:Value}(x:cI P B C env g ρ h)(hi:i∉C.U)(hv:dI B env h i u)(q:bW P C g h i t u):cI P B C env g (ρ.set i (some t)) h:=
 {x with
  var:=fun j z v hj hv'=>(i8 hv').elim (fun ⟨e,e'⟩=>by cases e';subst e;exact ⟨u,hv,q⟩) fun ⟨n,e⟩=>x.var j z v hj e
  un:=fun j hj=>dT (fun q:j=i=>hi (q▸hj)) (x.un j hj)}
theorem xW {i:Nat}{t:T}:∀{ρ:aW},bV ρ i=some t->ρ.set i (some t)=ρ:=by
 induction i with
 |zero=>intro ρ h;cases ρ with
  |nil=>cases h
  |cons x r=>rw [show x=_ from h];rfl
 |succ i ih=>intro ρ h;cases ρ with
  |nil=>cases h
  |cons x r=>exact congrArg (x::·) (ih (ρ:=r) h)
theorem jn {i:Nat}:∀{ρ:aW},bV ρ i=none->ρ.set i none=ρ:=by
 induction i with
 |zero=>intro ρ h;cases ρ with
  |nil=>rfl
  |cons x r=>rw [show x=_ from h];rfl
 |succ i ih=>intro ρ h;cases ρ with
  |nil=>rfl
  |cons x r=>exact congrArg (x::·) (ih (ρ:=r) h)
theorem FP {i:Nat}{y:Str×NameKind}(X:At P B C n A env g ρ σ s)(hv:bL C i=true)(hc:cQ C i false C'=true)(ht:B.tab[i]?=some (some y)):∃g',be [] (own env) g s g' s/\At P B C' n A env g' ρ σ s:=by
 obtain ⟨hs,ho⟩:=fg hc
 have w1:bN P (g.put i none) s.heap σ:=X.g.put fun _ q=>nomatch q
 have no:∀b∈own env,¬(g.put i none).O b:=fun b hb q=>(j4 q).elim (fun q=>nomatch q) fun ⟨j,_,q⟩=>(X.env.own b hb).2.2.2 ⟨j,q⟩
 have x1:=X.env.forget hs (jx g i none) no
 have on:∀b,(g.put i none).O b->g.O b:=fun b q=>(j4 q).elim (fun q=>nomatch q) fun ⟨j,_,q⟩=>⟨j,q⟩
 have p0:=(aQ.refl g s).toS (W:=own env)
 cases e:bV ρ i with
 |none=>
  rw [jn e] at x1
  exact ⟨g.put i none,{p0 with On:=fun b q=>.inl (on b q)},X.good,X.call,X.room,x1,w1⟩
 |some t=>
  obtain ⟨u,v,q⟩:=X.env.var i y t ht e
  unfold bW at q
  rw [hv] at q
  obtain ⟨a,rfl,o,r⟩:=q
  have hO:=X.g.O a ⟨i,o⟩
  have na:¬(g.put i none).O a:=fun q=>(j4 q).elim (fun q=>nomatch q) fun ⟨j,n,q⟩=>n (X.g.oo j i a q o)
  have w2:=w1.freeze (a:=a) hO.1 hO.2.2 na
  have kf:aZ (g.put i none) s.heap {g.put i none with F:=fun y=>g.F y\/y=a} s.heap:=⟨fun b f=>⟨.inl f,fun _ e=>e⟩,rfl⟩
  have x2:=x1.move (g':={g.put i none with F:=fun y=>g.F y\/y=a}) kf rfl rfl (fun _ _ _ e=>e) fun b hb=>⟨(X.env.own b hb).1,fun f=>f.elim (X.env.own b hb).2.1 fun e=>(X.env.own b hb).2.2.2 (e▸⟨i,o⟩),(X.env.own b hb).2.2.1⟩
  have x3:=x2.add hs.nu v (t:=t) (by unfold bW;rw [ho];exact .inl ((r.mono (((jx g i none).k _)) fun _ e=>e).mono kf (fun _ e=>e) |>.rp (.inr rfl)))
  rw [set_set,xW e] at x3
  exact ⟨{g.put i none with F:=fun y=>g.F y\/y=a},{p0 with F:=fun b f=>.inl f,Fn:=fun b f=>f.elim .inl fun q=>.inr (.inl (q▸⟨i,o⟩)),On:=fun b q=>.inl (on b q)},X.good,X.call,X.room,x3,w2⟩
theorem ew.fz {i:Nat}{y:Str×NameKind}{W:WP Flow}{p:PS}(hv:bL C i=true)(hc:cQ C i false C'=true)(ht:B.tab[i]?=some (some y))(h:ew P B C' fr C'' W p):ew P B C fr C'' W p:=fun n A env g ρ σ s k Q E X hb hq hr=>by
 obtain ⟨g',pz,X'⟩:=FP X hv hc ht
 exact h n A env g' ρ σ s k Q E X' hb (fun s' g' ρ' σ' e p X=>hq s' g' ρ' σ' e (pz.trans p) X) fun x s' g' t σ' e p w r=>hr x s' g' t σ' e (pz.trans p) w (r.after pz)
theorem aX.while {test:Expr}{body:List Stmt}{t:PT}{pb:PS}{pos:Pos}(m:Nat)(ht:cW P B C test t)(hb:iX P B C fr C body pb):aX P B C fr C (.While test body [] pos) (eR m t pb):=fun n A env g ρ σ s k Q E X hbad hq hr=>by
 refine wpAny_While ?_
 refine codeAny_whileLoop (fun m' s₁=>∃g1 ρ₁ σ₁,At P B C n A env g1 ρ₁ σ₁ s₁/\be [] (own env) g s g1 s₁/\eR m t pb (P.cx n) ρ σ k=f8 t pb (P.cx n) m' ρ₁ σ₁ k) ?_ m ⟨g,ρ,σ,X,(aQ.refl g s).toS,rfl⟩
 rintro m' s₁ ⟨g1,ρ₁,σ₁,X1,p1,e1⟩
 cases m' with
 |zero=>exact absurd (e1.trans mZ) hbad
 |succ m'=>
  rw [il] at e1
  refine ht n A env g1 ρ₁ σ₁ s₁ _ _ _ X1 (fun q=>hbad (e1.trans q)) fun b s2 g2 b' σ₂ e2 p2 wa r2=>?_
  cases r2
  have X2:=X1.post p2 wa
  have p₁₂:=p1.trans p2.toS
  cases b with
  |true=>
   refine hb n A env g2 ρ₁ σ₂ s2 _ _ _ X2 (fun q=>hbad (e1.trans (e2.trans q))) (fun s3 g3 ρ₃ σ₃ e3 p3 X3=>?_) fun x s3 g3 t σ₃ e3 p3 w3 r3=>?_
   .exact ⟨m',lt_succ_self m',g3,ρ₃,σ₃,X3,p₁₂.trans p3,e1.trans (e2.trans e3)⟩
   .exact hr x s3 g3 t σ₃ (e1.trans (e2.trans e3)) (p₁₂.trans p3) w3 (r3.after p₁₂)
  |false=>exact wpAny_execs_nil (hq s2 g2 ρ₁ σ₂ (e1.trans e2) p₁₂ X2)
end
noncomputable def mr (g:Gh)(env:Env)(vol:List Addr):Prop:=∀a∈vol,¬g.F a/\¬g.Z a/\¬g.O a/\a∉own env
structure oY (P:Pg) (A:Around) (I:Addr) (ts:List T) (vol fx:List Addr) (St:Nat->Gh->Heap->Prop):Prop where
 self:∀i g s (Q:Value->Shared->Prop) (E:Value->Shared->Prop),St i g s.heap->Q (.ref I) s->wpAny P.M A (pyIter (.ref I)) Q E s
 stay:∀i g h g' h',St i g h->aZ g h g' h'->(∀a∈vol++fx,∀o,h.get? a=some o->h'.get? a=some o)->St i g' h'
 here:∀i g h,St i g h->∀a∈vol++fx,h.get? a≠none
 item:∀i t g s (Q:Option Value->Shared->Prop) (E:Value->Shared->Prop),ts[i]?=some t->St i g s.heap->(∀a∈vol,¬g.F a)->
  (∀u h' tk,(∀a o,s.heap.get? a=some o->a∉vol->h'.get? a=some o)->Rp P g h' t u->St (i+1) g h'->Q (some u) {s with heap:=h',toks:=tk})->wpAny P.M A (pyNext (.ref I)) Q E s
 done:∀g s (Q:Option Value->Shared->Prop) (E:Value->Shared->Prop),St ts.length g s.heap->(∀h' tk,(∀a o,s.heap.get? a=some o->a∉vol->h'.get? a=some o)->Q none {s with heap:=h',toks:=tk})->wpAny P.M A (pyNext (.ref I)) Q E s
structure l7 (P:Pg) (A:Around) (B:b7) (C C':Ct) (target:Expr) (zb:PB) (tw:Env->List Addr) (I:Addr) (ts:List T) (vol fx:List Addr) (St:Nat->Gh->Heap->Prop):Prop where
 sub:∀env,∀a∈tw env,a∈own env
 self:∀i g s (Q:Value->Shared->Prop) (E:Value->Shared->Prop),St i g s.heap->Q (.ref I) s->wpAny P.M A (pyIter (.ref I)) Q E s
 stay:∀i g h g' h',St i g h->aZ g h g' h'->(∀a∈vol++fx,∀o,h.get? a=some o->h'.get? a=some o)->St i g' h'
 here:∀i g h,St i g h->∀a∈vol++fx,h.get? a≠none
 item:∀i t n env g ρ ρ' σ s (Q:Shared->Prop) (E:Value->Shared->Prop),ts[i]?=some t->At P B C n A env g ρ σ s->mr g env (vol++fx)->St i g s.heap->zb t ρ=some ρ'->
  (∀s',cf [] (vol++tw env) g s g s'->At P B C' n A env g ρ' σ s'->St (i+1) g s'.heap->Q s')->
  wpAny P.M A (pyNext (.ref I)) (fun r s₁=>match r with
   |none=>False
   |some u=>wpAny P.M A (letOwnedTupleGo target (.ref I) u) (fun _ s2=>wpAny P.M A (assign target env u) (fun _ s3=>Q s3) E s2) E s₁) E s
 done:∀n env g ρ σ s (Q:Shared->Prop) (E:Value->Shared->Prop),At P B C n A env g ρ σ s->mr g env (vol++fx)->St ts.length g s.heap->(∀s',cf vol vol g s g s'->At P B C n A env g ρ σ s'->Q s')->
  wpAny P.M A (pyNext (.ref I)) (fun r s₁=>match r with |none=>Q s₁ |some _=>False) E s
section
variable {P:Pg} {B:b7} {C C' C'':Ct} {fr:Bool} {n:Nat} {A:Around} {env:Env} {g g' g1 g2:Gh} {ρ:aW} {σ:Sg} {s s' s₁ s2:Shared} {h h':Heap}
theorem mr.post {vol:List Addr}(v:mr g env vol)(l:∀a∈vol,s.heap.get? a≠none)(p:be [] (own env) g s g' s'):mr g' env vol/\∀a∈vol,∀o,s.heap.get? a=some o->s'.heap.get? a=some o:=
 ⟨fun a ha=>let ⟨f,z,o,w⟩:=v a ha;⟨fun q=>(p.Fn a q).elim f fun q=>q.elim o (l a ha),fun q=>(p.Zn a q).elim z (l a ha),fun q=>(p.On a q).elim o (l a ha),w⟩,fun a ha o e=>let ⟨_,z,q,w⟩:=v a ha;p.keep a o e z q w⟩
theorem be.k {V W:List Addr}(p:be V W g s g' s')(w:bN P g s.heap σ)(hW:∀a∈W,¬g.F a):aZ g s.heap g' s'.heap:=⟨fun a f=>⟨p.F a f,fun o e=>p.keep a o e (fun z=>(w.Z a z).2 f) (fun q=>(w.O a q).2.1 f) fun q=>hW a q f⟩,p.sp⟩
theorem zp {target:Expr}{body:List Stmt}{zb:PB}{tw:Env->List Addr}{pb:PS}{I:Addr}{ts:List T}{vol fx:List Addr}{St:Nat->Gh->Heap->Prop}{k:PK aW}{R:Result->Shared->Prop}(T:l7 P A B C C' target zb tw I ts vol fx St)(hbody:iX P B C' fr C body pb):
  ∀(rest:List Mine.T) (i:Nat) (g:Gh) (ρ:aW) (σ:Sg) (s:Shared),i<=ts.length->ts.drop i=rest->At P B C n A env g ρ σ s->mr g env (vol++fx)->St i g s.heap->cD zb pb (P.cx n) rest ρ σ k≠.bad->
   (∀s' g' ρ' σ',cD zb pb (P.cx n) rest ρ σ k=k ρ' σ'->be vol (vol++own env) g s g' s'->At P B C n A env g' ρ' σ' s'->R (.ok .next) s')->
   (∀x s' g' t σ',cD zb pb (P.cx n) rest ρ σ k=.ret t σ'->be [] (vol++own env) g s g' s'->bN P g' s'.heap σ'->tX P fr g s.heap g' s'.heap t x->R (.ok (.ret x)) s')->
   codeAny P.M A (.forLoop target (.ref I) body [] env) R s:=by
 intro rest
 induction rest with
 |nil=>
  intro i g ρ σ s hle hd X hv st hb hq hr
  obtain rfl:i=ts.length:=le_antisymm hle (List.drop_eq_nil_iff.mp hd)
  refine codeAny_of_tree ?_
  show wpAny P.M A ((forTurn target (.ref I) body [] env).onRaise (fun x=>do noteFrame x env;theTreesLotGoes x)) _ _ s
  refine wpAny_noted ?_
  simp only [forTurn]
  refine wpAny_bind (wpAny_standAt (wpAny_bind (wpAny_onRaise (wpAny_mono (T.done n env g ρ σ s (fun s'=>R (.ok .next) s') (notedBy P.M A env fun e s'=>R (.error e) s') X hv st fun s' p X'=>hq s' g ρ σ rfl (p.weak (fun _ h=>h) fun a=>mem_append_left _).toS X') (fun r s₁ h1=>?_) fun _ _ h'=>wpAny_standAt h'))))
  cases r with
  |none=>exact wpAny_pure ⟨rfl,codeAny_block (wpAny_execs_nil h1)⟩
  |some u=>exact h1.elim
 |cons v rest ih=>
  intro i g ρ σ s hle hd X hv st hb hq hr
  have hiv:ts[i]?=some v:=by rw [<-head?_drop,hd];rfl
  have hi:i < ts.length:=(ak hiv).1
  have hd':ts.drop (i+1)=rest:=by rw [<-List.tail_drop,hd];rfl
  cases hρ:zb v ρ with
  |none=>rw [q8,hρ] at hb;exact absurd rfl hb
  |some ρ'=>
   have e1:cD zb pb (P.cx n) (v::rest) ρ σ k=pb (P.cx n) ρ' σ fun ρ σ=>cD zb pb (P.cx n) rest ρ σ k:=by rw [q8,hρ]
   rw [e1] at hb hq hr
   refine codeAny_of_tree ?_
   show wpAny P.M A ((forTurn target (.ref I) body [] env).onRaise (fun x=>do noteFrame x env;theTreesLotGoes x)) _ _ s
   refine wpAny_noted ?_
   simp only [forTurn]
   refine wpAny_bind (wpAny_standAt (wpAny_bind (wpAny_onRaise (wpAny_mono (T.item i v n env g ρ ρ' σ s (fun s3=>wpAny P.M A (execs body env) (fun f s4=>match f with
     |.next |.cont=>codeAny P.M A (.forLoop target (.ref I) body [] env) R s4
     |.brk=>R (.ok .next) s4
     |.ret v=>R (.ok (.ret v)) s4) (notedBy P.M A env fun e s'=>R (.error e) s') s3) (notedBy P.M A env fun e s'=>R (.error e) s') hiv X hv st hρ fun s3 p3 X3 st3=>?_) (fun r s₁ h1=>?_) fun _ _ h'=>wpAny_standAt h'))))
   .have lv3:=T.here _ _ _ st3
    replace p3:=(p3.weak (fun _ h=>h) fun a h=>(ah h).elim (mem_append_left _) fun h=>mem_append_right vol (T.sub env a h)).toS
    refine hbody n A env g ρ' σ s3 _ _ _ X3 hb (fun s4 g4 ρ₄ σ₄ e4 p4 X4=>?_) fun x s4 g4 t σ₄ e4 p4 w4 r4=>?_
    .rw [e4] at hb hq hr
     have p₃₄:=p3.trans (p4.weak fun a=>mem_append_right vol)
     obtain ⟨hv4,kp⟩:=hv.post lv3 p4
     exact ih (i+1) g4 ρ₄ σ₄ s4 hi hd' X4 hv4 (T.stay _ _ _ _ _ st3 (p4.k X3.g fun a ha=>(X3.env.own a ha).2.1) kp) hb (fun s' g' ρ' σ' e p X=>hq s' g' ρ' σ' e (p₃₄.trans p) X) fun x s' g' t σ' e p w r=>hr x s' g' t σ' e (p₃₄.trans p) w (r.after p₃₄)
    .exact hr x s4 g4 t σ₄ e4 (p3.trans (p4.weak fun a=>mem_append_right vol)) w4 (r4.after p3)
   .cases r with
    |none=>exact h1.elim
    |some u=>
     refine wpAny_bind (wpAny_mono h1 (fun _ s2 h2=>wpAny_bind (wpAny_mono h2 (fun _ s3 h3=>wpAny_bind (wpAny_mono h3 (fun f s4 h4=>?_) fun _ _ h'=>h')) fun _ _ h'=>h')) fun _ _ h'=>h')
     cases f with
     |next=>exact wpAny_pure ⟨rfl,h4⟩
     |cont=>exact wpAny_pure ⟨rfl,h4⟩
     |brk=>exact wpAny_pure h4
     |ret v=>exact wpAny_pure h4
noncomputable def C7 (P:Pg)(B:b7)(C:Ct)(n:Nat)(A:Around)(env:Env)(g:Gh)(ρ:aW)(σ:Sg)(s:Shared)(iter:Expr)(mk:Around->Addr->List T->List Addr->List Addr->(Nat->Gh->Heap->Prop)->Prop)(p:PL):Prop:=
 ∀(k:PK (List T)) (Q:Value->Shared->Prop) (E:Value->Shared->Prop),At P B C n A env g ρ σ s->p (P.cx n) ρ σ k≠.bad->
  (∀s' g' ts σ' I vol fx St,p (P.cx n) ρ σ k=k ts σ'->aQ g s g' s'->bN P g' s'.heap σ'->mk A I ts vol fx St->St 0 g' s'.heap->(∀a∈vol,s.heap.get? a=none/\¬g'.F a/\¬g'.Z a)->mr g' env fx->ts.length<=lim->Q (.ref I) s')->
  wpAny P.M A (eval iter env) (fun x s₁=>wpAny P.M A (pyIter x) Q E s₁) E s
noncomputable def gu (P:Pg)(B:b7)(C:Ct)(iter:Expr)(mk:Around->Addr->List T->List Addr->List Addr->(Nat->Gh->Heap->Prop)->Prop)(p:PL):Prop:=
 ∀n A env g ρ σ s,C7 P B C n A env g ρ σ s iter mk p
theorem aX.for {iter target:Expr}{zb:PB}{tw:Env->List Addr}{pi:PL}{body:List Stmt}{pb:PS}{pos:Pos}(hs:∀env x,foldedSetIterable iter env x=pure x)(hi:gu P B C iter (fun A I ts vol fx St=>l7 P A B C C' target zb tw I ts vol fx St) pi)(hb:iX P B C' fr C body pb):
  aX P B C fr C (.For target iter body [] pos) (cU pi zb pb):=fun n A env g ρ σ s k Q E X hbad hq hr=>by
 refine wpAny_For (hi n A env g ρ σ s (fun xs σ=>cD zb pb _ xs ρ σ k) _ _ X hbad fun s₁ g1 ts σ₁ I vol fx St e p w T st hv hx hl=>?_) (hs env)
 have X1:=X.post p w
 have dr:∀{V s' g'},(∀a∈V,a∈vol)->be V (vol++own env) g1 s₁ g' s'->be [] (own env) g s g' s':=fun {V s' g'} hV q=>
  have qb:∀a,s'.heap.get? a=none->s.heap.get? a=none:=fun a e=>by
   by_cases x:a∈vol
   .exact (hv a x).1
   .exact p.back a (q.back a (fun y=>x (hV a y)) e)
  ⟨Mine.St.trans p.st q.st,fun a o e z o' w=>q.keep a o (p.keep a o e z) (fun x=>(p.Zn a x).elim z (ay e)) (fun ⟨i,x⟩=>o' ⟨i,p.o▸x⟩) fun x=>(ah x).elim (fun x=>ay e (hv a x).1) w,fun a _ e=>qb a e,fun a f=>q.F a (p.F a f),
   fun a f=>(q.Fn a f).elim (fun f=>(p.Fn a f).imp_right .inr) fun x=>.inr (x.imp (fun ⟨i,x⟩=>⟨i,p.o▸x⟩) (p.back a)),fun a f=>(q.Zn a f).elim (p.Zn a) fun x=>.inr (p.back a x),fun a f=>(q.On a f).imp (fun ⟨i,x⟩=>⟨i,p.o▸x⟩) (p.back a),q.sp.trans p.sp,q.sa.trans p.sa⟩
 exact zp T hb ts 0 g1 ρ σ₁ s₁ (zero_le _) rfl X1 (fun a ha=>(ah ha).elim (fun ha=>⟨(hv a ha).2.1,(hv a ha).2.2,fun ⟨i,q⟩=>(X.g.O a ⟨i,p.o▸q⟩).1 (hv a ha).1,fun q=>(X.env.own a q).1 (hv a ha).1⟩) (hx a)) st (fun q=>hbad (e.trans q))
  (fun s' g' ρ' σ' e' p' X'=>hq s' g' ρ' σ' (e.trans e') (dr (fun _ q=>q) p') X') fun x s' g' t σ' e' p' w' r'=>hr x s' g' t σ' (e.trans e') (dr (V:=[]) (fun _ (q:_∈[])=>nomatch q) p') w' (r'.after (p.toS (W:=[])))
theorem eE {vol:List Addr}(X:At P B C n A env g ρ σ s)(hv:mr g env vol)(k:∀a o,s.heap.get? a=some o->a∉vol->h'.get? a=some o)(tk:Nat):cf vol vol g s g {s with heap:=h',toks:=tk}/\At P B C n A env g ρ σ {s with heap:=h',toks:=tk}:=by
 have kk:∀a,g.F a\/g.Z a\/g.O a\/a∈own env->∀o,s.heap.get? a=some o->h'.get? a=some o:=fun a q o e=>k a o e fun x=>let ⟨f,z,o,w⟩:=hv a x;q.elim f fun q=>q.elim z fun q=>q.elim o w
 have kf:aZ g s.heap g h':=⟨fun a f=>⟨f,kk a (.inl f)⟩,rfl⟩
 have lo:∀a,g.F a\/g.Z a\/g.O a\/a∈own env->s.heap.get? a≠none->h'.get? a≠none:=fun a q l=>by
  cases e:s.heap.get? a with
  |none=>exact (l e).elim
  |some o=>exact ay (kk a q o e)
 refine ⟨⟨⟨h',tk,rfl⟩,fun a o e _ n=>k a o e n,fun a v e=>?_,fun _ f=>f,fun _ f=>.inl f,fun _ f=>.inl f,rfl,rfl,rfl⟩,X.good,X.call,X.room,
  X.env.move kf rfl rfl (fun a q=>kk a (.inr (.inr q))) fun a ha=>⟨lo a (.inr (.inr (.inr ha))) (X.env.own a ha).1,(X.env.own a ha).2.1,(X.env.own a ha).2.2.1⟩,
  fun a o e=>⟨(X.g.base a o e).1,kk a (.inl (X.g.base a o e).1) o (X.g.base a o e).2⟩,fun a f=>lo a (.inl f) (X.g.F a f),fun a z=>⟨lo a (.inr (.inl z)) (X.g.Z a z).1,(X.g.Z a z).2⟩,fun a z=>⟨lo a (.inr (.inr (.inl z))) (X.g.O a z).1,(X.g.O a z).2⟩,X.g.oo,
  ⟨let ⟨t,n,e⟩:=X.g.spot.1;⟨t,n,kk _ (.inr (.inl X.g.spot.2.1)) _ e⟩,X.g.spot.2⟩,fun c ts e=>(X.g.self c ts e).mono kf (fun a z=>⟨z,kk a (.inr (.inl z))⟩) rfl⟩
 cases q:s.heap.get? a with
 |none=>rfl
 |some o=>exact (ay (k a o q v) e).elim
theorem fB {vol W:List Addr}(p:cf vol W g s g' s')(lv:∀a∈vol,s'.heap.get? a≠none):cf [] W g s g' s':={p with back:=fun a _ e=>p.back a (fun q=>lv a q e) e}
theorem oY.one {I:Addr}{ts:List T}{vol fx:List Addr}{St:Nat->Gh->Heap->Prop}(T:oY P A I ts vol fx St){i:Nat}{y:Str}{k:NameKind}{p:Pos}(hc:cQ C i false C'=true)(ht:B.tab[i]?=some (some (y,k)))(hk:k=.local\/k=.cell):l7 P A B C C' (.Name y p) (bj i) (Cw k y) I ts vol fx St where
 sub env:=dN
 self:=T.self
 stay:=T.stay
 here:=T.here
 item j t n env g ρ ρ' σ s Q E hj X hv st hρ hq:=by
  cases hρ
  have hvv:mr g env vol:=fun a ha=>hv a (mem_append_left _ ha)
  refine T.item j t g s _ _ hj st (fun a ha=>(hvv a ha).1) fun u h' tk hkp r st'=>?_
  obtain ⟨pV,X1⟩:=eE X hvv hkp tk
  have pV:=fB pV fun a ha=>T.here _ _ _ st' a (mem_append_left _ ha)
  show wpAny P.M A (pure ()) _ _ _
  refine wpAny_pure (wpAny_assign_Name (i4 X1 hc ht hk r fun s' p' X'=>hq s' ((pV.weak (fun _ h=>h) fun a=>mem_append_left _).trans (p'.weak (fun _ h=>h) fun a=>mem_append_right vol)) X' ?_))
  have pS:=p'.toS.weak dN
  exact T.stay _ _ _ _ _ st' (pS.k X1.g fun a ha=>(X1.env.own a ha).2.1) (hv.post (s:={s with heap:=h',toks:=tk}) (T.here _ _ _ st') pS).2
 done n env g ρ σ s Q E X hv st hq:=T.done g s _ _ st fun h' tk hkp=>let ⟨pV,X1⟩:=eE X (fun a ha=>hv a (mem_append_left _ ha)) hkp tk;hq _ pV X1
end
section
variable {P:Pg} {B:b7} {C C' C'':Ct} {fr:Bool} {n:Nat} {A:Around} {env:Env} {g g' ga gb:Gh} {ρ:aW} {σ:Sg} {s s' s₁ s2:Shared} {h h':Heap}
theorem cc {pos:Pos}{l:List (Bool×Sem Value)}(h:∀q∈l,q.1=false):∀q∈backTo pos l,q.1=false:=fun q hq=>by
 obtain ⟨p,h1,rfl⟩:=aT (show q∈List.map _ l from hq)
 exact h p h1
theorem iP {M:Model}{E:Value->Shared->Prop}{f:Value}{trees:List (Bool×Sem Value)}{Q:PySem.Args->Shared->Prop}(hp:∀p∈trees,p.1=false)
  (h:wpAny M A (spliced trees) (fun vs s'=>Q ⟨vs,[]⟩ s') E s):wpAny M A (evalArgs f true trees []) Q E s:=by
 cases trees with
 |nil=>
  unfold evalArgs
  show wpAny M A (spliced [] >>=_) Q E s
  refine wpAny_bind (wpAny_mono h (fun vs s' h'=>?_) fun _ _ x=>x)
  exact wpAny_holding (wpAny_bind (wpAny_pure (wpAny_bind (wpAny_pure (wpAny_pure h')))))
 |cons t r=>
  obtain ⟨b,x⟩:=t
  obtain rfl:b=false:=hp (b,x) mem_cons_self
  exact Calls.evalArgs_plain h
theorem At.base (X:At P B C n A env g ρ σ s):∀a o,P.h₀.get? a=some o->s.heap.get? a=some o:=fun a o e=>(X.g.base a o e).2
theorem At.blt (X:At P B C n A env g ρ σ s){x:Str}{pos:Pos}{v:Value}{Q:Value->Shared->Prop}{E:Value->Shared->Prop}(hx:B.sc.names.lookup x=some .globalImplicit)(hd:(x==("__debug__":Str))=false)
  (hm:x∈jH)(hv:bootBuiltins x=some v)(h:Q v s):wpAny P.M A (eval (.Name x pos) env) Q E s:=
 have ⟨g1,g2⟩:=X.good.blt x hm
 Calls.Name_function_global X.fn (show env.scope.names.lookup x=_ from X.env.sc▸hx) (Calls.loadGlobal_builtin (mg:=P.mg) (mb:=P.mb) (X.env.glob▸X.good.g.keeps X.base) g1 (X.env.blt▸X.good.b.keeps X.base) (g2.trans hv) h) hd
theorem yn {o:cg}{k:PK T}(h:sH o k≠.bad):∃t σ,o=.ret t σ:=by
 cases o with
 |ret t σ=>exact ⟨t,σ,rfl⟩
 |_=>exact absurd (by with_unfolding_all rfl) h
theorem C8.after {fr:Bool}{t:T}{x:Value}{he:Heap}(b:∀a,he.get? a=none->h.get? a=none)(r:C8 P fr he g' h' t x):C8 P fr h g' h' t x:=by
 cases fr with
 |false=>exact r
 |true=>exact F2 _ _ _ _ _ _ b r
noncomputable abbrev RF (P:Pg)(f:Nat):RR Value T:=fun h g' h' t x=>C8 P (kW f) h g' h' t x
theorem tx {f:Nat}{ts:List T}{vs:List Value}{t:T}{σ':Sg}{Q:Value->Shared->Prop}{E:Value->Shared->Prop}(X:At P B C n A env g ρ σ s)(r:Args P (t9 f) g s.heap ts vs)(e:aj P.Ψ n f ts σ=.ret t σ')(hq:∀x s' g',aQ g s g' s'->bN P g' s'.heap σ'->C8 P (kW f) s.heap g' s'.heap t x->Q x s'):
  wpAny P.M A (PySem.call (.ref (P.fnA f)) vs) Q E s:=
 wpAny_call (codeAny_mono (X.call n (le_refl n) f A ts vs g σ s t σ' Q E X.room.c X.g r e hq) fun r s' q=>by
  match r,q with
  |.ok (.ret u),q=>exact q
  |.ok .next,q=>exact q.elim
  |.ok .brk,q=>exact q.elim
  |.ok .cont,q=>exact q.elim
  |.error u,q=>exact q)
theorem av.callF {y:Str}{f:Nat}{F:gK}{es:List Expr}{ps:PL}{p pos:Pos}(hf:P.Ψ f=some F)(hn:P.gl f=true/\(P.fd f).name=y)(hm:t9 f=false)(hx:B.sc.names.lookup y=some .globalImplicit)(hd:(y==("__debug__":Str))=false)(h:ig P B C es ps):
  av P B C (.Call (.Name y p) es [] pos) (aw f ps) (RF P f):=fun n A env g ρ σ s k Q E X hb hq=>by
 obtain ⟨o,g1,g2,g3,g4⟩:=X.good.fn f F hf
 refine Call_Name rfl (X.glob hx hd (hn.2▸g3 hn.1) ?_)
 refine Calls.callWith_function (fd:=P.fd f) (o:=o) (iP (cc (h.pl env)) (h.sim pos n A env g ρ σ s _ _ E X hb fun xs s₁ ga ts σ₁ e p w r=>?_))
 have X1:=X.post p w
 obtain ⟨t,σ₂,ea⟩:=yn fun q=>hb (e.trans q)
 exact ⟨⟨X1.base _ _ g1,g2⟩,tx X1 (by rw [hm];exact r) ea fun x s' g' p' w' r'=>hq x s' g' t σ₂ (e.trans (by rw [ea,vE])) (p.trans p') w' (r'.after p.back)⟩
theorem av.call {y:Str}{f:Nat}{F:gK}{es:List Expr}{ps:PL}{p pos:Pos}(hf:P.Ψ f=some F)(hn:P.gl f=true/\(P.fd f).name=y)(hm:t9 f=false)(hfr:kW f=false)(hx:B.sc.names.lookup y=some .globalImplicit)(hd:(y==("__debug__":Str))=false)(h:ig P B C es ps):
  av P B C (.Call (.Name y p) es [] pos) (aw f ps) (RV P):=(av.callF hf hn hm hx hd h).weak fun _ _ _ _ _ r=>by unfold RF C8 at r;rw [hfr] at r;exact r
theorem av.callN {y:Str}{f:Nat}{F:gK}{es:List Expr}{ps:PL}{p pos:Pos}(hf:P.Ψ f=some F)(hn:P.gl f=true/\(P.fd f).name=y)(hm:t9 f=false)(hfr:kW f=true)(hx:B.sc.names.lookup y=some .globalImplicit)(hd:(y==("__debug__":Str))=false)(h:ig P B C es ps):
  av P B C (.Call (.Name y p) es [] pos) (aw f ps) (RN P):=(av.callF hf hn hm hx hd h).weak fun _ _ _ _ _ r=>by unfold RF C8 at r;rw [hfr] at r;exact r
theorem bH {M:Model}{E:Value->Shared->Prop}{pos:Pos}{f:Value}{first:List Value}{args:List (Bool×Sem Value)}{Q:Value->Shared->Prop}(hf:∀a,f≠.ref a)(hp:∀p∈args,p.1=false)
  (h:wpAny M A (spliced args) (fun vs s₁=>wpAny M A (PySem.call f (first++vs) []) Q E s₁) E s):wpAny M A (callWith pos f first args []) Q E s:=by
 have hany:args.any (·.1)=false:=List.any_eq_false.mpr fun p hp'=>by rw [hp p hp'];decide
 have h':=iP (f:=f) (Q:=fun a s₁=>wpAny M A (PySem.call f (first++a.pos) a.kw) Q E s₁) hp h
 have hkp:keeperOf f=pure .machine:=by
  cases f<;>first |rfl |exact absurd rfl (hf _)
 unfold callWith
 refine wpAny_bind (wpAny_holding (wpAny_mono h' (fun a s₁ he=>wpAny_bind (wpAny_standAt ?_)) fun _ _ x=>x))
 rw [hkp,hany]
 refine wpAny_bind (wpAny_pure ?_)
 exact wpAny_bind (wpAny_mono he (fun r s2 hr=>wpAny_bind (wpAny_holding (wpAny_point (wpAny_pure hr)))) fun _ _ x=>x)
theorem av.b1Y {y:Str}{id:Value}{F:T->Option T}{e:Expr}{p:PE}{pn pos:Pos}{R:RR Value T}(hd:Dn R)(o:Ax P (EH P fun x=>PySem.call id [x]) F R)(hid:∀a,id≠.ref a)(hx:B.sc.names.lookup y=some .globalImplicit)(hdb:(y==("__debug__":Str))=false)(hm:y∈jH)(hv:bootBuiltins y=some id)
  (hn:∀env,starEach [e] env=[(false,eval e env)])(h:av P B C e p (RY P)):av P B C (.Call (.Name y pn) [e] [] pos) (p1 F p) R:=fun n A env g ρ σ s k Q E X hb hq=>
 Call_Name rfl (X.blt hx hdb hm hv (bH hid (cc (by rw [hn env];exact fun q hq=>by cases hq with |head=>rfl |tail _ h=>cases h))
  (wpAny_items_cons (wpAny_mono (h.op1 hd o n A env g ρ σ s k Q E X hb hq) (fun _ _ q=>wpAny_items_nil q) fun _ _ q=>q) (hn env))))
theorem av.b1 {y:Str}{id:Value}{F:T->Option T}{e:Expr}{p:PE}{pn pos:Pos}{R:RR Value T}(hd:Dn R)(o:Ax P (EH P fun x=>PySem.call id [x]) F R)(hid:∀a,id≠.ref a)(hx:B.sc.names.lookup y=some .globalImplicit)(hdb:(y==("__debug__":Str))=false)(hm:y∈jH)(hv:bootBuiltins y=some id)
  (hn:∀env,starEach [e] env=[(false,eval e env)])(h:av P B C e p (RX P)):av P B C (.Call (.Name y pn) [e] [] pos) (p1 F p) R:=.b1Y hd o hid hx hdb hm hv hn h.xy
theorem iN {I:Addr}{h h':Heap}(hs:∀b,b≠I->h'.get? b=h.get? b):∀a o,h.get? a=some o->a∉[I]->h'.get? a=some o:=fun a o e q=>(hs a fun x=>q (x▸aE rfl)).trans e
theorem uG {I:Addr}{h h':Heap}(hs:∀b,b≠I->h'.get? b=h.get? b)(hI:¬g.F I):aZ g h g h':=⟨fun a f=>⟨f,fun o e=>(hs a fun q=>hI (q▸f)).trans e⟩,rfl⟩
theorem oY.list (hh:A.handled=none){I l:Addr}{ts:List T}{vs:Array Value}{m:Nat}:oY P A I ts [I] [] (fun i g h=>h.IsListIter I l i/\g.F l/\h.get? l=some (bO vs m)/\bm P g h ts vs.toList) where
 self i g s Q E st:=wpAny_pyIter_listiter st.1
 stay i g h g' h' st k ki:=by
  obtain ⟨⟨o,e,r⟩,f,e',q⟩:=st
  exact ⟨⟨o,ki I (aE rfl) o e,r⟩,(k.F l f).1,(k.F l f).2 _ e',q.mono k⟩
 here i g h st a ha:=by
  obtain ⟨⟨o,e,_⟩,_⟩:=st
  rw [ae ha];exact ay e
 item i t g s Q E hi st hF hq:=by
  obtain ⟨it,f,e',q⟩:=st
  obtain ⟨u,hu,r⟩:=q.get hi
  refine wpAny_pyNext_list_item it ⟨_,e',rfl,m,rfl⟩ (by rw [<-Array.getElem?_toList];exact hu) fun h' it' hs=>?_
  have kf:=uG hs.2 (hF I (aE rfl))
  exact hq u h' s.toks (iN hs.2) (r.mono kf) ⟨it',f,(kf.F l f).2 _ e',q.mono kf⟩
 done g s Q E st hq:=by
  obtain ⟨it,f,e',q⟩:=st
  refine wpAny_pyNext_list_end hh it ⟨_,e',rfl,m,rfl⟩ (Array.getElem?_eq_none (le_of_eq q.size)) fun h' hs=>hq h' s.toks fun b o e hb=>hs b o (fun q=>hb (aE q)) e
theorem oY.tuple (hh:A.handled=none){I l:Addr}{ts:List T}{vs:Array Value}{m:Nat}:oY P A I ts [I] [] (fun i g h=>h.IsTupleIter I l i/\g.F l/\h.get? l=some (jg vs m)/\bm P g h ts vs.toList) where
 self i g s Q E st:=wpAny_pyIter_tupleiter st.1
 stay i g h g' h' st k ki:=by
  obtain ⟨⟨o,e,r⟩,f,e',q⟩:=st
  exact ⟨⟨o,ki I (aE rfl) o e,r⟩,(k.F l f).1,(k.F l f).2 _ e',q.mono k⟩
 here i g h st a ha:=by
  obtain ⟨⟨o,e,_⟩,_⟩:=st
  rw [ae ha];exact ay e
 item i t g s Q E hi st hF hq:=by
  obtain ⟨it,f,e',q⟩:=st
  obtain ⟨u,hu,r⟩:=q.get hi
  refine wpAny_pyNext_tuple_item it ⟨_,e',rfl,m,rfl⟩ (by rw [<-Array.getElem?_toList];exact hu) fun h' it' hs=>?_
  have kf:=uG hs.2 (hF I (aE rfl))
  exact hq u h' s.toks (iN hs.2) (r.mono kf) ⟨it',f,(kf.F l f).2 _ e',q.mono kf⟩
 done g s Q E st hq:=by
  obtain ⟨it,f,e',q⟩:=st
  exact wpAny_pyNext_tuple_end hh it ⟨_,e',rfl,m,rfl⟩ (Array.getElem?_eq_none (le_of_eq q.size)) fun h' hs=>hq h' s.toks fun b o e hb=>hs b o (fun q=>hb (aE q)) e
noncomputable abbrev wY (c:String)(l:Addr):Obj:={cls:=.type c,data:=.fields #[.ref l,.int 0 0]}
noncomputable abbrev Ao (P:Pg)(B:b7)(C C':Ct)(target:Expr)(zb:PB)(tw:Env->List Addr):Around->Addr->List T->List Addr->List Addr->(Nat->Gh->Heap->Prop)->Prop:=fun A I ts vol fx St=>l7 P A B C C' target zb tw I ts vol fx St
structure jM (P:Pg) (mk:Around->Addr->List T->List Addr->List Addr->(Nat->Gh->Heap->Prop)->Prop):Prop where
 make:∀{A I ts vol fx St},oY P A I ts vol fx St->mk A I ts vol fx St
theorem jM.one {i:Nat}{y:Str}{k:NameKind}{p:Pos}(hc:cQ C i false C'=true)(ht:B.tab[i]?=some (some (y,k)))(hk:k=.local\/k=.cell):jM P (Ao P B C C' (.Name y p) (bj i) (Cw k y)):=⟨fun T=>T.one hc ht hk⟩
theorem qU {X:Obj}{tk:Nat}(w:bN P ga s₁.heap σ)(p:aQ g s ga s₁):aQ g s ga {s₁ with heap:=s₁.heap.push X,toks:=tk}/\bN P ga (s₁.heap.push X) σ/\∀a∈[s₁.heap.objs.size],s.heap.get? a=none/\¬ga.F a/\¬ga.Z a:=
 ⟨p.trans (.push X tk),w.push X,fun a ha=>by rw [ae ha];exact ⟨p.back _ (aR _),(eB w).1,(eB w).2.1⟩⟩
theorem gu.seq {e:Expr}{p:PE}{mk:Around->Addr->List T->List Addr->List Addr->(Nat->Gh->Heap->Prop)->Prop}(hb:jM P mk)(h:av P B C e p (RV P)):gu P B C e mk (bv p):=fun n A env g ρ σ s k Q E X hbad hq=>
 h n A env g ρ σ s (fun t σ=>up (ir t) σ k) _ E X hbad fun x s₁ ga t σ₁ e p w r=>by
  obtain ⟨ts,e'⟩:=cG fun q=>hbad (e.trans q)
  have ek:bv _ (P.cx n) ρ σ k=k ts σ₁:=e.trans (by rw [e'];rfl)
  unfold ir el at e'
  cases e1:rH t with
  |some us=>
   rw [e1] at e';cases e';cases lK e1
   obtain ⟨l,rfl,f,vs,m,g1,g3,g2⟩:=r
   refine wpAny_pyIter_tuple ⟨_,g1,rfl,m,rfl⟩ ?_
   obtain ⟨p',w',v⟩:=qU (X:=wY "tuple_iterator" l) (tk:=s₁.toks) w p
   exact hq _ ga ts σ₁ _ _ [] _ ek p' w' (hb.make (oY.tuple X.room.2.2)) ⟨⟨_,ch _,rfl,rfl⟩,f,cw s₁ _ _ _ g1,g2.mono ((aQ.push (wY "tuple_iterator" l) 0).k w)⟩ v (fun _ q=>nomatch q) g3
  |none=>
   rw [e1] at e';cases fT e'
   obtain ⟨l,rfl,f,vs,m,g1,g3,g2⟩:=r
   refine wpAny_pyIter_list ⟨_,g1,rfl,m,rfl⟩ ?_
   obtain ⟨p',w',v⟩:=qU (X:=wY "list_iterator" l) (tk:=s₁.toks) w p
   exact hq _ ga ts σ₁ _ _ [] _ ek p' w' (hb.make (oY.list X.room.2.2)) ⟨⟨_,ch _,rfl,rfl⟩,f,cw s₁ _ _ _ g1,g2.mono ((aQ.push (wY "list_iterator" l) 0).k w)⟩ v (fun _ q=>nomatch q) g3
theorem oY.range (hh:A.handled=none){I:Addr}{a b c:Int}(n:Nat)(hn:n=(Builtin.Range.rangeSize a b c).toNat):oY P A I (cY a b c) [I] [] (fun i _ h=>i<=n/\IsRangeIter h I (a+(i:Nat) * c) ((n:Int) - (i:Nat)) c) where
 self i g s Q E st:=wpAny_pyIter_rangeiter st.2
 stay i g h g' h' st k ki:=⟨st.1,ki I (aE rfl) _ st.2⟩
 here i g h st a ha:=by rw [ae ha];exact ay st.2
 item i t g s Q E hi st hF hq:=by
  have hl:i < n:=by
   have:=(ak hi).1
   rw [cY,length_map,length_range,<-hn] at this;exact this
  have ht:t=.int (a+(i:Nat) * c):=by
   rw [cY,getElem?_map,getElem?_range (by rw [<-hn];exact hl)] at hi
   exact (Option.some.inj hi).symm
  refine wpAny_pyNext_range_item st.2 (by lia -abstractProof) fun h' hit hs=>hq _ h' _ (iN hs.2) (ht▸⟨_,rfl⟩) ⟨hl,?_⟩
  have e1:a+((i+1:Nat):Int) * c=a+(i:Int) * c+c:=by rw [Int.natCast_succ,Int.add_mul,Int.one_mul,Int.add_assoc]
  have e2:(n:Int) - ((i+1:Nat):Int)=(n:Int) - (i:Int) - 1:=by lia -abstractProof
  rw [e1,e2];exact hit
 done g s Q E st hq:=by
  have hl:(cY a b c).length=n:=by rw [cY,length_map,length_range,hn]
  exact wpAny_pyNext_range_end hh st.2 (by rw [hl];lia -abstractProof) fun h' hs=>hq h' s.toks fun b o e hb=>hs b o (fun q=>hb (aE q)) e
theorem CT {i:Int}(h1:-4000000000<=i)(h2:i<=4000000000):Builtin.Range.rangeFitsLong i=true:=and_eq_true_iff.mpr ⟨decide_eq_true (Int.le_trans (by decide) h1),decide_eq_true (Int.lt_of_le_of_lt h2 (by decide))⟩
theorem vm {i:Int}(h:sm i=true):-1000000000<=i/\i<=1000000000:=
 have q:(i.natAbs:Int)<=1000000000:=b9 (xP h)
 ⟨Int.neg_le_of_neg_le (Int.le_trans (Int.natAbs_neg i▸le_natAbs) q),Int.le_trans le_natAbs q⟩
theorem Cx {a b:Int}(ha:sm a=true)(hb:sm b=true):0<=(if a < b then (b - a - 1) / 1+1 else 0:Int)/\(if a < b then (b - a - 1) / 1+1 else 0:Int)<=4000000000:=by
 by_cases h:a < b
 .rw [if_pos h,ediv_one,Int.sub_add_cancel];exact ⟨Int.sub_nonneg.mpr (Int.le_of_lt h),Int.le_trans (Int.sub_le_sub (vm hb).2 (vm ha).1) (by decide)⟩
 .rw [if_neg h];decide
theorem CS {a:Int}(h:sm a=true):Builtin.Range.rangeFitsLong a=true:=CT (Int.le_trans (by decide) (vm h).1) (Int.le_trans (vm h).2 (by decide))
theorem IE {a b c n d:Int}(ha:sm a=true)(hb:sm b=true)(hc:Builtin.Range.rangeFitsLong c=true)(hn:0<=n/\n<=4000000000)(hd:d=b):(Builtin.Range.rangeFitsLong a&&Builtin.Range.rangeFitsLong b&&Builtin.Range.rangeFitsLong c&&Builtin.Range.rangeFitsLong n&&(n==0||Builtin.Range.rangeFitsLong d))=true:=by
 rw [CS ha,hd,CS hb,hc,CT (Int.le_trans (by decide) hn.1) hn.2,Bool.or_true];rfl
theorem AH {a b:Int}(ha:sm a=true)(hb:sm b=true):0<=Builtin.Range.rangeSize a b 1/\Builtin.Range.small a b 1=true:=by
 have e:Builtin.Range.rangeSize a b 1=if a < b then (b - a - 1) / 1+1 else 0:=if_pos (by decide)
 have h:=Cx ha hb
 rw [<-e] at h
 exact ⟨h.1,IE ha hb (by decide) h (Int.add_zero b)⟩
inductive Jj (ts:List T) (vs:List Value) (l:List T):Prop
 |one (n:Int) (t:Tok) (e:vs=[.int n t]) (h:rg 0 n=some l)
 |two (m n:Int) (t u:Tok) (e:vs=[.int m t,.int n u]) (h:rg m n=some l)
theorem um {ts l:List T}{vs:List Value}(r:bm P g h ts vs)(e:vv ts=some l):Jj ts vs l:=by
 unfold vv at e
 cases ts with
 |nil=>cases e
 |cons m r1=>
  obtain ⟨x,xs,e1,q1,q2⟩:=r
  cases r1 with
  |nil=>
   obtain ⟨i,h1,h2⟩:=aD (show o1 (jJ m) (rg 0)=some l from e)
   cases oQ h1
   obtain ⟨t,rfl⟩:=q1
   cases q2
   exact .one i t e1 h2
  |cons m' r2=>
   obtain ⟨x',xs',e2,q3,q4⟩:=q2
   cases r2 with
   |nil=>
    obtain ⟨i,j,h1,h2,h3⟩:=bn (show o2 (jJ m) (jJ m') rg=some l from e)
    cases oQ h1;cases oQ h2
    obtain ⟨t,rfl⟩:=q1
    obtain ⟨u,rfl⟩:=q3
    cases q4
    exact .two i j t u (e2▸e1) h3
   |cons=>cases e
noncomputable abbrev Hf (a b:Int)(t u v:Tok):Obj:={cls:=.type "range",data:=.fields #[.int a t,.int b u,.int 1 v]}
theorem gu.range {es:List Expr}{ps:PL}{p pos:Pos}{mk:Around->Addr->List T->List Addr->List Addr->(Nat->Gh->Heap->Prop)->Prop}(hb:jM P mk)(hx:B.sc.names.lookup (ofString "range")=some .globalImplicit)(h:ig P B C es ps):
  gu P B C (.Call (.Name (ofString "range") p) es [] pos) mk (cn ps):=fun n A env g ρ σ s k Q E X hbad hq=>by
 refine Call_Name rfl (X.blt hx (by decide) (by decide) (v:=.type "range") (by decide) ?_)
 refine bH (fun _ q=>by cases q) (cc (h.pl env)) (h.sim pos n A env g ρ σ s (fun t σ=>up (vv t) σ k) _ E X hbad fun xs s₁ ga ts σ₁ e p w r=>?_)
 obtain ⟨l,e'⟩:=cG fun q=>hbad (e.trans q)
 have ek:cn ps (P.cx n) ρ σ k=k l σ₁:=e.trans (by rw [e'];rfl)
 have fin:∀(a b:Int) (t u v:Tok) (tk:Nat),rg a b=some l->wpAny P.M A (pyIter (.ref s₁.heap.objs.size)) Q E {s₁ with heap:=s₁.heap.push (Hf a b t u v),toks:=tk}:=fun a b t u v tk hr=>by
  obtain ⟨c,rfl⟩:=de hr
  obtain ⟨c1,c2⟩:=ai c
  obtain ⟨c3,c4⟩:=ai c1
  obtain ⟨hsz,hsm⟩:=AH c3 c4
  refine wpAny_pyIter_range (IsRange.new s₁.heap a b 1 t u v) hsm ?_
  obtain ⟨p',w',_⟩:=qU (X:=Hf a b t u v) (tk:=tk) w p
  obtain ⟨p'',w'',v''⟩:=qU (s₁:={s₁ with heap:=s₁.heap.push (Hf a b t u v),toks:=tk}) (X:={cls:=.type "range_iterator",data:=.fields #[rawInt a,rawInt (Builtin.Range.rangeSize a b 1),rawInt 1]}) (tk:=tk) w' p'
  refine hq _ ga _ σ₁ _ _ [] _ ek p'' w'' (hb.make (oY.range X.room.2.2 (Builtin.Range.rangeSize a b 1).toNat rfl)) ⟨zero_le _,?_⟩ v'' (fun _ q=>nomatch q) (gY c2)
  have e1:a+((0:Nat):Int) * 1=a:=by simp
  have e2:(((Builtin.Range.rangeSize a b 1).toNat:Int) - ((0:Nat):Int))=Builtin.Range.rangeSize a b 1:=by lia -abstractProof
  show IsRangeIter _ _ _ _ _
  rw [e1,e2];exact ch _
 rcases um r e' with ⟨m,t,rfl,hr⟩ | ⟨m,m',t,u,rfl,hr⟩
 .exact call_range_1 (fin 0 m _ t _ _ hr)
 .exact call_range_2 (fin m m' t u _ _ hr)
end
theorem qj {kind:Str->Option NameKind}{x:Str}:∀(l:List (Str×Value)) (m:Str->Option Value),(∀p∈l,p.1≠x)->bindL kind l m x=m x
 | [],_,_=>rfl
 | (y,v)::r,m,h=>by
  rw [bindL,qj r _ fun p hp=>h p (mem_cons_of_mem _ hp)]
  have hy:¬x=y:=fun e=>h (y,v) mem_cons_self e.symm
  split
  .simp [hy]
  .rfl
theorem qk {kind:Str->Option NameKind}{x:Str}:∀(l:List (Str×Value)) (m:Str->Option Value),(∀p∈l,p.1≠x)->bindC kind l m x=m x
 | [],_,_=>rfl
 | (y,v)::r,m,h=>by
  rw [bindC,qk r _ fun p hp=>h p (mem_cons_of_mem _ hp)]
  have hy:¬x=y:=fun e=>h (y,v) mem_cons_self e.symm
  split
  .rfl
  .simp [hy]
theorem mY {x:Str}{ps:List Str}{vs:List Value}(h:x∉ps):∀p∈ps.zip vs,p.1≠x:=fun p hp e=>h (e▸(List.of_mem_zip (a:=p.1) (b:=p.2) hp).1)
theorem tM {kind:Str->Option NameKind}:∀(ps:List Str) (vs:List Value) (m:Str->Option Value),ps.Nodup->∀(i:Nat) (x:Str) (v:Value),ps[i]?=some x->vs[i]?=some v->kind x=some .local->bindL kind (ps.zip vs) m x=some v
 | [],_,_,_,i,x,v,h,_,_=>by simp at h
 |_::_,[],_,_,i,x,v,_,h,_=>by simp at h
 |y::ps,u::vs,m,hn,0,x,v,hx,hv,hk=>by
  simp at hx hv;subst hx hv
  rw [List.zip_cons_cons,bindL,qj _ _ (mY (bi hn).1),if_pos hk];simp
 |y::ps,u::vs,m,hn,i+1,x,v,hx,hv,hk=>by
  rw [List.zip_cons_cons,bindL]
  exact tM ps vs _ (bi hn).2 i x v (by simpa using hx) (by simpa using hv) hk
theorem tN {kind:Str->Option NameKind}:∀(ps:List Str) (vs:List Value) (m:Str->Option Value),ps.Nodup->∀(i:Nat) (x:Str) (v:Value),ps[i]?=some x->vs[i]?=some v->kind x≠some .local->bindC kind (ps.zip vs) m x=some v
 | [],_,_,_,i,x,v,h,_,_=>by simp at h
 |_::_,[],_,_,i,x,v,_,h,_=>by simp at h
 |y::ps,u::vs,m,hn,0,x,v,hx,hv,hk=>by
  simp at hx hv;subst hx hv
  rw [List.zip_cons_cons,bindC,qk _ _ (mY (bi hn).1),if_neg hk];simp
 |y::ps,u::vs,m,hn,i+1,x,v,hx,hv,hk=>by
  rw [List.zip_cons_cons,bindC]
  exact tN ps vs _ (bi hn).2 i x v (by simpa using hx) (by simpa using hv) hk
theorem qV {cs:List (Str×Addr)}(h:cs.Pairwise fun x y=>x.2≠y.2):∀{x y:Str} {c:Addr},cs.lookup x=some c->cs.lookup y=some c->x=y:=by
 induction cs with
 |nil=>intro x y c hx;cases hx
 |cons p r ih=>
  intro x y c hx hy
  obtain ⟨z,d⟩:=p
  have h1:=(List.pairwise_cons.mp h).1
  rw [lookup_cons] at hx hy
  have out:∀{w:Str},r.lookup w=some d->False:=fun {w} e=>by
   obtain ⟨q,hq,e'⟩:=aT (bG e)
   exact h1 q hq e'.symm
  cases hx':(x==z) with
  |true=>
   simp only [hx'] at hx;cases hx
   cases hy':(y==z) with
   |true=>exact (beq_iff_eq.mp hx').trans (beq_iff_eq.mp hy').symm
   |false=>simp only [hy'] at hy;exact (out hy).elim
  |false=>
   simp only [hx'] at hx
   cases hy':(y==z) with
   |true=>simp only [hy'] at hy;cases hy;exact (out hx).elim
   |false=>simp only [hy'] at hy;exact ih (List.pairwise_cons.mp h).2 hx hy
structure Gv (P:Pg) (f np:Nat) (tab:List (Option (Str×NameKind))) (ps:List Str) (bd:List Stmt) (U:List Nat):Prop where
 body:(P.fd f).body=.stmts bd
 ok:b7.ok ⟨(P.fd f).scope,tab⟩=true
 len:ps.length=np
 par:∀(i:Nat) (x:Str),ps[i]?=some x->∃k:NameKind,tab[i]?=some (some (x,k))/\(k=.local\/k=.cell)
 nof:∀(i:Nat) (x:Str),tab[i]?≠some (some (x,.free))
 bind:∀vals:List Value,vals.length=np->bindArgs (P.fd f) ⟨vals,[]⟩=pure (ps.zip vals)
 nd:((cellsFrom 0 (P.fd f).scope.names []).map (·.1)).Nodup
 co:(P.fd f).scope.isCoroutine=false/\(P.fd f).scope.isGenerator=false
 un:∀i∈U,np<=i
inductive xx (P:Pg) (f:Nat) (F:gK):Prop
 |mk (tab:List (Option (Str×NameKind))) (ps:List Str) (bd:List Stmt) (U:List Nat) (C':Ct) (K:Gv P f F.np tab ps bd U) (sim:iX P ⟨(P.fd f).scope,tab⟩ ⟨[],U,t9 f⟩ (kW f) C' bd F.body)
theorem oX.deeper {A:Around}{n:Nat}(env:Env)(h:oX A (n+1)):Ch (A.deeper env) n:=by
 obtain ⟨h1,h2,h3⟩:=h
 refine ⟨?_,?_,h3⟩
 .show A.depth+1+2 * n+10 < recursionLimit;lia -abstractProof
 .show A.units+3+20 * n+200 < cLine;lia -abstractProof
theorem i9 {n i:Nat}{t:T}:∀{ts:List T},bV (frame ts n) i=some t->ts[i]?=some t:=by
 intro ts
 induction ts generalizing i with
 |nil=>
  intro h
  have:∀n i,bV (replicate n none) i=none:=fun n=>by
   induction n with
   |zero=>exact fun _=>rfl
   |succ n ih=>intro i;cases i with
    |zero=>rfl
    |succ i=>exact ih i
  rw [show frame [] n=replicate n none from rfl,this] at h;cases h
 |cons x ts ih=>
  intro h
  cases i with
  |zero=>exact h
  |succ i=>exact ih h
theorem yr {n i:Nat}{ts:List T}(h:ts.length<=i):bV (frame ts n) i=none:=by
 cases e:bV (frame ts n) i with
 |none=>rfl
 |some t=>exact absurd (ak (i9 e)).1 (Nat.not_lt.mpr h)
theorem Args.get {P:Pg}{m:Bool}{g:Gh}{h:Heap}{ts:List T}{vs:List Value}(a:Args P m g h ts vs):vs.length=ts.length/\∀(i:Nat) (t:T),ts[i]?=some t->∃v,vs[i]?=some v/\(Rp P g h t v\/(m=true/\i=0/\t=.self/\v=.ref g.sa)):=by
 cases m with
 |false=>exact ⟨bm.length a,fun i t e=>let ⟨v,e',r⟩:=bm.get a e;⟨v,e',.inl r⟩⟩
 |true=>
  obtain ⟨v,vs,t,ts,rfl,rfl,h1,h2⟩:=a
  refine ⟨congrArg (·+1) (bm.length h2),fun i u e=>?_⟩
  cases i with
  |zero=>cases e;exact ⟨v,rfl,h1.imp id fun q=>⟨rfl,rfl,q⟩⟩
  |succ i=>exact let ⟨v,e',r⟩:=bm.get h2 (i:=i) e;⟨v,e',.inl r⟩
theorem Args.mono {P:Pg}{m:Bool}{g g':Gh}{h h':Heap}{ts:List T}{vs:List Value}(k:aZ g h g' h')(es:g'.sa=g.sa)(a:Args P m g h ts vs):Args P m g' h' ts vs:=by
 cases m with
 |false=>exact bm.mono k a
 |true=>exact let ⟨v,vs,t,ts,e,e',h1,h2⟩:=a;⟨v,vs,t,ts,e,e',h1.imp (·.mono k) fun q=>⟨q.1,es▸q.2⟩,h2.mono k⟩
theorem D0 (g:Gh)(o:Nat->Option Addr)(h:Heap):aZ g h {g with o:=o} h:=⟨fun _ f=>⟨f,fun _ e=>e⟩,rfl⟩
theorem bN.callee {P:Pg}{g:Gh}{h h':Heap}{σ:Sg}(w:bN P g h σ)(k:∀a o,h.get? a=some o->h'.get? a=some o):bN P {g with o:=fun _=>none} h' σ:=by
 have w1:=w.grow k g.F (fun _ f=>f) fun _ f=>.inl f
 exact ⟨w1.base,w1.F,w1.Z,(fun a ⟨_,q⟩=>nomatch q),(fun _ _ _ q=>nomatch q),w1.spot,fun c ts e=>(w1.self c ts e).mono (D0 g _ h') (fun _ z=>⟨z,fun _ e=>e⟩) rfl⟩
theorem tA {P:Pg}{g g':Gh}{s s₁ s':Shared}{σ σ':Sg}{W:List Addr}(hs:∃h tk,s₁={s with heap:=h,toks:=tk})(hk:∀a o,s.heap.get? a=some o->s₁.heap.get? a=some o)(w:bN P g s.heap σ)(hW:∀a∈W,s.heap.get? a=none)(q:be [] W {g with o:=fun _=>none} s₁ g' s')(w':bN P g' s'.heap σ'):
  aQ g s {g' with o:=g.o} s'/\bN P {g' with o:=g.o} s'.heap σ':=by
 have bk:∀a,s₁.heap.get? a=none->s.heap.get? a=none:=fun a e=>by
  cases x:s.heap.get? a with
  |none=>rfl
  |some o=>exact (ay (hk a o x) e).elim
 have fn:∀a,g'.F a->g.F a\/s.heap.get? a=none:=fun a f=>(q.Fn a f).imp id fun x=>x.elim (fun ⟨_,x⟩=>nomatch x) (bk a)
 have zn:∀a,g'.Z a->g.Z a\/s.heap.get? a=none:=fun a f=>(q.Zn a f).imp id (bk a)
 have kp:∀a o,s.heap.get? a=some o->¬g.Z a->s'.heap.get? a=some o:=fun a o e z=>q.keep a o (hk a o e) z (fun ⟨_,x⟩=>nomatch x) fun x=>ay e (hW a x)
 refine ⟨⟨St.trans hs q.st,kp,fun a e=>bk a (q.b a e),q.F,fn,zn,rfl,q.sp,q.sa⟩,w'.base,w'.F,w'.Z,fun a x=>?_,w.oo,w'.spot,fun c ts e=>(w'.self c ts e).mono (D0 g' _ s'.heap) (fun _ z=>⟨z,fun _ e=>e⟩) rfl⟩
 obtain ⟨l,f,z⟩:=w.O a x
 refine ⟨?_,fun y=>(fn a y).elim f l,fun y=>(zn a y).elim z l⟩
 cases e:s.heap.get? a with
 |none=>exact (l e).elim
 |some o=>exact ay (kp a o e z)
theorem CU {P:Pg}(G:t3 P){f np ns:Nat}{F:gK}{m:Bool}{tab:List (Option (Str×NameKind))}{ps:List Str}{bd:List Stmt}{U:List Nat}(hf:P.Ψ f=some F)(K:Gv P f np tab ps bd U){A:Around}{ts:List T}{vs:List Value}{g:Gh}{s:Shared}{R:Result->Shared->Prop}(hd:A.depth < recursionLimit)(bs:∀a o,P.h₀.get? a=some o->s.heap.get? a=some o)
  (lF:∀a,g.F a->s.heap.get? a≠none)(lZ:∀a,g.Z a->s.heap.get? a≠none)(r:Args P m g s.heap ts vs)(hlen:ts.length=np)
  (k:∀s₁ env E,(∃h tk,s₁={s with heap:=h,toks:=tk})->(∀a o,s.heap.get? a=some o->s₁.heap.get? a=some o)->(∀a∈own env,s.heap.get? a=none)->cI P ⟨(P.fd f).scope,tab⟩ ⟨[],U,m⟩ env {g with o:=fun _=>none} (frame ts ns) s₁.heap->wpAny P.M (A.deeper env) (execs bd env) (fun f s'=>R (.ok (.ret (match f with |.ret v=>v |_=>.none))) s') E s₁):
  codeAny P.M A (.call (.ref (P.fnA f)) ⟨vs,[]⟩) R s:=by
 obtain ⟨o,g1,g2,g3,g4,g5,g6,g7⟩:=G.fn f F hf
 obtain ⟨K1,K2,K3,K4,K5,K6,K7,K8,K9⟩:=K
 obtain ⟨al,ag⟩:=r.get
 have hvl:vs.length=np:=al.trans hlen
 have look:∀i x k,tab[i]?=some (some (x,k))->(P.fd f).scope.names.lookup x=some k:=fun i x k h=>(b7.look (B:=⟨(P.fd f).scope,tab⟩) K2 h).2.1
 have hkind:(P.fd f).scope.kind=.function:=by
  have:=K2
  simp only [b7.ok,and_eq_true,beq_iff_eq] at this
  exact this.1.1
 have hnd:ps.Nodup:=by
  rw [List.nodup_iff_pairwise_ne,List.pairwise_iff_getElem]
  intro i j hi hj hij e
  obtain ⟨k,q,_⟩:=K4 i ps[i] (getElem?_eq_getElem hi)
  obtain ⟨k',q',_⟩:=K4 j ps[j] (getElem?_eq_getElem hj)
  exact absurd (b7.inj K2 (B:=⟨(P.fd f).scope,tab⟩) q (e▸q')) (Nat.ne_of_lt hij)
 refine codeAny_call_cells (binds:=ps.zip vs) hd (bs _ _ g1) g2 (G.nolimit.keeps bs) (g4.keeps bs) K1 (K6 vs hvl) g5 (fun x hx=>?_) (fun s₁ x=>?_) K8.1 K8.2 hkind
 .obtain ⟨i,hi,e⟩:=List.getElem_of_mem (List.of_mem_zip (a:=x.1) (b:=x.2) hx).1
  obtain ⟨k,q,hk⟩:=K4 i x.1 (by rw [getElem?_eq_getElem hi,e])
  have:=look i x.1 k q
  rcases hk with rfl |rfl
  .exact .inl this
  .exact .inr ⟨this,PySem.W.cellsFrom_some _ _ _ (.inl this)⟩
 .have dead:∀a:Addr,s.heap.objs.size<=a->s.heap.get? a=none:=fun a ha=>by
   cases e:s.heap.get? a with
   |none=>rfl
   |some o'=>exact absurd (Heap.lt_size e) (Nat.not_lt.mpr ha)
  have hW:∀a∈own (callEnvC (P.fd f) s.heap.objs.size (P.fnA f)),s.heap.get? a=none:=fun a ha=>by
   rcases az ha with rfl |ha
   .exact dead _ (le_refl _)
   .obtain ⟨q,hq,rfl⟩:=aT ha
    exact dead _ (le_of_lt (x.above q.1 q.2 hq))
  have r1:=r.mono (g':={g with o:=fun _=>none}) (h':=s₁.heap) (show aZ g s.heap _ _ from ⟨fun a f=>⟨f,x.toInCall.keep a⟩,rfl⟩) rfl
  obtain ⟨_,ag⟩:=r1.get
  have par:∀{i y k t},tab[i]?=some (some (y,k))->ts[i]?=some t->ps[i]?=some y:=fun {i y k t} ht hv=>by
   have hi:i < ps.length:=by rw [K3,<-hlen];exact (ak hv).1
   obtain ⟨k,q,_⟩:=K4 i ps[i] (getElem?_eq_getElem hi)
   rw [ht] at q;cases q
   exact getElem?_eq_getElem hi
  have cl:∀{i:Nat} {y:Str} {k:NameKind},tab[i]?=some (some (y,k))->k≠.local->∃c,(cellsFrom (s.heap.objs.size+1) (P.fd f).scope.names []).lookup y=some c:=fun {i y k} ht hk=>by
   have hk':k=.cell:=by
    rcases (b7.look (B:=⟨(P.fd f).scope,tab⟩) K2 ht).2.2.1 with h |h |h
    .exact (hk h).elim
    .exact h
    .exact (K5 i y (h▸ht)).elim
   exact aO (PySem.W.cellsFrom_some (x:=y) (P.fd f).scope.names (s.heap.objs.size+1) [] (.inl (hk'▸look i y k ht)))
  refine k s₁ _ _ x.toInCall.same x.toInCall.keep hW {
   ok:=K2
   sc:=rfl
   glob:=g6
   blt:=g7
   ns:=⟨_,x.toInCall.ns⟩
   cell:=fun i y k ht hk=>let ⟨c,hc⟩:=cl ht (by rcases hk with rfl |rfl<;>decide);⟨c,_,hc,x.cell y c hc⟩
   apart:=fun y z c hy hz=>qV x.apart hy hz
   own:=fun a ha=>⟨by
    rcases az ha with rfl |ha
    .obtain ⟨o',_,_,e',_⟩:=x.toInCall.ns;exact ay e'
    .obtain ⟨q,hq,rfl⟩:=aT ha
     obtain ⟨o',e',hd⟩:=x.cell q.1 q.2 (lookup_of_mem_nodup (cellsFrom_names (P.fd f).scope.names 0 (s.heap.objs.size+1) [] [] rfl▸K7) hq)
     exact ay e',fun q=>lF a q (hW a ha),fun q=>lZ a q (hW a ha),fun ⟨_,q⟩=>nomatch q⟩
   var:=fun i y t ht hv=>by
    obtain ⟨y,k⟩:=y
    have hv:=i9 hv
    obtain ⟨u,hu,hr⟩:=ag i t hv
    have hp:=par ht hv
    refine ⟨u,?_,hr⟩
    by_cases hk:k=.local
    .subst hk;exact .loc y _ ht x.toInCall.ns (tM ps vs _ hnd i y u hp hu (look i y _ ht))
    .obtain ⟨c,hc⟩:=cl ht hk
     have xc:=x.cell y c hc
     rw [tN ps vs _ hnd i y u hp hu (by show (P.fd f).scope.names.lookup y≠_;rw [look i y k ht];exact fun q=>hk (Option.some.inj q))] at xc
     exact .cel y k c ht ((b7.look (B:=⟨(P.fd f).scope,tab⟩) K2 ht).2.2.1.resolve_left hk) hc xc
   un:=fun i hi=>yr (hlen▸K9 i hi)}
theorem tB {P:Pg}(G:t3 P)(n:Nat)(ih:∀k,k<=n->rL P k)(hF:∀f F,P.Ψ f=some F->xx P f F):rL P (n+1):=fun f A ts vs g σ s t σ' Q E room w r hc hq=>by
 rw [mM] at hc
 cases hf:P.Ψ f with
 |none=>rw [hf] at hc;cases hc
 |some F=>
  rw [hf] at hc
  obtain ⟨tab,ps,body,U,C',K,sim⟩:=hF f F hf
  have hc:cond (Nat.beq ts.length F.np) _ _=_:=hc
  cases hl:Nat.beq ts.length F.np with
  |false=>rw [hl] at hc;cases hc
  |true=>
   rw [hl] at hc
   refine CU (ns:=F.ns) G hf K (lt_of_le_of_lt (le_trans (le_add_right _ _) (le_add_right _ _)) room.1) (fun a o e=>(w.base a o e).2) w.F (fun a z=>(w.Z a z).1) r (eq_of_beq_eq_true hl) fun s₁ env E' same keep hW E1=>?_
   have X:At P ⟨(P.fd f).scope,tab⟩ ⟨[],U,t9 f⟩ n (A.deeper env) env {g with o:=fun _=>none} (frame ts F.ns) σ s₁:=⟨G,ih,room.deeper _,E1,w.callee keep⟩
   cases hb:F.body (P.cx n) (frame ts F.ns) σ fun _ σ=>bif kW f then .bad else .ret .none σ with
   |ret t' σ₁=>
    rw [show F.body ⟨aj P.Ψ n⟩ (frame ts F.ns) σ (fun _ σ=>bif kW f then .bad else .ret .none σ)=_ from hb] at hc
    cases hc
    refine sim n _ _ _ (frame ts F.ns) σ s₁ (fun _ σ=>bif kW f then .bad else .ret .none σ) _ _ X (by rw [hb];exact fun q=>by cases q) (fun s' g' Y' σ₂ e p X'=>?_) fun y s' g' t2 σ₂ e p w' r'=>?_
    .rw [hb] at e
     cases hfr:kW f with
     |true=>rw [hfr] at e;cases e
     |false=>
      rw [hfr] at e hq;cases e
      obtain ⟨pe,we⟩:=tA same keep w hW p X'.g
      exact hq .none s' _ pe we rfl
    .rw [hb] at e;cases e
     obtain ⟨pe,we⟩:=tA same keep w hW p w'
     refine hq y s' _ pe we ?_
     have kf:=D0 g' g.o s'.heap
     cases hfr:kW f with
     |false=>rw [hfr] at r';exact Rp.mono kf r'
     |true=>
      rw [hfr] at r'
      obtain ⟨a,e,nw,f1,z1,r2⟩:=r'
      have nw:s.heap.get? a=none:=nw.elim (fun ⟨_,q⟩=>nomatch q) fun q=>by
       cases z:s.heap.get? a with
       |none=>rfl
       |some o=>exact (ay (keep a o z) q).elim
      exact ⟨a,e,nw,f1,z1,fun q=>(w.O a q).1 nw,r2.mono kf fun _ e=>e⟩
   |_=>rw [show F.body ⟨aj P.Ψ n⟩ (frame ts F.ns) σ (fun _ σ=>bif kW f then .bad else .ret .none σ)=_ from hb] at hc;cases hc
theorem uU {P:Pg}(G:t3 P)(hF:∀f F,P.Ψ f=some F->xx P f F):∀n,∀k,k<=n->rL P k
 | 0,k,hk=>by
  obtain rfl:=Nat.le_zero.mp hk
  exact fun f A ts vs g σ s t σ' Q E _ _ _ hc _=>by cases hc
 |n+1,k,hk=>(Nat.lt_or_eq_of_le hk).elim (fun h=>uU G hF n k (le_of_lt_succ h)) fun h=>h▸tB G n (uU G hF n) hF
noncomputable def fq (env:Env):List (Str×NameKind)->List (Str×Addr)->List (Str×Addr)
 | [],acc=>acc
 | (n,k)::r,acc=>fq env r (if k==.free then (n,(env.cells.lookup n).getD 0)::acc else acc)
theorem ry (env:Env)(f:Str×NameKind->List (Str×Addr)->Sem (ForInStep (List (Str×Addr))))(h1:∀n cs c,env.cells.lookup n=some c->f (n,.free) cs=pure (.yield ((n,c)::cs)))(h2:∀n k cs,(k==NameKind.free)=false->f (n,k) cs=pure (.yield cs)):
  ∀(names:List (Str×NameKind)) (acc:List (Str×Addr)),(∀x,(x,NameKind.free)∈names->∃c,env.cells.lookup x=some c)->forIn names acc f=pure (fq env names acc)
 | [],acc,_=>rfl
 | (n,k)::r,acc,h=>by
  rw [List.forIn_cons]
  cases hk:(k==NameKind.free) with
  |true=>
   have hk':k=.free:=by simpa using hk
   subst hk'
   obtain ⟨c,hc⟩:=h n mem_cons_self
   rw [h1 n acc c hc]
   show (forIn r ((n,c)::acc) f:Sem _)=_
   rw [ry env f h1 h2 r _ fun x hx=>h x (mem_cons_of_mem _ hx)]
   rw [show fq env ((n,.free)::r) acc=fq env r ((n,(env.cells.lookup n).getD 0)::acc) from rfl,hc];rfl
  |false=>
   rw [h2 n k acc hk]
   show (forIn r acc f:Sem _)=_
   rw [ry env f h1 h2 r _ fun x hx=>h x (mem_cons_of_mem _ hx)]
   rw [show fq env ((n,k)::r) acc=fq env r (if k==.free then _ else acc) from rfl,hk];rfl
theorem jE {scope:Scope}{env:Env}(h:∀x,(x,NameKind.free)∈scope.names->∃c,env.cells.lookup x=some c):closureFor scope env=pure (fq env scope.names []):=by
 simp only [closureFor]
 rewrite [ry env _ ?_ ?_ scope.names [] h]
 .rfl
 .intro n cs c hc
  simp only [cellOf,hc];rfl
 .intro n k cs hk
  simp only [hk];rfl
set_option tactic.hygienic true in
theorem kI {env:Env}:∀(names:List (Str×NameKind)) (acc:List (Str×Addr)),(∀x,(x,NameKind.free)∈names->∃c,env.cells.lookup x=some c)->(∀p∈acc,env.cells.lookup p.1=some p.2)->∀p∈fq env names acc,env.cells.lookup p.1=some p.2
 | [],_,_,ha,p,hp=>ha p hp
 | (n,k)::r,acc,h,ha,p,hp=>by
  refine kI r _ (fun x hx=>h x (mem_cons_of_mem _ hx)) (fun q hq=>?_) p hp
  split at hq
  .rename_i hk
   have hk':k=.free:=by simpa using hk
   subst hk'
   rcases az hq with rfl |hq
   .obtain ⟨c,hc⟩:=h n mem_cons_self
    rw [hc];rfl
   .exact ha q hq
  .exact ha q hq
theorem oF {env:Env}{x:Str}:∀(names:List (Str×NameKind)) (acc:List (Str×Addr)),(acc.lookup x).isSome=true\/(x,NameKind.free)∈names->((fq env names acc).lookup x).isSome=true
 | [],_,h=>h.elim id fun q=>by cases q
 | (n,k)::r,acc,h=>by
  refine oF r _ ?_
  rcases h with h |h
  .refine .inl ?_
   split
   .rw [lookup_cons];split
    .rfl
    .exact h
   .exact h
  .rcases az h with q |q
   .cases q
    refine .inl ?_
    rw [if_pos (by decide),lookup_cons];simp
   .exact .inr q
set_option tactic.hygienic true in
theorem mf {l:List (Str×Addr)}{x:Str}{c:Addr}(h:l.lookup x=some c):(x,c)∈l:=by
 induction l with
 |nil=>cases h
 |cons p r ih=>
  obtain ⟨y,d⟩:=p
  rw [lookup_cons] at h
  split at h
  .rename_i hy
   cases h
   rw [beq_iff_eq.mp hy];exact mem_cons_self
  .exact mem_cons_of_mem _ (ih h)
noncomputable def ix (scope outer:Scope):Scope:=
 {scope with names:=scope.names.map fun (n,k)=>if (k==.free&&outer.kind==.function&&outer.names.lookup n==some .cell) then (n,.cell) else (n,k)}
noncomputable def rO (xc:Option Str)(c:Addr):List (Str×Addr):=match xc with
 |none=>[]
 |some y=>[(y,c)]
theorem nR {xc:Option Str}{c d:Addr}{r:List (Str×Addr)}{y:Str}(h:(rO xc c++r).lookup y=some d):(xc=some y/\d=c)\/r.lookup y=some d:=by
 cases xc with
 |none=>exact .inr h
 |some z=>
  rw [show rO (some z) c++r=(z,c)::r from rfl,lookup_cons] at h
  cases q:y==z with
  |true=>rw [q] at h;cases h;exact .inl ⟨by rw [beq_iff_eq.mp q],rfl⟩
  |false=>rw [q] at h;exact .inr h
theorem vG {y:Str}{c:Addr}{r:List (Str×Addr)}:(rO (some y) c++r).lookup y=some c:=by
 rw [show rO (some y) c++r=(y,c)::r from rfl,lookup_cons,beq_self_eq_true]
theorem wK {xc:Option Str}{c:Addr}{r:List (Str×Addr)}{y:Str}(h:xc≠some y):(rO xc c++r).lookup y=r.lookup y:=by
 cases xc with
 |none=>rfl
 |some z=>
  rw [show rO (some z) c++r=(z,c)::r from rfl,lookup_cons]
  cases q:y==z with
  |true=>exact absurd (congrArg some (beq_iff_eq.mp q).symm) h
  |false=>rfl
theorem vH {xc:Option Str}{c:Addr}{q:Str×Addr}(h:q∈rO xc c):∃y,xc=some y/\q=(y,c):=by
 cases xc with
 |none=>cases h
 |some z=>exact ⟨z,rfl,ae h⟩
theorem fw {prog:Program}{w:World}{A:Around}{E:Value->Shared->Prop}{s:Shared}{l:Addr}{items:Array Value}{n:Nat}{x:Value}{Q:Value->Shared->Prop}(hl:IsL s.heap l items n)
  (h:Q .none {s with heap:=s.heap.update l (Obj.mapSeq fun a=>a.push x)})(hsz:items.size<=sizeLine):wpAny (model prog w) A (call (.builtin "list.append") [.ref l,x]) Q E s:=by
 refine wpAny_call_entry slot_list_append ⟨_,hl,rfl⟩ entry_list_append ?_ (args_list_append _ _)
 show wpAny _ _ (updateSeq l (·.push x) >>=fun _=>ret .none) _ _ s
 refine wpAny_bind ?_
 exact wpAny_updateSeq hl rfl (wpAny_pure ⟨.none,rfl,h⟩)
theorem qN {M:Model}{A:Around}{E:Value->Shared->Prop}{s:Shared}{scope:Scope}{g:Addr}{cl:List (Str×Addr)}{qual:Str}{env:Env}{Q:Env->Shared->Prop}
  (h:Q (newEnv scope s.heap.objs.size g (cellsFrom (s.heap.objs.size+1) scope.names cl) qual none .none (some env) builtinsNs) {s with heap:=pushCells (s.heap.push {cls:=.type "dict",data:=.dict #[]}) scope.names}):
  wpAny M A (newFunctionEnv scope g cl [] qual none .none (some env)) Q E s:=by
 simp only [newFunctionEnv,Option.isSome_some,if_true]
 refine wpAny_bind (wpAny_alloc ?_)
 refine wpAny_bind (wpAny_layCells _ (fun name kind cells=>by cases hkc:kind==NameKind.cell<;>simp [hkc]) _ _ _ _ ?_)
 rw [show ({s with heap:=s.heap.push {cls:=.type "dict",data:=.dict #[]}}:Shared).heap.objs.size=s.heap.objs.size+1 from Heap.size_push ..]
 simp only [List.forIn_nil]
 exact wpAny_bind (wpAny_pure (wpAny_pure h))
noncomputable def oH (xc:Option Str):List (Str×NameKind)->Bool
 | []=>xc.isNone
 | (n,k)::r=>if k==.cell then xc==some n&&oH none r else oH xc r
theorem oG:∀{names:List (Str×NameKind)} {xc:Option Str},oH xc names=true->(∀n acc,cellsFrom n names acc=rO xc n++acc)/\∀h:Heap,(∀a o,h.get? a=some o->(pushCells h names).get? a=some o)/\∀y,xc=some y->(pushCells h names).IsCell h.objs.size none
 | [],xc,hr=>by
  cases xc with
  |none=>exact ⟨fun _ _=>rfl,fun _=>⟨fun _ _ e=>e,fun _ q=>by cases q⟩⟩
  |some _=>cases hr
 | (x,k)::r,xc,hr=>by
  unfold oH at hr
  unfold cellsFrom pushCells
  by_cases hk:(k==NameKind.cell)=true
  .rw [if_pos hk,and_eq_true] at hr
   obtain ⟨i1,i2⟩:=oG hr.2
   obtain rfl:=beq_iff_eq.mp hr.1
   simp only [hk,if_true]
   exact ⟨fun n acc=>i1 _ _,fun h=>⟨fun a o e=>(i2 _).1 a o (Heap.get?_push_of_some _ e),fun _ _=>⟨_,(i2 _).1 _ _ (Heap.get?_push_size _ rfl),rfl⟩⟩⟩
  .rw [if_neg hk] at hr
   simp only [hk,Bool.false_eq_true,if_false]
   exact oG hr
noncomputable def kB (x:Str):Option (Str×NameKind)->Bool
 |some (y,k)=>y==x&&(k==.cell||k==.free)
 |none=>false
theorem CQ {x:Str}{e:Option (Str×NameKind)}(h:kB x e=true):∃k:NameKind,e=some (x,k)/\(k=.cell\/k=.free):=by
 cases e with
 |none=>cases h
 |some p=>
  obtain ⟨y,k⟩:=p
  simp only [kB,and_eq_true,or_eq_true,beq_iff_eq] at h
  obtain ⟨rfl,hk⟩:=h
  exact ⟨k,rfl,hk⟩
noncomputable def CY (B:b7)(tab:List (Option (Str×NameKind)))(scope:Scope)(i:Nat)(xc:Option Str):Bool:=
 scope.kind==.function&&scope.names.all (fun x=>!(x.2==.local)||scope.names.lookup x.1==some .local)&&oH xc scope.names&&b7.ok ⟨ix scope B.sc,tab⟩&&
 scope.names.all (fun x=>!(x.2==.free)||(!(xc==some x.1)&&B.tab.any (kB x.1)))&&
 (List.range tab.length).all (fun j=>match tab[j]? with
  |some (some (x,k))=>if k==.cell||k==.free then (xc==some x&&Nat.beq j i)||(scope.names.contains (x,.free)&&kB x (B.tab[j]?.getD none)) else Nat.beq j i
  |_=>true)
structure eV (B Bc:b7) (scope:Scope) (i:Nat) (xc:Option Str):Prop where
 kind:scope.kind=.function
 names:∀x∈scope.names,x.2=.local->scope.names.lookup x.1=some .local
 cells:(∀n acc,cellsFrom n scope.names acc=rO xc n++acc)/\∀h:Heap,(∀a o,h.get? a=some o->(pushCells h scope.names).get? a=some o)/\∀y,xc=some y->(pushCells h scope.names).IsCell h.objs.size none
 ok:Bc.ok=true
 sc:Bc.sc=ix scope B.sc
 free:∀x,(x,NameKind.free)∈scope.names->xc≠some x/\∃(j:Nat) (k:NameKind),B.tab[j]?=some (some (x,k))/\(k=.cell\/k=.free)
 tab:∀(j:Nat) (x:Str) (k:NameKind),Bc.tab[j]?=some (some (x,k))->k=.cell\/k=.free->(xc=some x/\j=i)\/((x,NameKind.free)∈scope.names/\∃k':NameKind,B.tab[j]?=some (some (x,k'))/\(k'=.cell\/k'=.free))
 locs:∀(j:Nat) (x:Str),Bc.tab[j]?=some (some (x,.local))->j=i
theorem eV.of {B:b7}{tab:List (Option (Str×NameKind))}{scope:Scope}{i:Nat}{xc:Option Str}(h:CY B tab scope i xc=true):eV B ⟨ix scope B.sc,tab⟩ scope i xc:=by
 have h6:=(dB h)
 have h:=(df h)
 have h5:=(dB h)
 have h:=(df h)
 have h4:=(dB h)
 have h:=(df h)
 have h3:=(dB h)
 have h:=(df h)
 have h2:=(dB h)
 have h1:=(df h)
 have h6:∀(j:Nat) (x:Str) (k:NameKind),tab[j]?=some (some (x,k))->(if k==.cell||k==.free then (xc==some x&&Nat.beq j i)||(scope.names.contains (x,.free)&&kB x (B.tab[j]?.getD none)) else Nat.beq j i)=true:=fun j x k ht=>by
  have:=aI h6 j (bI (ak ht).1)
  rw [ht] at this
  exact this
 refine ⟨beq_iff_eq.mp h1,fun x hx hl=>?_,oG h3,h4,rfl,fun x hx=>?_,fun j x k ht hk=>?_,fun j x ht=>?_⟩
 .have:=aI h2 x hx
  rw [hl] at this
  exact beq_iff_eq.mp this
 .have:=aI h5 (x,.free) hx
  rw [show (!((x,NameKind.free).2==NameKind.free))=false from rfl,Bool.false_or,and_eq_true] at this
  refine ⟨fun q=>?_,?_⟩
  .rw [q,beq_self_eq_true] at this;cases this.1
  .obtain ⟨e,he,hq⟩:=any_eq_true.mp this.2
   obtain ⟨k,rfl,hk⟩:=CQ hq
   obtain ⟨j,hi⟩:=getElem?_of_mem he
   exact ⟨j,k,hi,hk⟩
 .have:=h6 j x k ht
  rewrite [if_pos (by rcases hk with rfl |rfl<;>rfl)] at this
  rw [or_eq_true,and_eq_true,and_eq_true] at this
  rcases this with ⟨a,b⟩ | ⟨a,b⟩
  .exact .inl ⟨beq_iff_eq.mp a,eq_of_beq_eq_true b⟩
  .refine .inr ⟨List.contains_iff_mem.mp a,?_⟩
   cases e:B.tab[j]? with
   |none=>rw [e] at b;cases b
   |some e'=>rw [e] at b;obtain ⟨k',rfl,hk'⟩:=CQ b;exact ⟨k',rfl,hk'⟩
 .have:=h6 j x .local ht
  exact eq_of_beq_eq_true this
section
variable {P:Pg} {B Bc:b7} {C Ci:Ct} {n:Nat} {A:Around} {env cenv:Env} {g g':Gh} {ρ:aW} {σ:Sg} {s s':Shared} {h h':Heap} {scope:Scope} {i:Nat} {xc:Option Str}
theorem eV.out (K:eV B Bc scope i xc)(x:cI P B C env g ρ h)(y:Str)(hy:(y,NameKind.free)∈scope.names):∃c,env.cells.lookup y=some c:=by
 obtain ⟨_,j,k,h1,h2⟩:=K.free y hy
 obtain ⟨c,_,h3,_⟩:=x.cell j y k h1 h2
 exact ⟨c,h3⟩
theorem uR (K:eV B Bc scope i xc){L c:Addr}(x:cI P B C env g ρ h)(hi:i∈C.U)(hn:h'.Ns L fun _=>none)(hc:∀y,xc=some y->h'.IsCell c none)(hL:h.get? L=none)(hcn:h.get? c=none)(w:bN P g h σ)(hk:∀a o,h.get? a=some o->h'.get? a=some o):
  cI P Bc C (compEnvC scope (rO xc c++fq env scope.names []) L env) g ρ h':=by
 have hfree:=K.out x
 have cl:∀y c,(fq env scope.names []).lookup y=some c->env.cells.lookup y=some c:=fun y c hy=>kI scope.names [] hfree (fun _ q=>nomatch q) (y,c) (mf hy)
 have old:∀y,env.cells.lookup y=some c->False:=fun y hy=>(x.own c (mem_cons_of_mem _ (bG hy))).1 hcn
 have kf:aZ g h g h':=⟨fun a f=>⟨f,hk a⟩,rfl⟩
 have no:∀a,h.get? a=none->¬g.F a/\¬g.Z a/\¬g.O a:=fun a e=>⟨fun q=>w.F a q e,fun q=>(w.Z a q).1 e,fun q=>(w.O a q).1 e⟩
 have free:∀{y d},(y,NameKind.free)∈scope.names->env.cells.lookup y=some d->(rO xc c++fq env scope.names []).lookup y=some d:=fun {y d} hm e=>by
  obtain ⟨c',hc'⟩:=aO (oF (env:=env) scope.names [] (.inr hm))
  obtain rfl:c'=d:=Option.some.inj ((cl y c' hc').symm.trans e)
  exact (wK (K.free y hm).1).trans hc'
 refine {ok:=K.ok,sc:=?_,glob:=x.glob,blt:=x.blt,ns:=⟨_,hn⟩,cell:=?_,apart:=?_,own:=?_,var:=?_,un:=x.un}
 .rw [K.sc]
  show relabel scope env=_
  unfold relabel ix Env.kindOf
  rw [x.sc]
 .intro j y k ht hk'
  rcases K.tab j y k ht hk' with ⟨q,_⟩ | ⟨hm,k',h1,h2⟩
  .exact ⟨c,none,q▸vG,hc y q⟩
  .obtain ⟨d,u,c1,o,e,dd⟩:=x.cell j y k' h1 h2
   exact ⟨d,u,free hm c1,o,hk _ _ e,dd⟩
 .intro y z d hy hz
  rcases nR hy with ⟨q,rfl⟩ |hy'
  .rcases nR hz with ⟨q',_⟩ |hz'
   .exact Option.some.inj (q.symm.trans q')
   .exact (old z (cl z _ hz')).elim
  .rcases nR hz with ⟨_,rfl⟩ |hz'
   .exact (old y (cl y _ hy')).elim
   .exact x.apart y z d (cl y d hy') (cl z d hz')
 .intro a ha
  rcases az ha with rfl |ha
  .exact ⟨let ⟨_,_,_,e,_⟩:=hn;ay e,no _ hL⟩
  .obtain ⟨q,hq,rfl⟩:=aT ha
   rcases ah hq with hq |hq
   .obtain ⟨y,hy,rfl⟩:=vH hq
    exact ⟨let ⟨_,e,_⟩:=hc y hy;ay e,no _ hcn⟩
   .have o:=x.own q.2 (mem_cons_of_mem _ (bG (kI scope.names [] hfree (fun _ q=>nomatch q) q hq)))
    refine ⟨?_,o.2⟩
    cases e:h.get? q.2 with
    |none=>exact (o.1 e).elim
    |some ob=>exact ay (hk _ _ e)
 .intro j y t ht hv
  obtain ⟨y,k⟩:=y
  have ji:j≠i:=fun q=>by rw [q,x.un i hi] at hv;cases hv
  have hkk:k=.cell\/k=.free:=(b7.look K.ok ht).2.2.1.resolve_left fun q=>ji (K.locs j y (q▸ht))
  obtain ⟨hm,k',h1,h2⟩:=(K.tab j y k ht hkk).resolve_left fun q=>ji q.2
  obtain ⟨u,v,vo⟩:=x.var j _ t h1 hv
  refine ⟨u,?_,vo.move kf rfl rfl fun a _=>hk a⟩
  cases v with
  |loc z m tz=>rw [h1] at tz;cases tz;rcases h2 with q |q<;>cases q
  |cel z kk d tz hz l nz=>
   rw [h1] at tz;cases tz
   exact .cel y k d ht hkk (free hm l) (let ⟨o,e,dd⟩:=nz;⟨o,hk _ _ e,dd⟩)
noncomputable abbrev eA (P:Pg)(B:b7)(C:Ct)(ifs:List Expr)(p:PT):Prop:=ee P B C (fun A env Q E s=>wpAny P.M A (forIn ifs true fun c r=>if r=true then do let ok <-isTrue c env (eval c env);pure (ForInStep.yield ok) else pure (ForInStep.yield r)) Q E s) p RQ
theorem eA.nil:eA P B C [] aJ:=.now fun _ _ _ _ _ _ _ _ _ _ _ _ hq=>wpAny_tests_nil (hq _ _ _ rfl rfl)
theorem eA.one {e:Expr}{p:PT}(h:cW P B C e p):eA P B C [e] p:=h.map fun _ _ _ _ _=>wpAny_tests_one
theorem cI.less {t:T}(x:cI P B Ci env g (ρ.set i (some t)) h)(hc:oW C i Ci)(un:∀j∈C.U,bV ρ j=none)(hi:i∈C.U):cI P B C env g ρ h:=
 have ne:∀{j v},bV ρ j=some v->j≠i:=fun e q=>by rw [q,un i hi] at e;cases e
 have st:∀{j v},bV ρ j=some v->bV (ρ.set i (some t)) j=some v:=fun {j v} e=>by
  cases q:bV (ρ.set i (some t)) j with
  |none=>
   have:=dT (v:=none) (ne e) q
   rw [set_set,jn (un i hi),e] at this;cases this
  |some u=>exact (i8 q).elim (fun q=>(ne e q.1).elim) fun q=>q.2.symm.trans e▸rfl
 {x with
  var:=fun j y v ht hv=>let ⟨u,h1,h2⟩:=x.var j y v ht (st hv);⟨u,h1,by unfold bW at h2 ⊢;rw [hc.o j (ne hv),hc.m] at h2;exact h2⟩
  un:=un}
end
section
variable {P:Pg} {B Bc:b7} {C Ci C':Ct} {h₀:Heap} {fr:Bool} {n:Nat} {A:Around} {env cenv:Env} {g g':Gh} {ρ:aW} {σ:Sg} {s s':Shared} {h h':Heap} {scope:Scope} {i:Nat} {xc:Option Str} {elt target iter:Expr} {ifs:List Expr} {pos:Pos}
noncomputable abbrev o3 (P:Pg)(g:Gh)(h:Heap)(D:Addr)(acc:List T):Prop:=Am h bO (bm P g h acc) acc.length D
theorem o3.mono {acc:List T}{D:Addr}(a:o3 P g h D acc)(k:aZ g h g' h')(hD:∀o,h.get? D=some o->h'.get? D=some o):o3 P g' h' D acc:=Am.mono a hD fun _=>bm.mono k
theorem mr.p {vol:List Addr}(v:mr g env vol)(l:∀a∈vol,s.heap.get? a≠none)(p:aQ g s g' s'):mr g' env vol/\∀a∈vol,∀o,s.heap.get? a=some o->s'.heap.get? a=some o:=v.post l p.toS
theorem xg {tw:Env->List Addr}{pc:PT}{pe:PE}{I D:Addr}{ts:List T}{vol fx:List Addr}{St:Nat->Gh->Heap->Prop}{k:PK (List T)}{R:Result->Shared->Prop}(T:l7 P A Bc C Ci target (bj i) tw I ts vol fx St)(hc:oW C i Ci)(hi:i∈C.U)(hcond:eA P Bc Ci ifs pc)(hel:av P Bc Ci elt pe (RV P))(hDv:D∉vol++fx):
  ∀(rest:List Mine.T) (j:Nat) (g:Gh) (σ:Sg) (s:Shared) (acc:List Mine.T),j<=ts.length->ts.drop j=rest->acc.length+rest.length<=lim->At P Bc C n A cenv g ρ σ s->mr g cenv (D::(vol++fx))->St j g s.heap->o3 P g s.heap D acc->br (bj i) pc pe (P.cx n) ρ rest σ acc k≠.bad->
   (∀s' g' xs σ',br (bj i) pc pe (P.cx n) ρ rest σ acc k=k xs σ'->cf vol (D::(vol++tw cenv)) g s g' s'->At P Bc C n A cenv g' ρ σ' s'->mr g' cenv [D]->o3 P g' s'.heap D xs->R (.ok .next) s')->
   codeAny P.M A (.compLoop (.ListComp elt [⟨target,iter,ifs,0⟩] scope pos) 0 (.ref I) (.ref D) cenv) R s:=by
 intro rest
 induction rest with
 |nil=>
  intro j g σ s acc hle hd hl X hv st ac hb hq
  obtain rfl:j=ts.length:=le_antisymm hle (List.drop_eq_nil_iff.mp hd)
  refine codeAny_of_tree ?_
  show wpAny P.M A ((compTurn (.ListComp elt [⟨target,iter,ifs,0⟩] scope pos) 0 (.ref I) (.ref D) cenv).onRaise (fun x=>do noteFrame x cenv;theTreesLotGoes x)) _ _ s
  refine wpAny_noted ?_
  rw [compTurn_list]
  have vD:mr g cenv [D]:=fun a ha=>hv a (ae ha▸mem_cons_self)
  refine wpAny_bind (wpAny_standAt (wpAny_bind (wpAny_mono (T.done n cenv g ρ σ s (fun s'=>R (.ok .next) s') (notedBy P.M A cenv fun e s'=>R (.error e) s') X (fun a ha=>hv a (mem_cons_of_mem _ ha)) st fun s' p X'=>?_) (fun r s₁ h1=>?_) fun _ _ h'=>h')))
  .have dn:=hv D mem_cons_self
   exact hq s' g acc σ mJ (p.weak (fun _ h=>h) fun a ha=>mem_cons_of_mem _ (mem_append_left _ ha)) X' vD (ac.mono (p.toS.k X.g fun a ha=>(hv a (mem_cons_of_mem _ (mem_append_left _ ha))).1) fun o e=>p.keep D o e dn.2.1 fun q=>hDv (mem_append_left _ q))
  .cases r with
   |none=>exact wpAny_pure h1
   |some u=>exact h1.elim
 |cons v rest ih=>
  intro j g σ s acc hle hd hl X hv st ac hb hq
  have hiv:ts[j]?=some v:=by rw [<-head?_drop,hd];rfl
  have hi':j < ts.length:=(ak hiv).1
  have hd':ts.drop (j+1)=rest:=by rw [<-List.tail_drop,hd];rfl
  have e1:br (bj i) pc pe (P.cx n) ρ (v::rest) σ acc k=pc (P.cx n) (ρ.set i (some v)) σ fun b σ=>bif b then pe (P.cx n) (ρ.set i (some v)) σ fun x σ=>br (bj i) pc pe (P.cx n) ρ rest σ (acc++[x]) k else br (bj i) pc pe (P.cx n) ρ rest σ acc k:=mL
  rw [e1] at hb hq
  have hvv:mr g cenv (vol++fx):=fun a ha=>hv a (mem_cons_of_mem _ ha)
  have dn:=hv D mem_cons_self
  refine codeAny_of_tree ?_
  show wpAny P.M A ((compTurn (.ListComp elt [⟨target,iter,ifs,0⟩] scope pos) 0 (.ref I) (.ref D) cenv).onRaise (fun x=>do noteFrame x cenv;theTreesLotGoes x)) _ _ s
  refine wpAny_noted ?_
  rw [compTurn_list]
  refine wpAny_bind (wpAny_standAt (wpAny_bind (wpAny_mono (T.item j v n cenv g ρ _ σ s (fun s3=>wpAny P.M A (forIn ifs true fun c r=>if r=true then do let ok <-isTrue c cenv (eval c cenv);pure (ForInStep.yield ok) else pure (ForInStep.yield r)) (fun ok s4=>
     if ok=true then wpAny P.M A (eval elt cenv) (fun x s5=>wpAny P.M A (call (.builtin "list.append") [.ref D,x]) (fun _ s6=>codeAny P.M A (.compLoop (.ListComp elt [⟨target,iter,ifs,0⟩] scope pos) 0 (.ref I) (.ref D) cenv) R s6) (notedBy P.M A cenv fun e s'=>R (.error e) s') s5) (notedBy P.M A cenv fun e s'=>R (.error e) s') s4
     else codeAny P.M A (.compLoop (.ListComp elt [⟨target,iter,ifs,0⟩] scope pos) 0 (.ref I) (.ref D) cenv) R s4) (notedBy P.M A cenv fun e s'=>R (.error e) s') s3)
    (notedBy P.M A cenv fun e s'=>R (.error e) s') hiv X hvv st rfl fun s3 p3 X3 st3=>?_) (fun r s₁ h1=>?_) fun _ _ h'=>h')))
  .have nW:∀a∈vol++tw cenv,¬g.F a:=fun a ha=>(ah ha).elim (fun h=>(hvv a (mem_append_left _ h)).1) fun h=>(X.env.own a (T.sub cenv a h)).2.1
   have ac3:o3 P g s3.heap D acc:=ac.mono (p3.toS.k X.g nW) fun o e=>p3.keep D o e dn.2.1 fun q=>(ah q).elim (fun q=>hDv (mem_append_left _ q)) fun q=>dn.2.2.2 (T.sub cenv D q)
   have lv:∀{g s i},St i g s->o3 P g s D acc->∀a∈D::(vol++fx),s.get? a≠none:=fun st ac a ha=>(az ha).elim (fun q=>q▸let ⟨_,_,e,_,_⟩:=ac;ay e) (T.here _ _ _ st a)
   have pw:cf [] (D::(vol++tw cenv)) g s g s3:=p3.weak (fun _ h=>h) fun a=>mem_cons_of_mem _
   refine hcond n A cenv g (ρ.set i (some v)) σ s3 _ _ _ X3 hb fun b s4 g4 b' σ₄ e4 p4 w4 r4=>?_
   cases r4
   rw [e4] at hb hq
   have X4:=X3.post p4 w4
   obtain ⟨v4,k4⟩:=hv.p (lv st3 ac3) p4
   have st4:=T.stay _ _ _ _ _ st3 (p4.k X3.g) fun a ha=>k4 a (mem_cons_of_mem _ ha)
   have ac4:=ac3.mono (p4.k X3.g) (k4 D mem_cons_self)
   have p04:=pw.trans p4.toE
   have un:=X.env.un
   cases b with
   |false=>
    rw [if_neg (by decide)]
    exact ih (j+1) g4 σ₄ s4 acc hi' hd' (Nat.le_of_succ_le hl) ⟨X.good,X.call,X.room,X4.env.less hc un hi,w4⟩ v4 st4 ac4 hb fun s' g' xs σ' q1 q2 q3 q4 q5=>hq s' g' xs σ' q1 (p04.trans q2) q3 q4 q5
   |true=>
    rw [if_pos rfl]
    refine hel n A cenv g4 (ρ.set i (some v)) σ₄ s4 _ _ _ X4 hb fun x s5 g5 t σ₅ e5 p5 w5 r5=>?_
    rw [show (bif true then pe (P.cx n) (ρ.set i (some v)) σ₄ fun x σ=>br (bj i) pc pe (P.cx n) ρ rest σ (acc++[x]) k else br (bj i) pc pe (P.cx n) ρ rest σ₄ acc k)=_ from e5] at hb hq
    have X5:=X4.post p5 w5
    obtain ⟨v5,k5⟩:=v4.p (lv st4 ac4) p5
    have st5:=T.stay _ _ _ _ _ st4 (p5.k X4.g) fun a ha=>k5 a (mem_cons_of_mem _ ha)
    obtain ⟨ys,m,d1,d2,d3⟩:=ac4.mono (p5.k X4.g) (k5 D mem_cons_self)
    refine fw d1 ?_ (bD (d3.size▸d2))
    have hs:=Heap.SameBut.update s5.heap D (Obj.mapSeq fun a=>a.push x)
    have d1':=IsL.update d1 (fun a=>a.push x)
    obtain ⟨p6,X6⟩:=eE (vol:=[D]) (h':=s5.heap.update D (Obj.mapSeq fun a=>a.push x)) X5 (fun a ha=>v5 a (ae ha▸mem_cons_self)) (fun a o e q=>(hs.2 a fun z=>q (z▸aE rfl)).trans e) s5.toks
    have kf:=p6.toS.k X5.g fun a ha=>(v5 a (ae ha▸mem_cons_self)).1
    have p06:=(p04.trans p5.toE).trans ((fB p6 fun a ha=>by rw [ae ha];exact ay d1').weak (fun _ h=>h) fun a ha=>ae ha▸mem_cons_self)
    refine ih (j+1) g5 σ₅ _ (acc++[t]) hi' hd' (by rw [List.length_append];exact le_trans (le_of_eq (by rw [List.length_singleton,length_cons,add_assoc,add_comm 1])) hl) ⟨X.good,X.call,X.room,X6.env.less hc un hi,X6.g⟩ v5 (T.stay _ _ _ _ _ st5 kf fun a ha o e=>(hs.2 a fun q=>hDv (q▸ha)).trans e) ⟨_,_,d1',?_,?_⟩ hb fun s' g' xs σ' q1 q2 q3 q4 q5=>hq s' g' xs σ' q1 (p06.trans q2) q3 q4 q5
    .rw [List.length_append];exact le_trans (add_le_add_left (show 1<=rest.length+1 from succ_le_succ (zero_le _)) _) hl
    .rw [Array.toList_push]
     exact bm.append (bm.cons (Rp.mono kf r5) bm.nil) (d3.mono kf)
  .cases r with
   |none=>exact h1.elim
   |some u=>
    refine wpAny_bind (wpAny_mono h1 (fun _ s2 h2=>wpAny_bind (wpAny_mono h2 (fun _ s3 h3=>wpAny_bind (wpAny_mono h3 (fun ok s4 h4=>?_) fun _ _ h'=>h')) fun _ _ h'=>h')) fun _ _ h'=>h')
    cases ok with
    |false=>exact wpAny_pure ⟨rfl,h4⟩
    |true=>
     rw [if_pos rfl] at h4 ⊢
     exact wpAny_bind (wpAny_bind (wpAny_mono h4 (fun x s5 h5=>wpAny_bind (wpAny_mono h5 (fun _ s6 h6=>wpAny_pure (wpAny_pure ⟨rfl,h6⟩)) fun _ _ h'=>h')) fun _ _ h'=>h'))
theorem uT (K:eV B Bc scope i xc)(H:Heap):(pushCells (H.push {cls:=.type "dict",data:=.dict #[]}) scope.names).Ns H.objs.size (fun _=>none)/\
  (∀y,xc=some y->(pushCells (H.push {cls:=.type "dict",data:=.dict #[]}) scope.names).IsCell (H.objs.size+1) none)/\H.get? (H.objs.size+1)=none/\∀a o,H.get? a=some o->(pushCells (H.push {cls:=.type "dict",data:=.dict #[]}) scope.names).get? a=some o:=by
 obtain ⟨k,c⟩:=K.cells.2 (H.push {cls:=.type "dict",data:=.dict #[]})
 have sz:(H.push {cls:=.type "dict",data:=.dict #[]}).objs.size=H.objs.size+1:=Heap.size_push ..
 rw [sz] at c
 refine ⟨(Heap.Ns.new H (.type "dict")).keeps k,c,?_,fun a o e=>k a o (Heap.get?_push_of_some _ e)⟩
 cases q:H.get? (H.objs.size+1) with
 |none=>rfl
 |some o=>
  have:=Heap.get?_push_of_some {cls:=.type "dict",data:=.dict #[]} q
  rw [<-sz,aR] at this;cases this
noncomputable def m6:Option Str->Env->List Addr
 |none=>fun env=>[env.locals]
 |some x=>Cw .cell x
theorem AF {c:Addr}{r:List (Str×Addr)}{L:Addr}:∀a∈m6 xc (compEnvC scope (rO xc c++r) L env),a=L\/a=c:=fun a ha=>by
 cases xc with
 |none=>exact .inl (ae ha)
 |some x=>
  have h:a∈((rO (some x) c++r).lookup x).toList:=ha
  rw [vG] at h
  exact .inr (ae h)
theorem oC {pos':Pos}{pi:PL}{pc:PT}{pe:PE}{use:Option (Value->Sem Unit)}{k:PK T}{Q:Value->Shared->Prop}{E:Value->Shared->Prop}(K:eV B Bc scope i xc)(hi:i∈C.U)(hc:oW C i Ci)(hI:C7 P B C n A env g ρ σ s iter (Ao P Bc C Ci target (bj i) (m6 xc)) pi)(hcond:eA P Bc Ci ifs pc)(hel:av P Bc Ci elt pe (RV P))(hs:∀env x,foldedSetIterable iter env x=pure x)
  (X:At P B C n A env g ρ σ s)(hb:aV pi (bj i) pc pe (P.cx n) ρ σ k≠.bad)
  (ok:∀D L s' g' xs σ' m,aV pi (bj i) pc pe (P.cx n) ρ σ k=k (.lst xs) σ'->aQ g s g' s'->bN P g' s'.heap σ'->Cj P s.heap g' s'.heap (.lst xs) (.ref D)->s.heap.get? L=none->(¬g'.F L/\¬g'.Z L/\¬g'.O L)->D≠L->s'.heap.Ns L m->compPost P.M A E use Q (.ref D) L (.ok .next) s'):
  wpAny P.M A (comprehension (.ListComp elt [⟨target,iter,ifs,0⟩] scope pos) scope env pos' (newList []) false (eval iter env) use) Q E s:=by
 refine wpAny_comprehension_free (use:=use) rfl (hs env) (jE (K.out X.env)) K.kind K.names ?_
 refine hI (fun xs σ=>br (bj i) pc pe (P.cx n) ρ xs σ [] fun ys σ=>k (.lst ys) σ) _ _ X hb fun s₁ g1 ts σ₁ I vol fx St ea p1 w1 T st hv hx hl=>?_
 have hb1:=fun q=>hb (ea.trans q)
 have X1:=X.post p1 w1
 refine wpAny_newList (qN ?_)
 rw [K.cells.1]
 have p2:aQ g1 s₁ g1 {s₁ with heap:=s₁.heap.push (bO #[] 0),toks:=s₁.toks}:=.push _ _
 have w2:bN P g1 (s₁.heap.push (bO #[] 0)) σ₁:=w1.push _
 have hD2:=ch (h:=s₁.heap) (bO #[] 0)
 have hDn:s₁.heap.get? s₁.heap.objs.size=none:=aR _
 obtain ⟨nf,nz,no⟩:=eB w1
 show codeAny P.M A _ _ {s₁ with heap:=pushCells ((s₁.heap.push (bO #[] 0)).push {cls:=.type "dict",data:=.dict #[]}) scope.names}
 generalize s₁.heap.objs.size=D at *
 generalize s₁.heap.push (bO #[] 0)=H2 at p2 w2 hD2 ⊢
 obtain ⟨hn3,hc3,hcn,k3⟩:=uT K H2
 have hCn:H2.get? H2.objs.size=none:=aR _
 generalize pushCells (H2.push {cls:=.type "dict",data:=.dict #[]}) scope.names=h3 at hn3 hc3 k3 ⊢
 generalize H2.objs.size+1=c at *
 generalize H2.objs.size=L at *
 have x2:=X1.env.post w1 p2
 have envc:=uR K x2 hi hn3 hc3 hCn hcn w2 k3
 have w3:bN P g1 h3 σ₁:=w2.grow k3 g1.F (fun _ h=>h) fun _ h=>.inl h
 have p3:aQ g1 s₁ g1 {s₁ with heap:=h3,toks:=s₁.toks}:=p2.trans (.grow (s:={s₁ with heap:=H2,toks:=s₁.toks}) s₁.toks k3 g1.F (fun _ h=>h) fun _ h=>.inl h)
 have hown:∀a∈own (compEnvC scope (rO xc c++fq env scope.names []) L env),H2.get? a=none\/a∈own env:=fun a ha=>by
  rcases az ha with rfl |h
  .exact .inl hCn
  .obtain ⟨q,hq,rfl⟩:=aT h
   rcases ah hq with hq |hq
   .obtain ⟨_,_,rfl⟩:=vH hq;exact .inl hcn
   .exact .inr (mem_cons_of_mem _ (bG (kI scope.names [] (K.out X.env) (fun _ q=>nomatch q) q hq)))
 have hvl:=T.here _ _ _ st
 have hvol:mr g1 (compEnvC scope (rO xc c++fq env scope.names []) L env) (D::(vol++fx)):=fun a ha=>by
  rcases az ha with rfl |ha
  .exact ⟨nf,nz,no,fun q=>(hown a q).elim (ay hD2) fun q=>(X1.env.own a q).1 hDn⟩
  .have hl:=hvl a ha
   rcases ah ha with ha |ha
   .exact ⟨(hv a ha).2.1,(hv a ha).2.2,fun q=>(X.g.O a (let ⟨i,q⟩:=q;⟨i,p1.o▸q⟩)).1 (hv a ha).1,fun q=>(hown a q).elim (fun z=>hl (p2.back a z)) fun q=>(X.env.own a q).1 (hv a ha).1⟩
   .exact ⟨(hx a ha).1,(hx a ha).2.1,(hx a ha).2.2.1,fun q=>(hown a q).elim (fun z=>hl (p2.back a z)) (hx a ha).2.2.2⟩
 have st3:=T.stay _ _ _ _ _ st (p3.k w1) fun a ha o e=>p3.keep a o e (hvol a (mem_cons_of_mem _ ha)).2.1
 refine (fun loop=>codeAny_compStart_list loop (T.self 0 g1 _ _ _ st3 loop):codeAny P.M A (.compLoop (.ListComp elt [⟨target,iter,ifs,0⟩] scope pos) 0 (.ref I) (.ref D) (compEnvC scope (rO xc c++fq env scope.names []) L env)) (compPost P.M A E use Q (.ref D) L) {s₁ with heap:=h3,toks:=s₁.toks}->_) ?_
 have htw:=AF (xc:=xc) (c:=c) (r:=fq env scope.names []) (scope:=scope) (L:=L) (env:=env)
 have hl':(compEnvC scope (rO xc c++fq env scope.names []) L env).locals=L:=rfl
 generalize compEnvC scope (rO xc c++fq env scope.names []) L env=cenv at *
 have X3:At P Bc C n A cenv g1 ρ σ₁ {s₁ with heap:=h3,toks:=s₁.toks}:=⟨X.good,X.call,X.room,envc,w3⟩
 refine xg T hc hi hcond hel (fun q=>hvl D q hDn) ts 0 g1 σ₁ _ [] (zero_le _) rfl (by rw [length_nil,zero_add];exact hl) X3 hvol st3 ⟨_,_,k3 _ _ hD2,zero_le _,rfl⟩ hb1 fun s' g' xs σ' q1 q2 q3 q4 q5=>?_
 have fr:∀{a},H2.get? a=none->s₁.heap.get? a=none:=fun h=>p2.back _ h
 have pe:aQ g s g' s':=(((p1.trans p3).toE (W:=D::(vol++m6 xc cenv))).trans q2).toP (fun a ha=>by
  rcases az ha with rfl |ha
  .exact p1.back _ hDn
  .rcases ah ha with ha |ha
   .exact (hv a ha).1
   .rcases htw a ha with rfl |rfl
    .exact p1.back _ (fr hCn)
    .exact p1.back _ (fr hcn)) fun a ha=>(hv a ha).1
 obtain ⟨m,hm⟩:=q3.env.ns
 have nD:=q4 D (aE rfl)
 exact ok D L s' g' xs σ' m (ea.trans q1) pe q3.g ⟨D,rfl,p1.back _ hDn,nD.1,nD.2.1,nD.2.2.1,q5⟩ (p1.back _ (fr hCn)) (let o:=q3.env.own L (hl'▸mem_cons_self);⟨o.2.1,o.2.2.1,o.2.2.2⟩) (fun q=>ay hD2 (q▸hCn)) (hl'▸hm)
theorem aQ.scrap {L:Addr}(p:aQ g s g' s')(hL:s.heap.get? L=none)(hs:∀b,b≠L->h'.get? b=s'.heap.get? b):aQ g s g' {s' with heap:=h'}:=
 ⟨St.trans p.st ⟨h',s'.toks,rfl⟩,fun a o e z=>(hs a fun q=>ay e (q▸hL)).trans (p.keep a o e z),fun a e=>by
  by_cases q:a=L
  .exact q▸hL
  .exact p.back a ((hs a q).symm.trans e),p.F,p.Fn,p.Zn,p.o,p.sp,p.sa⟩
theorem bN.scrap {L:Addr}(w:bN P g h σ)(hL:¬g.F L/\¬g.Z L/\¬g.O L)(hs:∀b,b≠L->h'.get? b=h.get? b):bN P g h' σ/\aZ g h g h':=by
 have k:∀a,g.F a\/g.Z a\/g.O a->h'.get? a=h.get? a:=fun a q=>hs a fun e=>q.elim (e▸hL.1) fun q=>q.elim (e▸hL.2.1) (e▸hL.2.2)
 have kf:aZ g h g h':=⟨fun a f=>⟨f,fun o e=>(k a (.inl f)).trans e⟩,rfl⟩
 exact ⟨⟨fun a o e=>⟨(w.base a o e).1,(k a (.inl (w.base a o e).1)).trans (w.base a o e).2⟩,fun a f=>by rw [k a (.inl f)];exact w.F a f,fun a z=>by rw [k a (.inr (.inl z))];exact w.Z a z,fun a z=>by rw [k a (.inr (.inr z))];exact w.O a z,w.oo,
  ⟨let ⟨t,n,e⟩:=w.spot.1;⟨t,n,(k _ (.inr (.inl w.spot.2.1))).trans e⟩,w.spot.2⟩,fun c ts e=>(w.self c ts e).mono kf (fun a z=>⟨z,fun o e=>(k a (.inr (.inl z))).trans e⟩) rfl⟩,kf⟩
theorem Cj.scrap {L D:Addr}{t:T}(r:Cj P h₀ g h t (.ref D))(kf:aZ g h g h')(hD:D≠L)(hs:∀b,b≠L->h'.get? b=h.get? b):Cj P h₀ g h' t (.ref D):=by
 obtain ⟨a,e,n,f,z,o,r⟩:=r
 cases e
 exact ⟨D,rfl,n,f,z,o,r.mono kf fun o e=>(hs D hD).trans e⟩
theorem av.comp {pi:PL}{pc:PT}{pe:PE}(K:eV B Bc scope i xc)(hi:C.U.any (Nat.beq i)=true)(hc:cQ C i false Ci=true)(hI:gu P B C iter (Ao P Bc C Ci target (bj i) (m6 xc)) pi)(hcond:eA P Bc Ci ifs pc)(hel:av P Bc Ci elt pe (RV P))(hs:∀env x,foldedSetIterable iter env x=pure x):
  av P B C (.ListComp elt [⟨target,iter,ifs,0⟩] scope pos) (aV pi (bj i) pc pe) (RN P):=fun n A env g ρ σ s k Q E X hb hq=>by
 show wpAny P.M A (eval _ env) Q E s
 rw [eval_ListComp]
 refine oC K (kQ hi) (fg hc).1 (hI n A env g ρ σ s) hcond hel hs X hb fun D L s' g' xs σ' m e p w r hL nL hDL hn=>⟨m,hn,fun h' hsb=>?_⟩
 obtain ⟨w',kf⟩:=w.scrap nL hsb.2
 exact hq _ _ g' _ σ' e (p.scrap hL hsb.2) w' (r.scrap kf hDL hsb.2)
end
section
variable {P:Pg} {B Bc:b7} {C Ci C':Ct} {fr:Bool} {n:Nat} {A:Around} {env:Env} {g g':Gh} {ρ:aW} {σ:Sg} {s s':Shared} {h h':Heap} {scope:Scope} {i j:Nat} {xc:Option Str} {elt target iter:Expr} {ifs:List Expr} {pos px spos:Pos} {y:Str}
theorem be.scrap {L:Addr}{W:List Addr}(p:be [] W g s g' s')(hL:s.heap.get? L=none)(hs:∀b,b≠L->h'.get? b=s'.heap.get? b):be [] W g s g' {s' with heap:=h'}:=
 {p with
  st:=St.trans p.st ⟨h',s'.toks,rfl⟩
  keep:=fun a o e z q w=>(hs a fun q=>ay e (q▸hL)).trans (p.keep a o e z q w)
  back:=fun a v e=>by
   by_cases q:a=L
   .exact q▸hL
   .exact p.back a v ((hs a q).symm.trans e)}
theorem tt {L:Addr}{m:Str->Option Value}{g2:Gh}{ρ₂:aW}{σ':Sg}{s2:Shared}{Q:Flow->Shared->Prop}(p:be [] (own env) g s g2 s2)(X:At P B C' n A env g2 ρ₂ σ' s2)(hn:s2.heap.Ns L m)(hL:s.heap.get? L=none)(nL:¬g2.F L/\¬g2.Z L/\¬g2.O L)(hLo:L∉own env)
  (hq:∀s',be [] (own env) g s g2 s'->At P B C' n A env g2 ρ₂ σ' s'->Q .next s'):∃m,s2.heap.Ns L m/\∀h',Heap.SameBut L s2.heap h'->Q .next {s2 with heap:=h'}:=
 ⟨m,hn,fun h' hs=>hq _ (p.scrap hL hs.2) (eE (vol:=[L]) X (fun a ha=>by rw [ae ha];exact ⟨nL.1,nL.2.1,nL.2.2,hLo⟩) (fun a o e q=>(hs.2 a fun z=>q (z▸aE rfl)).trans e) s2.toks).2⟩
theorem aX.setCompG {pi:PL}{pc:PT}{pe:PE}(o:Bool)(ho:cQ C j o C'=true)(ht:B.tab[j]?=some (some (y,.local)))(hw:xA (.ListComp elt [⟨target,iter,ifs,0⟩] scope pos) y px spos.line B.sc=true)(K:eV B Bc scope i xc)(hi:C.U.any (Nat.beq i)=true)(hc:cQ C i false Ci=true)(hI:gu P B C iter (Ao P Bc C Ci target (bj i) (m6 xc)) pi)(hcond:eA P Bc Ci ifs pc)(hel:av P Bc Ci elt pe (RV P))(hs:∀env x,foldedSetIterable iter env x=pure x):
  aX P B C fr C' (.Assign [.Name y px] (.ListComp elt [⟨target,iter,ifs,0⟩] scope pos) spos) (aG j (aV pi (bj i) pc pe)):=fun n A env g ρ σ s k Q E X hb hq hr=>by
 show wpAny P.M A (exec _ env) Q E s
 rw [exec_Assign_Name_used _ _ _ _ (by rw [lc X.env.sc,hw])]
 refine wpAny_bind (wpAny_standAt (wpAny_bind ?_))
 show wpAny _ A (do let _ <-comprehension (.ListComp elt [⟨target,iter,ifs,0⟩] scope pos) scope env _ (newList []) false (eval iter env) (some (assign (.Name y px) env))) _ _ s
 refine wpAny_bind (wpAny_mono (oC (Q:=fun _ s'=>Q .next s') (E:=E) (k:=fun v σ=>k (ρ.set j (some v)) σ) (use:=some (assign (.Name y px) env)) K (kQ hi) (fg hc).1 (hI n A env g ρ σ s) hcond hel hs X hb fun D L s' g' xs σ' m e p w r hL nL hDL hn=>?_) (fun _ s' hq=>wpAny_pure (wpAny_pure hq)) fun _ _ e=>e)
 have X1:=X.post p w
 have hLo:L∉own env:=fun q=>(X.env.own L q).1 hL
 show wpAny _ A (assign (.Name y px) env (.ref D)) _ _ s'
 obtain ⟨D',eD,nD,f,z,o',r⟩:=r
 cases eD
 obtain ⟨hs',hO⟩:=fg ho
 have nl:∀{s2 g2},cf [] (Cw .local y env) g2 s' g2 s2->g2.Z=g'.Z->s2.heap.Ns L m:=fun p2 ez=>hn.at fun o e=>p2.keep L o e (by rw [ez];exact nL.2.1) fun q=>hLo (dN L q)
 cases o with
 |false=>
  have kf:aZ g' s'.heap {g' with F:=fun y=>g'.F y\/y=D} s'.heap:=⟨fun b f=>⟨.inl f,fun _ e=>e⟩,rfl⟩
  have pz:aQ g s {g' with F:=fun y=>g'.F y\/y=D} s':=⟨p.st,p.keep,p.back,fun b f=>.inl (p.F b f),fun b f=>f.elim (p.Fn b) fun e=>.inr (e▸nD),p.Zn,p.o,p.sp,p.sa⟩
  refine wpAny_assign_Name (i4 (X.post pz (w.freeze r.live z o')) ho ht (.inl rfl) (t:=.lst xs) ((r.mono kf fun _ e=>e).rp (.inr rfl)) fun s2 p2 X2=>?_)
  exact tt (pz.toS.trans (p2.toS.weak dN)) X2 (nl p2 rfl) hL ⟨fun q=>q.elim nL.1 (Ne.symm hDL),nL.2⟩ hLo fun s' p' X'=>hq s' _ _ σ' e p' X'
 |true=>
  have ow:∀b∈own env,¬(g'.put j (some D)).O b:=fun b hb q=>(j4 q).elim (fun q=>(X.env.own b hb).1 (Option.some.inj q▸nD)) fun ⟨j,_,q⟩=>(X1.env.own b hb).2.2.2 ⟨j,q⟩
  have pa:be [] (own env) g s (g'.put j (some D)) s':={(p.toS:be [] (own env) g s g' s') with On:=fun b q=>(j4 q).elim (fun q=>.inr (Option.some.inj q▸nD)) fun ⟨j,_,q⟩=>.inl ⟨j,p.o▸q⟩}
  have X2:At P B C' n A env (g'.put j (some D)) (ρ.set j none) σ' s':=⟨X.good,X.call,X.room,X1.env.forget hs' (jx g' j _) ow,w.put fun b q=>Option.some.inj q▸⟨r.live,f,z,o'⟩⟩
  refine wpAny_assign_Name (jV X2 hs'.nu ht (.inl rfl) (t:=.lst xs) (by unfold bW;rw [hO];exact ⟨D,rfl,iz ..,r.mono ((jx g' j _).k _) fun _ e=>e⟩) fun s2 p2 X3 _=>?_)
  rw [set_set] at X3
  exact tt (pa.trans (p2.toS.weak dN)) X3 (nl p2 rfl) hL ⟨nL.1,nL.2.1,fun q=>(j4 q).elim (fun q=>hDL (Option.some.inj q)) fun ⟨j,_,q⟩=>nL.2.2 ⟨j,q⟩⟩ hLo fun s' p' X'=>hq s' _ _ σ' e p' X'
end
section
variable {P:Pg} {B:b7} {C:Ct}
theorem vK {k:Nat}(h:k<=lim):(k:Int) < 2 ^ 63:=Int.lt_of_le_of_lt (b9 h) (by decide)
noncomputable abbrev Bf (P:Pg)(id:Value):W1 Value:=EH P fun x=>PySem.call id [x]
theorem yP:Ax P (Bf P (.builtin "len")) ba (RV P):=fun A env g σ s x t y Q E rm w q e hq=>by
 have one:∀{l:Addr} {items:Array Value} {k:Nat},s.heap.IsList l items->items.size<=lim->items.size=k->y=.int k->wpAny P.M A (PySem.call (.builtin "len") [.ref l]) Q E s:=fun hl h1 h2 h3=>Calls.call_len_list hl (vK h1) (by rw [h2];exact dg w (h3▸hq))
 unfold ba at e
 cases e1:ir t with
 |some ts=>
  rw [e1] at e
  rcases q.sq e1 with ⟨a,vs,n,rfl,h1,l,r⟩ | ⟨a,vs,n,rfl,h1,l,r⟩
  .cases e
   refine PySem.P.len_tuple h1 (by have:=vK (r.size▸l);lia -abstractProof) ?_
   rw [r.size];exact dg w hq
  .exact one ⟨_,h1,rfl,n,rfl⟩ (r.size▸l) r.size (Option.some.inj e).symm
 |none=>cases e2:ET t with
  |some ns=>
   rw [e1,e2] at e
   obtain ⟨a,items,rfl,⟨o,g1,g2⟩,b,r⟩:=q.n e2
   exact one ⟨o,(w.base _ _ g1).2,g2⟩ b ((r.rp (P:=P) (g:=g) (h:=s.heap)).size.trans (length_map ..)) (Option.some.inj e).symm
  |none=>
   rw [e1,e2] at e
   obtain ⟨z,e3,e4⟩:=aD e
   obtain ⟨⟨_,h2⟩,p,rfl⟩:=q.s e3
   cases e4
   exact PySem.P.len_str (by have:=vK h2;lia -abstractProof) (dg w hq)
theorem y7 {A:Around}{s:Shared}{E:Value->Shared->Prop}{a:Addr}{o:Obj}(T:BT){Q:Value->Shared->Prop}(e:s.heap.get? a=some o)(hc:o.cls=.type "list")(h:∀tk,Q (.bool (match T with |.list=>true |_=>false)) {s with toks:=tk}):wpAny P.M A (PySem.call (.builtin "isinstance") [.ref a,.type T.id]) Q E s:=by
 cases T with
 |list=>exact IsiPair.list_list e hc (h s.toks)
 |bool=>exact IsiPair.list_bool e hc (h _)
 |int=>exact IsiPair.list_int e hc (h _)
 |str=>exact IsiPair.list_str e hc (h _)
 |tuple=>exact IsiPair.list_tuple e hc (h _)
theorem wZ {A:Around}{s:Shared}{E:Value->Shared->Prop}{Q:Value->Shared->Prop}(T:BT){c:Bool}(h:∀tk,Q (.bool (match T with |.bool |.int=>true |_=>false)) {s with toks:=tk}):wpAny P.M A (PySem.call (.builtin "isinstance") [(.bool c),.type T.id]) Q E s:=by
 cases T with
 |list=>exact IsiPair.bool_list (h _)
 |bool=>exact IsiPair.bool_bool (h s.toks)
 |int=>exact IsiPair.bool_int (h s.toks)
 |str=>exact IsiPair.bool_str (h _)
 |tuple=>exact IsiPair.bool_tuple (h _)
theorem y8 {A:Around}{s:Shared}{E:Value->Shared->Prop}{Q:Value->Shared->Prop}(T:BT){c:Int}{u:Tok}(h:∀tk,Q (.bool (match T with |.int=>true |_=>false)) {s with toks:=tk}):wpAny P.M A (PySem.call (.builtin "isinstance") [(.int c u),.type T.id]) Q E s:=by
 cases T with
 |list=>exact IsiPair.int_list (h _)
 |bool=>exact IsiPair.int_bool (h _)
 |int=>exact IsiPair.int_int (h s.toks)
 |str=>exact IsiPair.int_str (h _)
 |tuple=>exact IsiPair.int_tuple (h _)
theorem y6 {A:Around}{s:Shared}{E:Value->Shared->Prop}{Q:Value->Shared->Prop}(T:BT){c:Str}{u:Tok}(h:∀tk,Q (.bool (match T with |.str=>true |_=>false)) {s with toks:=tk}):wpAny P.M A (PySem.call (.builtin "isinstance") [(.str c u),.type T.id]) Q E s:=by
 cases T with
 |list=>exact IsiPair.str_list (h _)
 |bool=>exact IsiPair.str_bool (h _)
 |int=>exact IsiPair.str_int (h _)
 |str=>exact IsiPair.str_str (h s.toks)
 |tuple=>exact IsiPair.str_tuple (h _)
theorem uI {A:Around}{s:Shared}{E:Value->Shared->Prop}{Q:Value->Shared->Prop}(T:BT){a:Addr}{o:Obj}(e:s.heap.get? a=some o)(hc:o.cls=.type "tuple")(h:∀tk,Q (.bool (match T with |.tuple=>true |_=>false)) {s with toks:=tk}):wpAny P.M A (PySem.call (.builtin "isinstance") [.ref a,.type T.id]) Q E s:=by
 cases T with
 |list=>exact IsiPair.tuple_list e hc (h _)
 |bool=>exact IsiPair.tuple_bool e hc (h _)
 |int=>exact IsiPair.tuple_int e hc (h _)
 |str=>exact IsiPair.tuple_str e hc (h _)
 |tuple=>exact IsiPair.tuple_tuple e hc (h s.toks)
theorem BT.mem (T:BT):T.nm∈jH/\bootBuiltins T.nm=some (.type T.id)/\(T.nm==("__debug__":Str))=false:=by cases T<;>refine ⟨by decide,by decide,by decide⟩
theorem zS {g:Gh}{σ:Sg}{s:Shared}{b:Bool}{tk:Nat}(w:bN P g s.heap σ){Q:Value->Shared->Prop}(hq:∀u s' g',aQ g s g' s'->bN P g' s'.heap σ->Rp P g' s'.heap (.bool b) u->Q u s'):Q (.bool b) {s with toks:=tk}:=hq _ _ g (.toks g s tk) w rfl
theorem Ec (T:BT):Ax P (EH P fun x=>PySem.call (.builtin "isinstance") [x,.type T.id]) (gq T) (RV P):=fun A env g σ s x t y Q E rm w q e hq=>by
 obtain ⟨b,e1,e2⟩:=aD e
 cases e2
 have k:∀tk,Q (.bool b) {s with toks:=tk}:=fun tk=>zS w hq
 cases t with
 |bool c=>cases e1;rw [q.b rfl];exact wZ T k
 |int i=>cases e1;obtain ⟨p,rfl⟩:=q.i rfl;exact y8 T k
 |str z=>cases e1;obtain ⟨_,p,rfl⟩:=q.s rfl;exact y6 T k
 |tup ts=>cases e1;obtain ⟨a,rfl,_,vs,n,h1,_⟩:=q.tu rfl;exact uI T h1 rfl k
 |lst ts=>cases e1;obtain ⟨a,rfl,vs,n,h1,_⟩:=q.ls rfl;exact y7 T h1 rfl k
 |_=>cases e1
theorem av.isi {e:Expr}{p:PE}(T:BT){pn qn pos:Pos}(hx:B.sc.names.lookup (ofString "isinstance")=some .globalImplicit)(hT:B.sc.names.lookup T.nm=some .globalImplicit)
  (hn:∀env,starEach [e,.Name T.nm qn] env=[(false,eval e env),(false,eval (.Name T.nm qn) env)])(h:av P B C e p (RX P)):av P B C (.Call (.Name (ofString "isinstance") pn) [e,.Name T.nm qn] [] pos) (p1 (gq T) p) (RV P):=fun n A env g ρ σ s k Q E X hb hq=>by
 obtain ⟨m1,m2,m3⟩:=T.mem
 refine Call_Name rfl (X.blt hx (by decide) (by decide) (v:=.builtin "isinstance") (by decide) ?_)
 refine bH (fun _ q=>by cases q) (cc (by rw [hn env];exact fun q hq=>by cases hq with |head=>rfl |tail _ h=>cases h with |head=>rfl |tail _ h=>cases h)) (wpAny_items_cons ?_ (hn env))
 refine h.bind (N:=fun A env x Q E s=>wpAny P.M A (spliced (backTo pos (starEach [.Name T.nm qn] env))) (fun vs s₁=>wpAny P.M A (PySem.call (.builtin "isinstance") (x::vs)) Q E s₁) E s) (F:=fun _ _ k t σ=>up (gq T t) σ k) (R':=RV P) lA (fun n A env g ga ρ σ s s₁ x t k Q E p X r hb hq=>?_) n A env g ρ σ s k Q E X hb hq
 obtain ⟨y,e'⟩:=cG hb
 exact wpAny_items_cons (X.blt hT m3 m1 m2 (wpAny_items_nil (Ec T A env ga σ s₁ x t y Q E X.rm X.g (jq.y r) e' fun u s' g' p w r=>hq u s' g' y σ (by rw [e'];rfl) p w r))) rfl
theorem lU {A:Around}{g:Gh}{σ:Sg}{s:Shared}{Q:Value->Shared->Prop}{E:Value->Shared->Prop}{it:Addr}{o:Obj}{K:String}{items:Array Value}{n:Nat}{ts:List T}(hT:K="list"\/K="tuple")(w:bN P g s.heap σ)(e:s.heap.get? it=some o)(hc:o.cls=.type K)(hd:o.data=.seq items n)(r:bm P g s.heap ts items.toList)(hx:ts.length<=lim)
  (hq:∀u s' g',aQ g s g' s'->bN P g' s'.heap σ->Cj P s.heap g' s'.heap (.lst ts) u->Q u s'):wpAny P.M A (PySem.call (.type "list") [.ref it]) Q E s:=by
 refine call_list_seq it hT e hc hd (fun h' c' hk hn=>?_) (bD (r.size▸hx))
 have p:aQ g s g {s with heap:=h',toks:=s.toks}:=.grow s.toks hk g.F (fun _ h=>h) fun _ h=>.inl h
 obtain ⟨h1,h2,h3⟩:=eB w
 exact hq _ _ g p (w.grow hk g.F (fun _ h=>h) fun _ h=>.inl h) ⟨_,rfl,aR _,h1,h2,h3,_,_,hn,hx,r.mono (p.k w)⟩
theorem Bk:Ax P (Bf P (.type "list")) jo (RN P):=fun A env g σ s x t y Q E rm w q e hq=>by
 obtain ⟨ts,e1,e2⟩:=aD e
 cases e2
 rcases q.sq e1 with ⟨a,vs,n,rfl,h1,l,r⟩ | ⟨a,vs,n,rfl,h1,l,r⟩
 .exact lU (.inr rfl) w h1 rfl rfl r l hq
 .exact lU (.inl rfl) w h1 rfl rfl r l hq
theorem gL:∀{ts:List T} {bs:List Bool},fb ts=some bs->ts.length=bs.length/\∀(i:Nat) (t:T),ts[i]?=some t->∃b,bs[i]?=some b/\dM t=some b
 | [],bs,h=>by cases h;exact ⟨rfl,fun i v e=>nomatch e⟩
 |t::r,bs,h=>by
  obtain ⟨b,bs',h1,h2,h3⟩:=bn h
  cases h3
  obtain ⟨i1,i2⟩:=gL h2
  refine ⟨congrArg (·+1) i1,fun i u e=>?_⟩
  cases i with
  |zero=>cases e;exact ⟨b,rfl,h1⟩
  |succ i=>exact i2 i u e
theorem nA (bs:List Bool):(List.range bs.length).map (fun i=>bs[i]?.getD false)=bs:=by
 apply List.ext_getElem
 .simp
 .intro i h1 h2
  simp [getElem?_eq_getElem h2]
theorem wv (bs:List Bool):(List.range bs.length).any (fun i=>bs[i]?.getD false)=bs.any _root_.id:=by
 conv=>rhs;rw [<-nA bs]
 rw [List.any_map];rfl
theorem ww (bs:List Bool):(List.range bs.length).all (fun i=>bs[i]?.getD false)=bs.all _root_.id:=by
 conv=>rhs;rw [<-nA bs]
 rw [List.all_map];rfl
theorem rX {g:Gh}{h:Heap}{ts:List T}{bs:List Bool}{vs:Array Value}{i:Nat}{v:Value}{A:Around}{s:Shared}{Q:Bool->Shared->Prop}{E:Value->Shared->Prop}(r:bm P g h ts vs.toList)(ht:fb ts=some bs)(hv:vs[i]?=some v)(hq:Q (bs[i]?.getD false) s):wpAny P.M A (truthy v) Q E s:=by
 obtain ⟨t1,t2⟩:=gL ht
 have hi:i < ts.length:=by rw [<-r.size];exact (Array.getElem?_eq_some_iff.mp hv).1
 obtain ⟨b,b1,b2⟩:=t2 i ts[i] (getElem?_eq_getElem hi)
 obtain ⟨u,u1,u2⟩:=r.get (getElem?_eq_getElem hi)
 rw [Array.getElem?_toList,hv] at u1;cases u1
 rw [b1] at hq
 exact ip (.inl u2) b2 hq
theorem rT {g:Gh}{σ:Sg}{s:Shared}{ob:Obj}{h':Heap}{tk:Nat}{b:Bool}{Q:Value->Shared->Prop}(w:bN P g s.heap σ)(hk:∀a o,a∉[s.heap.objs.size]->(s.heap.push ob).get? a=some o->h'.get? a=some o)(hq:∀u s' g',aQ g s g' s'->bN P g' s'.heap σ->Rp P g' s'.heap (.bool b) u->Q u s'):Q (.bool b) {s with heap:=h',toks:=tk}:=
 have k:∀a o,s.heap.get? a=some o->h'.get? a=some o:=fun a o e=>hk a o (fun q=>ay e (ae q▸aR _)) (cw s ob a o e)
 hq _ _ g (.grow tk k g.F (fun _ h=>h) fun _ h=>.inl h) (w.grow k g.F (fun _ h=>h) fun _ h=>.inl h) rfl
theorem EA:Ax P (Bf P (.builtin "any")) u9 (RV P):=fun A env g σ s x t y Q E rm w q e hq=>by
 obtain ⟨ts,e1,e2⟩:=aD e
 obtain ⟨bs,ht,e3⟩:=aD e2
 cases e3
 obtain ⟨l,rfl,vs,n,a1,a3,a2⟩:=q.ls e1
 refine call_any_walk (wpAny_pyIter_list ⟨_,a1,rfl,n,rfl⟩ ?_)
 refine ⟨_,_,_,_,_,_,fun i=>bs[i]?.getD false,rfl,Walks.list (A:=A.in1) rm.handled s.heap.objs.size l (fun q=>ay a1 (q▸aR _)) vs,⟨⟨_,Heap.get?_push_size _ rfl,rfl,rfl⟩,⟨_,Heap.get?_push_of_some _ a1,rfl,n,rfl⟩⟩,fun i v s' Q E hv hq=>rX a2 ht hv hq,fun h' tk hk=>?_⟩
 rw [show (List.range vs.size).any (fun i=>bs[i]?.getD false)=bs.any _root_.id by rw [a2.size,(gL ht).1];exact wv bs]
 exact rT (s:=s) (ob:=wY "list_iterator" l) w hk hq
theorem Cd:Ax P (Bf P (.builtin "all")) kU (RV P):=fun A env g σ s x t y Q E rm w q e hq=>by
 obtain ⟨ts,e1,e2⟩:=aD e
 obtain ⟨bs,ht,e3⟩:=aD e2
 cases e3
 obtain ⟨l,rfl,vs,n,a1,a3,a2⟩:=q.ls e1
 refine call_all_walk (wpAny_pyIter_list ⟨_,a1,rfl,n,rfl⟩ ?_)
 refine ⟨_,_,_,_,_,_,fun i=>bs[i]?.getD false,rfl,Walks.list (A:=A.in1) rm.handled s.heap.objs.size l (fun q=>ay a1 (q▸aR _)) vs,⟨⟨_,Heap.get?_push_size _ rfl,rfl,rfl⟩,⟨_,Heap.get?_push_of_some _ a1,rfl,n,rfl⟩⟩,fun i v s' Q E hv hq=>rX a2 ht hv hq,fun h' tk hk=>?_⟩
 rw [show (List.range vs.size).all (fun i=>bs[i]?.getD false)=bs.all _root_.id by rw [a2.size,(gL ht).1];exact ww bs]
 exact rT (s:=s) (ob:=wY "list_iterator" l) w hk hq
theorem Ed:Ax P (Bf P (.type "int")) ta (RV P):=fun A env g σ s x t y Q E rm w q e hq=>by
 obtain ⟨b,e1,e2⟩:=aD e
 cases e2;rw [q.b e1]
 exact call_int_bool (dg w hq)
theorem CZ:jN P .Is s8:=fun A g σ s x x' t t' b Q E rm w q q' e k=>by
 obtain ⟨c,rfl⟩:=de e
 cases t' with
 |none=>
  rw [show x'=_ from q'.v fun _ h=>h]
  refine is_none ?_
  rcases q with q | ⟨a,rfl,q⟩
  .cases t with
   |none=>rw [show x=_ from q];exact k s.toks
   |bool=>rw [show x=_ from q];exact k s.toks
   |int=>obtain ⟨_,rfl⟩:=q;exact k s.toks
   |str=>obtain ⟨_,_,rfl⟩:=q;exact k s.toks
   |scr=>obtain ⟨a,_,rfl⟩:=q;exact k s.toks
   |spot=>rw [show x=_ from q];exact k s.toks
   |self=>exact q.elim
   |_=>obtain ⟨a,rfl⟩:=q;exact k s.toks
  .cases t with
   |none=>exact q.elim
   |_=>exact k s.toks
 |_=>cases c
theorem s9 {A:Around}{x y:Value}{s:Shared}{t:Bool}{Q:Value->Shared->Prop}{E:Value->Shared->Prop}(h:wpAny P.M A (compareOp .Is x y) (fun v s'=>v=.bool t/\Q (.bool (!t)) s') E s):wpAny P.M A (compareOp .IsNot x y) Q E s:=fun j p hΓ=>by
 have h':=h j p hΓ
 rw [show compareOp .Is x y=(do return .bool (<-isSame x y)) from rfl,Sem.wp_bind'] at h'
 rw [show compareOp .IsNot x y=(do return .bool (!(<-isSame x y))) from rfl,Sem.wp_bind']
 refine Sem.wp_mono P.M j _ (fun b p' s' q=>?_) (fun _ _ _ q=>q) p s h'
 obtain ⟨q1,q2⟩:=(show Value.bool b=.bool t/\_ from q)
 cases q1;exact q2
theorem zL:jN P .IsNot FO:=fun A g σ s x x' t t' b Q E rm w q q' e k=>by
 obtain ⟨c,e1,rfl⟩:=ax e
 exact s9 (CZ A g σ s x x' t t' c _ E rm w q q' e1 fun tk=>⟨rfl,k tk⟩)
noncomputable abbrev EX (B:b7)(x:String):Prop:=B.sc.names.lookup (ofString x)=some .globalImplicit
section
variable {e:Expr} {p:PE} {pn pos:Pos}
theorem av.len (hx:EX B "len")(hn:∀env,starEach [e] env=[(false,eval e env)])(h:av P B C e p (RX P)):av P B C (.Call (.Name (ofString "len") pn) [e] [] pos) (p1 ba p) (RV P):=av.b1 lA yP (fun _ q=>by cases q) hx (by decide) (by decide) (by decide) hn h
theorem av.listOf (hx:EX B "list")(hn:∀env,starEach [e] env=[(false,eval e env)])(h:av P B C e p (RX P)):av P B C (.Call (.Name (ofString "list") pn) [e] [] pos) (p1 jo p) (RN P):=av.b1 F2 Bk (fun _ q=>by cases q) hx (by decide) (by decide) (by decide) hn h
theorem av.anyOf (hx:EX B "any")(hn:∀env,starEach [e] env=[(false,eval e env)])(h:av P B C e p (RX P)):av P B C (.Call (.Name (ofString "any") pn) [e] [] pos) (p1 u9 p) (RV P):=av.b1 lA EA (fun _ q=>by cases q) hx (by decide) (by decide) (by decide) hn h
theorem av.allOf (hx:EX B "all")(hn:∀env,starEach [e] env=[(false,eval e env)])(h:av P B C e p (RX P)):av P B C (.Call (.Name (ofString "all") pn) [e] [] pos) (p1 kU p) (RV P):=av.b1 lA Cd (fun _ q=>by cases q) hx (by decide) (by decide) (by decide) hn h
theorem av.intOf (hx:EX B "int")(hn:∀env,starEach [e] env=[(false,eval e env)])(h:av P B C e p (RX P)):av P B C (.Call (.Name (ofString "int") pn) [e] [] pos) (p1 ta p) (RV P):=av.b1 lA Ed (fun _ q=>by cases q) hx (by decide) (by decide) (by decide) hn h
end
end
structure xE (K:MK) (name:Str) (id:String):Prop where
 slot:Slot K.id name id
 ty:typeOf (.builtin id)=pure (.type "method_descriptor")
theorem MK.plain (K:MK):PlainAttrs K.id:=by
 cases K
 .exact F.plainAttrs_list
 .exact F.plainAttrs_str
 .exact F.plainAttrs_tuple
noncomputable def EW (K:MK)(s:Shared)(x:Value):Prop:=s.TypeIs x K.id/\∀a,x=.ref a->∃o,s.heap.get? a=some o/\o.dict=none
section
variable {P:Pg} {B:b7} {C C':Ct} {fr:Bool} {n:Nat} {A:Around} {env:Env} {g g':Gh} {ρ:aW} {σ:Sg} {s s':Shared} {h h':Heap} {t:T} {x:Value}
theorem uJ {K:MK}{a:Addr}{o:Obj}(e:s.heap.get? a=some o)(hc:o.cls=.type K.id)(hd:o.dict=none):EW K s (.ref a):=⟨⟨o,e,hc⟩,fun b q=>⟨o,Value.ref.inj q▸e,hd⟩⟩
theorem sX {K:MK}(q:fU P g s.heap t x)(hk:kT K t=true):EW K s x:=by
 obtain ⟨y,e⟩ | ⟨y,e⟩ | ⟨y,e⟩:(∃y,K=.list/\gI t=some y)\/(∃y,K=.str/\tT t=some y)\/∃y,K=.tuple/\rH t=some y:=by
  cases K with
  |list=>exact .inl (let ⟨y,e⟩:=aO hk;⟨y,rfl,e⟩)
  |str=>exact .inr (.inl (let ⟨y,e⟩:=aO hk;⟨y,rfl,e⟩))
  |tuple=>exact .inr (.inr (let ⟨y,e⟩:=aO hk;⟨y,rfl,e⟩))
 .obtain ⟨rfl,e⟩:=e;obtain ⟨a,rfl,vs,n,h1,_⟩:=q.ls e;exact uJ h1 rfl rfl
 .obtain ⟨rfl,e⟩:=e;obtain ⟨_,p,rfl⟩:=q.s e;exact ⟨rfl,fun a q=>by cases q⟩
 .obtain ⟨rfl,e⟩:=e;obtain ⟨a,rfl,_,vs,n,h1,_⟩:=q.tu e;exact uJ h1 rfl rfl
theorem n5 {o e:Expr}{name:Str}{apos pos:Pos}{id:String}{K:MK}{Q:Value->Shared->Prop}{E:Value->Shared->Prop}(i:xE K name id)(hbase:∀env,attributeBase o name env (eval o env)=eval o env)(hline:(apos.endLine==pos.line)=true)(htrees:∀env,backTo pos (starEach [e] env)=[(false,eval e env)])
  (h:wpAny P.M A (eval o env) (fun x s₁=>EW K s₁ x/\wpAny P.M A (eval e env) (fun y s2=>wpAny P.M A (PySem.call (.builtin id) [x,y]) Q E s2) E s₁) E s):wpAny P.M A (eval (.Call (.Attribute o name apos) [e] [] pos) env) Q E s:=
 wpAny_Call_method1_late (hbase env) hline (htrees env) (wpAny_mono h (fun x s₁ ⟨k,ha⟩=>⟨K.id,id,K.plain,i.slot,i.ty,k.1,k.2,bH (fun _ q=>by cases q) (fun p hp=>by rw [ae hp]) (Calls.spliced_cons (wpAny_mono ha (fun _ _ he=>Calls.spliced_nil he) fun _ _ h=>h))⟩) fun _ _ h=>h)
noncomputable abbrev EY (P:Pg)(id:String):W2 Value:=Cf P fun x y=>PySem.call (.builtin id) [x,y]
theorem av.m1 {o e:Expr}{name:Str}{apos pos:Pos}{po pe:PE}{id:String}{K:MK}{F:T->T->Option T}{R:RR Value T}(i:xE K name id)(hd:Dn R)(k:rJ P (EY P id) F R)(hbase:∀env,attributeBase o name env (eval o env)=eval o env)(hline:(apos.endLine==pos.line)=true)
  (htrees:∀env,backTo pos (starEach [e] env)=[(false,eval e env)])(h1:av P B C o po (RX P))(h2:av P B C e pe (RX P)):av P B C (.Call (.Attribute o name apos) [e] [] pos) (uw K F po pe) R:=
 (h1.bind (N:=fun A env x Q E s=>EW K s x/\wpAny P.M A (eval e env) (fun y s2=>wpAny P.M A (PySem.call (.builtin id) [x,y]) Q E s2) E s) (F:=fun c ρ k a σ=>gd (kT K a) (pe c ρ σ fun b σ=>up (F a b) σ k)) hd fun n A env g g1 ρ σ s s₁ x t kk Q E p X r hb hq=>by
  have hk:=ku hb
  rw [hk] at hb hq
  refine ⟨sX (jq.y r) hk,h2 n A env g1 ρ σ s₁ _ _ E X hb fun x' s2 g2 t' σ₂ ea p2 w2 rb=>?_⟩
  obtain ⟨y,e'⟩:=cG fun q=>hb (ea.trans q)
  exact k A env g2 σ₂ s2 x x' t t' y Q E X.rm w2 (jq.post X.g p2 r).y (jq.y rb) e' fun u s' g' p w r=>hq u s' g' y σ₂ (ea.trans (by rw [e'];rfl)) (p2.trans p) w (hd _ _ _ _ _ _ p2.back r)).map fun A env Q E s h=>n5 i hbase hline htrees h
theorem mw {i:Nat}{a:Addr}{y:T}(X:At P B C n A env g ρ σ s)(hv:bL C i=true)(hb:bV ρ i≠none)(ho:g.o i=some a)(hva:dI B env s.heap i (.ref a))(hs:∀b,b≠a->h'.get? b=s.heap.get? b)(hy:aZ g s.heap g h'->iY P g h' a y)(tk:Nat):
  be [] (own env) g s g {s with heap:=h',toks:=tk}/\At P B C n A env g (ρ.set i (some y)) σ {s with heap:=h',toks:=tk}:=by
 obtain ⟨la,fa,za⟩:=X.g.O a ⟨i,ho⟩
 have kf:aZ g s.heap g h':=⟨fun b f=>⟨f,fun o e=>(hs b fun q=>fa (q▸f)).trans e⟩,rfl⟩
 have ra:=hy kf
 have lv:∀b,s.heap.get? b≠none->h'.get? b≠none:=fun b l=>by
  by_cases q:b=a
  .exact q▸ra.live
  .rw [hs b q];exact l
 have zk:∀b,g.Z b->∀o,s.heap.get? b=some o->h'.get? b=some o:=fun b z o e=>(hs b fun q=>za (q▸z)).trans e
 have ok:∀b∈own env,∀o,s.heap.get? b=some o->h'.get? b=some o:=fun b m o e=>(hs b fun q=>(X.env.own b m).2.2.2 (q▸⟨i,ho⟩)).trans e
 refine ⟨⟨⟨h',tk,rfl⟩,fun b o e _ no _=>(hs b fun q=>no (q▸⟨i,ho⟩)).trans e,fun b _ e=>?_,fun _ f=>f,fun _ f=>.inl f,fun _ f=>.inl f,fun _ f=>.inl f,rfl,rfl⟩,X.good,X.call,X.room,{X.env with
   ns:=let ⟨m,nn⟩:=X.env.ns;⟨m,nn.at (ok _ mem_cons_self)⟩
   cell:=fun j z kk hj hk=>let ⟨c,u,l,o,e,d⟩:=X.env.cell j z kk hj hk;⟨c,u,l,o,ok c (mem_cons_of_mem _ (bG l)) o e,d⟩
   own:=fun b m=>⟨lv b (X.env.own b m).1,(X.env.own b m).2⟩
   var:=fun j z v hj hv'=>?_
   un:=fun j hj=>dT (fun q:j=i=>hb (q▸X.env.un j hj)) (X.env.un j hj)},
  fun b o e=>⟨(X.g.base b o e).1,(kf.F b (X.g.base b o e).1).2 o (X.g.base b o e).2⟩,fun b f=>lv b (X.g.F b f),fun b z=>⟨lv b (X.g.Z b z).1,(X.g.Z b z).2⟩,fun b z=>⟨lv b (X.g.O b z).1,(X.g.O b z).2⟩,X.g.oo,
  ⟨let ⟨t,m,e⟩:=X.g.spot.1;⟨t,m,zk _ X.g.spot.2.1 _ e⟩,X.g.spot.2⟩,fun c ts e=>(X.g.self c ts e).mono kf (fun b z=>⟨z,zk b z⟩) rfl⟩
 .cases q:s.heap.get? b with
  |none=>rfl
  |some o=>exact (lv b (ay q) e).elim
 .rcases i8 hv' with ⟨q,e⟩ | ⟨nj,e⟩
  .subst q;cases e
   exact ⟨_,hva.move ok,by unfold bW;rw [hv];exact ⟨a,rfl,ho,ra⟩⟩
  .obtain ⟨u,v1,v2⟩:=X.env.var j z v hj e
   refine ⟨u,v1.move ok,?_⟩
   unfold bW at v2 ⊢
   cases q:bL C j with
   |true=>rw [q] at v2;exact let ⟨b,e1,e2,r⟩:=v2;⟨b,e1,e2,r.mono kf fun o e=>(hs b fun z=>nj (X.g.oo j i a (z▸e2) ho)).trans e⟩
   |false=>rw [q] at v2;exact v2.imp (·.mono kf) id
noncomputable def Mu (P:Pg)(id:String)(F:T->T->Option T)(RA:Gh->Heap->T->Value->Prop):Prop:=
 ∀A g σ s a x' t v y Q E,Rm A->bN P g s.heap σ->iY P g s.heap a t->RA g s.heap v x'->F t v=some y->
  (∀h' tk,(∀b,b≠a->h'.get? b=s.heap.get? b)->(aZ g s.heap g h'->iY P g h' a y)->Q .none {s with heap:=h',toks:=tk})->wpAny P.M A (PySem.call (.builtin id) [.ref a,x']) Q E s
theorem aX.mut {e:Expr}{y name:Str}{k:NameKind}{np apos cpos pos:Pos}{pe:PE}{id:String}{i:Nat}{F:T->T->Option T}{R:RR Value T}{RA:Gh->Heap->T->Value->Prop}(m:xE .list name id)(hv:bL C i=true)(ht:B.tab[i]?=some (some (y,k)))(hR:∀h g h' t x,R h g h' t x->RA g h' t x)(o:Mu P id F RA)
  (hbase:∀env,attributeBase (.Name y np) name env (eval (.Name y np) env)=eval (.Name y np) env)(hline:(apos.endLine==cpos.line)=true)(htrees:∀env,backTo cpos (starEach [e] env)=[(false,eval e env)])(hw:∀env,swapsWith (.Call (.Attribute (.Name y np) name apos) [e] [] cpos) none pos.line env=pure false)
  (h:av P B C e pe R):aX P B C fr C (.Expr (.Call (.Attribute (.Name y np) name apos) [e] [] cpos) pos) (ii i F pe):=fun n A env g ρ σ s k Q E X hb hq hr=>by
 show wpAny P.M A (exec _ env) Q E s
 rw [exec_Expr env _ pos (by simp [interactive,X.fn]) (hw env)]
 unfold ii at hb hq
 cases e0:bV ρ i with
 |none=>rw [e0] at hb;exact absurd rfl hb
 |some t=>
  rw [e0] at hb hq
  have hk:=ku hb
  simp only [hk,cond_true] at hb hq
  obtain ⟨u,v,q⟩:=X.env.var i _ t ht e0
  unfold bW at q
  rw [hv] at q
  obtain ⟨a,rfl,oi,r⟩:=q
  refine wpAny_bind (wpAny_standAt (wpAny_bind (n5 m hbase hline htrees (bJ X ht v ⟨sX (.inr ⟨a,rfl,r⟩) hk,h n A env g ρ σ s _ _ _ X hb fun x' s2 g2 t' σ₂ ea p2 w2 rb=>?_⟩))))
  obtain ⟨y',e'⟩:=cG fun q=>hb (ea.trans q)
  have X2:=X.post p2 w2
  have ka:=fun o e=>p2.keep a o e (X.g.O a ⟨i,oi⟩).2.2
  refine o A g2 σ₂ s2 a x' t t' y' _ _ X.rm w2 (r.mono (p2.k X.g) ka) (hR _ _ _ _ _ rb) e' fun h' tk hs hy=>wpAny_dropValue ?_
  obtain ⟨pS,X'⟩:=mw X2 hv (by rw [e0];exact fun q=>by cases q) (by rw [p2.o];exact oi) (v.move fun b m o e=>p2.keep b o e (X.env.own b m).2.2.1) hs hy tk
  exact hq _ _ _ σ₂ (ea.trans (by rw [e'];rfl)) (p2.toS.trans pS) X'
theorem lM:Mu P "list.append" d9 (fun g h t x=>Rp P g h t x):=fun A g σ s a x' t v y Q E rm w r rv e hq=>by
 obtain ⟨xs,e1,e2⟩:=aD e
 obtain ⟨hl,rfl⟩:=gG e2
 cases fT e1
 obtain ⟨vs,n,a1,a3,a2⟩:=r
 refine fw a1 (hq _ s.toks (Heap.SameBut.update s.heap a (Obj.mapSeq fun a=>a.push x')).2 fun kf=>⟨_,_,IsL.update a1 (fun a=>a.push x'),by rw [List.length_append];exact hl,?_⟩) (bD (a2.size▸a3))
 rw [Array.toList_push]
 exact bm.append (bm.cons (rv.mono kf) bm.nil) (a2.mono kf)
theorem rc {prog:Program}{w:World}{A:Around}{E:Value->Shared->Prop}{s:Shared}{l b:Addr}{items items2:Array Value}{n n2:Nat}{Q:Value->Shared->Prop}(hl:IsL s.heap l items n)(hb:IsL s.heap b items2 n2)
  (h:Q .none {s with heap:=s.heap.update l (Obj.mapSeq fun a=>a++items2)})(hsz:items.size+items2.size<=lim):wpAny (model prog w) A (call (.builtin "list.extend") [.ref l,.ref b]) Q E s:=by
 have hlim:lim=1000000:=rfl
 have h1:=bD (k:=items.size) (by lia -abstractProof)
 have h2:=bD hsz
 refine call_meets F.slot_list_extend ⟨_,hl,rfl⟩ F.entry_list_extend (F.args_list_extend_2 _ _) (AutoSeq1.list_extend_list_list_0 l items n b items2 n2 ?_ h1 (by lia)) ⟨hl,hb,h⟩
 have:Builtin.List.listTooLong (items.size+items2.size)=false:=by
  unfold Builtin.List.listTooLong
  simp only [decide_eq_false_iff_not]
  lia
 simp [this]
theorem xa:Mu P "list.extend" jk (fun g h t x=>jq P g h t x):=fun A g σ s a x' t v y Q E rm w r rv e hq=>by
 obtain ⟨xs,ys,e1,e3,e2⟩:=bn e
 obtain ⟨hl,rfl⟩:=gG e2
 cases fT e1
 obtain ⟨vs,n,a1,a3,a2⟩:=r
 obtain ⟨b,rfl,vs',n',b1,b3,b2⟩:=(jq.y rv).ls e3
 refine rc a1 b1 (hq _ s.toks (Heap.SameBut.update s.heap a (Obj.mapSeq fun a=>a++vs')).2 fun kf=>⟨_,_,IsL.update a1 (fun a=>a++vs'),by rw [List.length_append];exact hl,?_⟩) (by rw [a2.size,b2.size];exact hl)
 rw [Array.toList_append]
 exact bm.append (b2.mono kf) (a2.mono kf)
theorem oz {A:Around}{a b:Nat}(rm:Rm A)(h:a<=cB):A.units+2+min a b < cLine:=by
 have:=rm.units
 have:min a b<=50:=le_trans (min_le_left _ _) h
 lia -abstractProof
theorem zc:rJ P (EY P "list.index") jD (RV P):=fun A env g σ s x x' t t' y Q E rm w q q' e hq=>by
 obtain ⟨xs,e1,e2⟩:=aD e
 obtain ⟨d,ds,h1,h2,e3⟩:=bn e2
 obtain ⟨j,h3,e4⟩:=aD e3
 cases e4
 obtain ⟨l,rfl,vs,n,a1,a3,a2⟩:=q.ls e1
 obtain ⟨⟨as,r1⟩,c1,l1⟩:=cL cB t' x' d h1 q'
 obtain ⟨⟨bs,r2⟩,c2,l2⟩:=ej (fun t x d e r=>cL cB t x d e (.inl r)) xs _ ds h2 a2
 have hmap:=readsAll_map ds vs.toList bs c2 r2
 obtain ⟨hj,hj1,hj2⟩:=List.findIdx?_eq_some_iff_getElem.mp h3
 have hlen:ds.length=vs.size:=by rw [<-hmap,length_map];rfl
 have at':∀(k:Nat) (h:k < vs.size) (h':k < ds.length),readOf s.heap vs[k]=ds[k]:=fun k h h'=>by
  have:ds[k]=(vs.toList.map (readOf s.heap))[k]'(by rw [length_map];exact h):=by simp only [hmap]
  rw [this,List.getElem_map];rfl
 refine call_meets F.slot_list_index ⟨_,a1,rfl⟩ F.entry_list_index (F.args_list_index_2 _ _)
  (list_indexAt l vs n Option.none #[] x' (fun v=>PyData.eqv (readOf s.heap v) d) j (hlen▸hj) (by have:=a2.size;have:lim=1000000:=rfl;lia -abstractProof) (by rw [at' j (hlen▸hj) hj];exact hj1) fun k hk hkj=>?_)
  ⟨a1,items_eqAt r2 r1 c2 c1 (lt_of_le_of_lt (by lia -abstractProof) (oz (b:=d.depth) rm l2)),?_⟩
 .rw [at' k hk (hlen▸hk)]
  simpa using hj2 k hkj
 .exact dg w hq
theorem pJ:∀{ts:List T} {vs:List Value} {xs:List Str},bm P g h ts vs->xJ ts=some xs->∃l:List (Str×Tok),vs=strValues l/\l.map (·.1)=xs
 | [],_,_,r,hs=>by cases r;cases hs;exact ⟨[],rfl,rfl⟩
 |t::ts,_,xs,⟨v,vs,e,r,rs⟩,hs=>by
  obtain ⟨y,ys,h1,h2,h3⟩:=bn hs
  cases h3;cases Aa h1
  obtain ⟨_,p,rfl⟩:=r
  obtain ⟨l,e1,e2⟩:=pJ rs h2
  exact ⟨(y,p)::l,by rw [e,e1];rfl,by rw [<-e2];rfl⟩
theorem y3:rJ P (EY P "str.join") vO (RV P):=fun A env g σ s x x' t t' y Q E rm w q q' e hq=>by
 obtain ⟨sep,ts,e1,e2,e3⟩:=bn e
 obtain ⟨xs,e4,e5⟩:=aD e3
 obtain ⟨c,rfl⟩:=de e5
 obtain ⟨c12,c3⟩:=ai c
 obtain ⟨c1,c2⟩:=ai c12
 obtain ⟨_,p,rfl⟩:=q.s e1
 obtain ⟨l,rfl,vs,n,a1,a3,a2⟩:=q'.ls e2
 obtain ⟨lt,q1,rfl⟩:=pJ a2 e4
 have c1':Builtin.Str.tooLong ((lt.map (·.1)).toArray.foldl (·+·.length+sep.length) 0)=false:=by
  unfold JoinOk at c1
  rw [not_eq_true'] at c1;exact c1
 refine call_meets F.slot_str_join (typeIs_str _ _ _) F.entry_str_join (F.args_str_join_2 _ _) (meets_str_join_list sep p l lt c1') ⟨⟨_,a1,rfl,n,by rw [<-q1]⟩,post_join lt ⟨joinFit_length c1',fun t' k=>?_⟩⟩
 exact hq _ _ g (.toks g s k) w ⟨⟨c2,gY c3⟩,_,rfl⟩
theorem rZ:∀(l:List (Str×Tok)),(∀p∈l,PyData.strOk p.1=true/\p.1.length<=lim)->bm P g h ((l.map (·.1)).map T.str) (strValues l)
 | [],_=>rfl
 | (x,t)::r,hl=>⟨_,_,rfl,⟨hl (x,t) mem_cons_self,t,rfl⟩,rZ r fun p hp=>hl p (mem_cons_of_mem _ hp)⟩
theorem wq:rJ P (EY P "str.split") qs (RV P):=fun A env g σ s x x' t t' y Q E rm w q q' e hq=>by
 obtain ⟨z,z',e1,e2,e3⟩:=bn e
 obtain ⟨c,rfl⟩:=de e3
 obtain ⟨c12,c3⟩:=ai c
 obtain ⟨c1,c2⟩:=ai c12
 obtain ⟨⟨h1,h2⟩,p,rfl⟩:=q.s e1
 obtain ⟨_,u,rfl⟩:=q'.s e2
 have c1:(z'.length==0)=false:=by rw [not_eq_true'] at c1;exact c1
 have c2:=gY c2
 have fin:∀(lt:List (Str×Tok)) (tk:Nat),lt.map (·.1)=Txt.split z z'->Q (.ref s.heap.objs.size) {s with heap:=s.heap.push (bO (strValues lt).toArray 0),toks:=tk}:=fun lt tk hlt=>by
  rw [<-hlt] at c2 c3 hq
  refine kh w (rZ lt fun p hp=>?_) (by rw [length_map];exact c2) hq
  have:=ai (aI c3 p.1 (List.mem_map_of_mem hp))
  exact ⟨this.1,of_decide_eq_true this.2⟩
 have hx:z.length<=sizeLine:=bD h2
 cases q1:(decide (z.length < z'.length)||decide (Builtin.Str.strKind z < Builtin.Str.strKind z'))
 .cases hf:(Builtin.Str.occurrences z z' 0 z.length (z.length+1)).isEmpty
  .have hsp:Txt.split z z'=Builtin.Str.partsBetween z (Builtin.Str.occurrences z z' 0 z.length (z.length+1)) z'.length:=(if_neg (ne_true_of_eq_false q1)).trans (if_neg (ne_true_of_eq_false hf))
   refine call_meets F.slot_str_split (typeIs_str _ _ _) F.entry_str_split (F.args_str_split_2 _ _) (meets_str_split_sep z z' p u q1 c1 hf hx (by rw [<-hsp];exact bD c2)) ?_
   show wants _ _ _ {s with toks:=_,heap:=s.heap.push {cls:=.type "list",data:=.seq (strsFrom s.toks (Builtin.Str.partsBetween z (Builtin.Str.occurrences z z' 0 z.length (z.length+1)) z'.length)).toArray}}
   rw [strsFrom_eq]
   exact fin _ _ ((numbered_texts _ _).trans hsp.symm)
  .exact call_meets F.slot_str_split (typeIs_str _ _ _) F.entry_str_split (F.args_str_split_2 _ _) (meets_str_split_not_found z z' p u q1 c1 hf) (fin [(z,p)] s.toks ((if_neg (ne_true_of_eq_false q1)).trans (if_pos hf)).symm)
 .exact call_meets F.slot_str_split (typeIs_str _ _ _) F.entry_str_split (F.args_str_split_2 _ _) (meets_str_split_cannot_occur z z' p u q1) (fin [(z,p)] s.toks (if_pos q1).symm)
theorem oe:xE .list (ofString "append") "list.append":=⟨F.slot_list_append,F.type_list_append⟩
theorem Ef:xE .str (ofString "join") "str.join":=⟨F.slot_str_join,F.type_str_join⟩
theorem BC:xE .str (ofString "split") "str.split":=⟨F.slot_str_split,F.type_str_split⟩
theorem zh:xE .list (ofString "extend") "list.extend":=⟨F.slot_list_extend,F.type_list_extend⟩
theorem vU:xE .list (ofString "index") "list.index":=⟨F.slot_list_index,F.type_list_index⟩
end
end
end Mine
namespace Mine
noncomputable section
open PySem PySem.W PyProof.Rows PySem.SeqAt
noncomputable abbrev jO:=Ky×Addr×Value
section
variable {P:Pg} {B:b7} {C:Ct} {fr:Bool} {g g':Gh} {h h':Heap} {t:T} {x:Value}
theorem CN {f:T->Option Ky}{n:Nat}(hf:∀t κ x,f t=some κ->Rp P g h t x->Ck h n κ x):∀(ts:List T) (κs:List Ky) (xs:List Value),my.go f ts=some κs->bm P g h ts xs->EK h n κs xs
 | [],κs,xs,e,r=>by cases r;cases e;exact ⟨[],rfl,rfl⟩
 |t::ts,κs,xs,e,⟨v,vs,e',q,r⟩=>by
  subst e'
  obtain ⟨κ,κs',e1,e2,e3⟩:=bn e
  cases e3
  obtain ⟨d,g1,h1⟩:=hf t κ _ e1 q
  obtain ⟨ds,g2,h2⟩:=CN hf ts κs' _ e2 r
  exact ⟨d::ds,by rw [Kx.norms,g1,g2],⟨_,_,rfl,h1,h2⟩⟩
theorem FK:∀(n:Nat) (t:T) (κ:Ky) (x:Value),my n t=some κ->Rp P g h t x->Ck h n κ x:=by
 have base:∀n t κ x,(match t with |.tup _=>False |_=>True)->my n t=some κ->Rp P g h t x->Ck h n κ x:=fun n t κ x ht e r=>by
  cases t with
  |bool b=>cases n<;>cases e<;>exact ⟨.bool _,rfl,r⟩
  |int i=>cases n<;>cases e<;>exact ⟨.int _,rfl,r⟩
  |str s=>cases n<;>cases e<;>exact ⟨.str _,rfl,r.1.1,r.2⟩
  |tup=>exact ht.elim
  |_=>cases n<;>cases e
 intro n
 induction n with
 |zero=>
  intro t κ x e r
  cases t with
  |tup=>cases e
  |_=>exact base 0 _ κ x trivial e r
 |succ n ih=>
  intro t κ x e r
  cases t with
  |tup ts=>
   obtain ⟨κs,e1,e2⟩:=aD (show o1 (my.go (my n) ts) (fun ks=>some (Ky.tup ks))=some κ from e)
   cases e2
   obtain ⟨a,rfl,_,vs,m,hg,_,r⟩:=r
   obtain ⟨ds,g1,h1⟩:=CN ih ts κs _ e1 r
   exact ⟨.tup ds,congrArg Ky.tup g1,_,_,_,n,rfl,rfl,hg,h1⟩
  |_=>exact base (n+1) _ κ x trivial e r
theorem n9 {κ:Ky}(e:yZ t=some κ)(r:fU P g h t x):∃a,x=.ref a/\(cj P.prog P.w).is h κ a/\Rp P g h t x:=by
 obtain ⟨ts,e1,e2⟩:=aD e
 cases lK e1
 have r:=r.v fun _ h=>h
 have k:=FK 6 _ κ _ e2 r
 obtain ⟨a,rfl,_⟩:=id r
 exact ⟨a,rfl,k,r⟩
theorem ri:∀(es:List DictEntry) (us:List T) (κs:List Ky),bm P g h us (es.map (·.key))->gE us=some κs->es.map (·.hash)=κs.map (Ky.hash P.w)->
  ∃xs:List jO,es=xs.map (entryOfKey (cj P.prog P.w))/\xs.map (·.1)=κs/\(∀x∈xs,(cj P.prog P.w).is h x.1 x.2.1)
 | [],us,κs,r,e,hh=>by
  obtain rfl:us=[]:=List.length_eq_zero_iff.mp r.length.symm
  cases e;exact ⟨[],rfl,rfl,fun _ h=>nomatch h⟩
 |en::es,us,κs,r,e,hh=>by
  cases us with
  |nil=>cases r
  |cons u us=>
   obtain ⟨_,_,e0,q,r⟩:=r
   cases e0
   obtain ⟨κ,κs',e1,e2,e3⟩:=bn (show o2 (yZ u) (gE us) _=some κs from e)
   cases e3
   obtain ⟨a,ha,hk,_⟩:=n9 e1 (.inl q)
   rw [map_cons,map_cons] at hh
   obtain ⟨hh1,hh2⟩:=List.cons.inj hh
   obtain ⟨xs,h1,h2,h3⟩:=ri es us κs' r e2 hh2
   refine ⟨(κ,a,en.val)::xs,?_,by rw [map_cons,h2],fun x hx=>?_⟩
   .rw [map_cons,<-h1]
    congr 1
    cases en
    simp only at ha hh1
    rw [ha,hh1];rfl
   .rcases az hx with rfl |hx
    .exact hk
    .exact h3 x hx
inductive Gw (P:Pg) (g:Gh) (h:Heap) (us ts:List T) (a:Addr):Prop
 |mk (xs:List jO) (n:(a==sysModules)=false) (d:h.DictOfH (cj P.prog P.w) a xs) (k:gE us=some (xs.map (·.1))) (r:bm P g h us (xs.map fun y=>Value.ref y.2.1)) (r':bm P g h ts (xs.map (·.2.2))) (l:us.length<=lim)
theorem Ay.is {us ts:List T}{a:Addr}(q:Ay P h us (bm P g h us) (bm P g h ts) a):Gw P g h us ts a:=by
 obtain ⟨n,o,es,e,q,r1,r2⟩:=q
 obtain ⟨κ,k1,k2,k3⟩:=q.k
 obtain ⟨ep,d⟩:=q.d
 obtain ⟨xs,h1,h2,h3⟩:=ri es us κ r1 k1 k2
 refine ⟨xs,n,⟨o,_,ep,e,q.x,d,h1,h3,by rw [h2];exact k3⟩,by rw [h2];exact k1,?_,?_,q.l⟩
 .rw [h1,map_map] at r1;exact r1
 .rw [h1,map_map] at r2;exact r2
theorem Gw.back {us ts:List T}{a:Addr}{xs:List jO}(n:(a==sysModules)=false)(d:h.DictOfH (cj P.prog P.w) a xs)(k:gE us=some (xs.map (·.1)))(r:bm P g h us (xs.map fun y=>Value.ref y.2.1))(r':bm P g h ts (xs.map (·.2.2)))(l:us.length<=lim):iY P g h a (.dct us ts):=by
 obtain ⟨o,es,ep,e,x,d,h1,h3,h4⟩:=d
 refine ⟨n,o,es.toList,e,⟨x,⟨ep,d⟩,⟨_,k,?_,h4⟩,l⟩,?_,?_⟩
 .rw [h1,map_map,map_map];rfl
 .rw [h1,map_map];exact r
 .rw [h1,map_map];exact r'
theorem Ac {p:List T×List T}(e:EU t=some p):t=.dct p.1 p.2:=by cases t<;>cases e;rfl
theorem fU.d {p:List T×List T}(q:fU P g h t x)(e:EU t=some p):∃a,x=.ref a/\Gw P g h p.1 p.2 a:=by cases Ac e;exact q.elim (fun r=>let ⟨a,e,_,o⟩:=r;⟨a,e,o.is⟩) fun ⟨a,e,o⟩=>⟨a,e,Ay.is o⟩
theorem oP (κ:Ky):∀(xs:List jO),atKey xs κ=(qW (xs.map (·.1)) κ).bind fun i=>(xs[i]?).map (·.2)
 | []=>rfl
 |x::xs=>by
  have ih:=oP κ xs
  unfold atKey qW at ih ⊢
  rw [map_cons,findIdx?_cons,List.find?_cons]
  cases decide (x.1=κ) with
  |true=>rfl
  |false=>
   simp only [Bool.false_eq_true,if_false]
   rw [ih]
   cases List.findIdx? (fun y=>decide (y=κ)) (xs.map (·.1)) with
   |none=>rfl
   |some i=>rfl
theorem vM {κs:List Ky}{κ:Ky}{i:Nat}(e:qW κs κ=some i):κs[i]?=some κ:=by
 obtain ⟨h1,h2,_⟩:=List.findIdx?_eq_some_iff_getElem.mp e
 rw [getElem?_eq_getElem h1,of_decide_eq_true h2]
theorem vr {A:Around}(hu:A.units+200 < cLine):(cj P.prog P.w).room A.in1:=by
 show A.in1.units+6 < cLine
 rw [Around.in1_units];lia -abstractProof
theorem yw {A:Around}{x y:Value}{s:Shared}{t:Bool}{Q:Value->Shared->Prop}{E:Value->Shared->Prop}(h:wpAny P.M A (compareOp .In x y) (fun v s'=>v=.bool t/\Q (.bool (!t)) s') E s):wpAny P.M A (compareOp .NotIn x y) Q E s:=fun Z p hΓ=>by
 have h':=h Z p hΓ
 rw [show compareOp .In x y=(do return .bool (<-contains y x)) from rfl,Sem.wp_bind'] at h'
 rw [show compareOp .NotIn x y=(do return .bool (!(<-contains y x))) from rfl,Sem.wp_bind']
 refine Sem.wp_mono P.M Z _ (fun b p' s' q=>?_) (fun _ _ _ q=>q) p s h'
 obtain ⟨q1,q2⟩:=(show Value.bool b=.bool t/\_ from q)
 cases q1;exact q2
theorem vw {κ:Ky}{z:Value}:∀{xs:List jO} {j:Nat},(xs.map (·.1)).Nodup->(∃x,xs[j]?=some x/\x.1=κ)->(xs.map (putAt κ z)).map (·.2.2)=(xs.map (·.2.2)).set j z/\(xs.map (putAt κ z)).map (fun y=>Value.ref y.2.1)=xs.map (fun y=>Value.ref y.2.1)
 | [],j,_,⟨_,h,_⟩=>by cases h
 |x::xs,0,nd,⟨y,h,h'⟩=>by
  cases h
  have:xs.map (putAt κ z)=xs:=map_putAt_of_not_mem xs κ z (by rw [<-h'];exact (bi nd).1)
  rewrite [map_cons,this]
  simp [putAt,h']
 |x::xs,j+1,nd,⟨y,h,h'⟩=>by
  have nd':=bi nd
  obtain ⟨h1,h2⟩:=vw (κ:=κ) (z:=z) (xs:=xs) (j:=j) nd'.2 ⟨y,h,h'⟩
  have hx:x.1≠κ:=fun q=>nd'.1 (by show x.1∈_;rw [q,<-h'];exact List.mem_map_of_mem (mem_of_getElem? (i:=j) h))
  have e:putAt κ z x=x:=by unfold putAt;rw [if_neg hx]
  rewrite [map_cons,e]
  exact ⟨congrArg (x.2.2::·) h1,congrArg (Value.ref x.2.1::·) h2⟩
theorem kN {xs:List jO}{us:List T}{k:T}{κ:Ky}{i:Option Nat}(hk:gE us=some (xs.map (·.1)))(e:mn us k=some i)(e':yZ k=some κ):qW (xs.map (·.1)) κ=i:=by
 unfold mn at e
 rw [hk,e'] at e
 exact Option.some.inj e
theorem mQ {xs:List jO}{κ:Ky}{j:Nat}(e:qW (xs.map (·.1)) κ=some j):∃x,xs[j]?=some x/\x.1=κ:=by
 have:=vM e
 rw [getElem?_map] at this
 cases hx:xs[j]? with
 |none=>rw [hx] at this;cases this
 |some x=>rw [hx] at this;exact ⟨x,rfl,Option.some.inj this⟩
theorem lr {us:List T}{i:Option Nat}(e:mn us t=some i):∃κ,yZ t=some κ:=let ⟨_,κ,_,e2,_⟩:=bn e;⟨κ,e2⟩
theorem zN:jN P .In CR:=fun A g σ s x x' t t' b Q E rm w q q' e k=>by
 obtain ⟨p,e1,e2⟩:=aD e
 obtain ⟨i,e3,e4⟩:=aD e2
 cases e4
 obtain ⟨κ,hk⟩:=lr e3
 obtain ⟨d,rfl,xs,n,dd,kk,r,r',_⟩:=q'.d e1
 obtain ⟨ad,rfl,hi,_⟩:=n9 hk q
 have f:=kN kk e3 hk
 refine wpAny_in_heap (vr rm.units) hi n dd ?_
 rw [show (atKey xs κ).isSome=i.isSome by
  rw [oP,f]
  cases i with
  |none=>rfl
  |some j=>obtain ⟨x,hx,_⟩:=mQ f;rw [bind_some,hx];rfl]
 exact k _
theorem xh:jN P .NotIn fK:=fun A g σ s x x' t t' b Q E rm w q q' e k=>by
 obtain ⟨c,e1,rfl⟩:=ax e
 exact yw (zN A g σ s x x' t t' c _ E rm w q q' e1 fun tk=>⟨rfl,k tk⟩)
theorem yj {value slice:Expr}(hs:∀x y,subscripted slice false x y=operate [x,y] (getItem x y)):rJ P (Aj P value slice) idxD (RV P):=fun A env g σ s x x' t t' y Q E rm w q q' e hq=>by
 obtain ⟨p,e1,e2⟩:=aD e
 obtain ⟨i,e3,e4⟩:=aD e2
 obtain ⟨j,rfl,hv⟩:=aD e4
 obtain ⟨κ,hk⟩:=lr e3
 obtain ⟨d,rfl,xs,n,dd,kk,r,r',_⟩:=q.d e1
 obtain ⟨ad,rfl,hi,_⟩:=n9 hk q'
 have f:=kN kk e3 hk
 obtain ⟨z,hz,hz'⟩:=mQ f
 obtain ⟨u,hu',hr⟩:=r'.get hv
 rw [getElem?_map,hz] at hu'
 cases hu'
 refine tail_any dd.typeIs slot_dict_getitem.lookup (wpAny_getItem_heap (vr rm.units) hi dd (p:=z.2) ?_ (hq _ _ g (.toks g s _) w hr)) (hs _ _)
 rw [oP,f,bind_some,hz];rfl
theorem av.idxD {a i:Expr}{pa pi:PE}{pos:Pos}(hs:∀x y,subscripted i false x y=operate [x,y] (getItem x y))(ha:av P B C a pa (RX P))(hi:av P B C i pi (RX P)):av P B C (.Subscript a i pos) (p2 idxD pa pi) (RV P):=
 (ha.op2 hi.xy lA (yj hs)).map fun _ _ _ _ _=>Subscript_
theorem uN {f:T->Option Ky}:∀{ts:List T} {κs:List Ky} {t:T} {κ:Ky},my.go f ts=some κs->f t=some κ->my.go f (ts++[t])=some (κs++[κ])
 | [],_,t,κ,e,e'=>by cases e;rw [List.nil_append,w8,e'];rfl
 |x::ts,κs,t,κ,e,e'=>by
  obtain ⟨k,ks,e1,e2,e3⟩:=bn (show o2 (f x) (my.go f ts) _=some κs from e)
  cases e3
  rw [cons_append,w8,e1,uN e2 e'];rfl
theorem lR {xs:List jO}{us ts:List T}{k v:T}{κ:Ky}{i:Option Nat}{ad:Addr}{z:Value}(hk:gE us=some (xs.map (·.1)))(nd:(xs.map (·.1)).Nodup)(hd:mn us k=some i)(hky:yZ k=some κ)(r:bm P g h us (xs.map fun y=>Value.ref y.2.1))(r':bm P g h ts (xs.map (·.2.2)))(q:Rp P g h k (.ref ad))(q':Rp P g h v z):
  gE (nK i k v us ts).1=some ((storedH xs κ ad z).map (·.1))/\bm P g h (nK i k v us ts).1 ((storedH xs κ ad z).map fun y=>Value.ref y.2.1)/\bm P g h (nK i k v us ts).2 ((storedH xs κ ad z).map (·.2.2)):=by
 have f:=kN hk hd hky
 have a:=oP κ xs
 rw [f] at a
 cases i with
 |none=>
  rw [storedH_new a,map_append,map_append,map_append]
  exact ⟨uN hk hky,bm.append (bm.cons q bm.nil) r,bm.append (bm.cons q' bm.nil) r'⟩
 |some j=>
  obtain ⟨x,hx,hx'⟩:=mQ f
  rw [bind_some,hx] at a
  rw [storedH_old a,keys_map_putAt]
  obtain ⟨h1,h2⟩:=vw (z:=z) nd ⟨x,hx,hx'⟩
  exact ⟨hk,by rw [h2];exact r,by rw [h1];exact r'.set q' j⟩
theorem yd {α:Type}{i:Option Nat}{k v:α}{ks vs:List α}(h:ks.length+1<=lim):(nK i k v ks vs).1.length<=lim:=by
 cases i with
 |none=>rw [nK,List.length_append];exact h
 |some j=>exact Nat.le_of_succ_le h
noncomputable def Pu (P:Pg)(F:T->T->T->Option T):Prop:=
 ∀A g σ s a xk xv t κ v y Q E,Rm A->bN P g s.heap σ->iY P g s.heap a t->fU P g s.heap κ xk->Rp P g s.heap v xv->F t κ v=some y->
  (∀h' tk,(∀b,b≠a->h'.get? b=s.heap.get? b)->(aZ g s.heap g h'->iY P g h' a y)->Q () {s with heap:=h',toks:=tk})->wpAny P.M A (setItem (.ref a) xk xv) Q E s
theorem vy:Pu P eG:=fun A g σ s a xk xv t κ v y Q E rm w r rk rv e hq=>by
 obtain ⟨p,e1,e2⟩:=aD e
 obtain ⟨i,e3,e4⟩:=aD e2
 obtain ⟨hl,rfl⟩:=gG e4
 cases Ac e1
 obtain ⟨ky,hk⟩:=lr e3
 obtain ⟨xs,n,dd,kk,r1,r2,_⟩:=Ay.is r
 obtain ⟨ad,rfl,hi,rk⟩:=n9 hk rk
 have nd:(xs.map (·.1)).Nodup:=let ⟨_,_,_,_,_,_,_,_,nd⟩:=dd;nd
 have hxl:xs.length<=sizeLine:=bD (by have:=r1.length;rw [length_map] at this;lia -abstractProof)
 refine wpAny_setItem_heap (vr rm.units) hi dd (fun h' dd' hs=>hq h' _ hs.2 fun kf=>?_) hxl
 obtain ⟨g1,g2,g3⟩:=lR (v:=v) (z:=xv) kk nd e3 hk r1 r2 rk rv
 exact Gw.back n dd' g1 (g2.mono kf) (g3.mono kf) (yd hl)
theorem o5 {prog:Program}{w:World}{A:Around}{E:Value->Shared->Prop}{s:Shared}{l:Addr}{items:Array Value}{n:Nat}{k:Int}{t:Tok}{v:Value}{Q:Unit->Shared->Prop}(hl:IsL s.heap l items n)(h0:0<=k)(hj:k < items.size)(hfit:k < 2 ^ 63)
  (hQ:Q () {s with heap:=s.heap.update l (Obj.mapSeq (·.setIfInBounds k.toNat v))}):wpAny (model prog w) A (setItem (.ref l) (.int k t) v) Q E s:=by
 have hT:s.TypeIs (.ref l) "list":=⟨_,hl,rfl⟩
 unfold setItem
 try with_reducible refine wpAny_holding ?_
 first |refine wpAny_bind (wpAny_pure ?_) |skip
 refine wpAny_bind (wpAny_sequenceKey hT (by decide) ?_)
 refine wpAny_bind (wpAny_callSpecial?_slot (name:=ofString "__setitem__") hT slot_list_setitem (wpAny_call_entry slot_list_setitem hT entry_list_setitem ?_ (args_list_setitem _ _ _)))
 show wpAny _ _ (Builtin.List.listSubscript? (.int k t) >>=_) _ _ s
 refine wpAny_bind (wpAny_listSubscript_int (fitsIndex_of h0 hfit) ?_)
 clear hfit
 obtain ⟨j,rfl⟩:=Int.eq_ofNat_of_zero_le h0
 have hj:j < items.size:=by lia -abstractProof
 show wpAny _ _ ((seqItemAt l j >>=fun r=>pure (r.map (j,·))) >>=_) _ _ s
 refine wpAny_bind (wpAny_bind (wpAny_seqItemAt hl rfl (wpAny_pure ?_)))
 rw [Array.getElem?_eq_getElem hj]
 show wpAny _ _ (setSeqItemAt l j v >>=_) _ _ s
 refine wpAny_bind (wpAny_setSeqItemAt hl rfl ?_)
 first
  |exact wpAny_bind (wpAny_pure (wpAny_pure ⟨.none,rfl,wpAny_pure hQ⟩))
  |exact wpAny_pure ⟨.none,rfl,wpAny_pure hQ⟩
theorem yc:Pu P ur:=fun A g σ s a xk xv t κ v y Q E rm w r rk rv e hq=>by
 obtain ⟨xs,i,e1,e2,e3⟩:=bn e
 obtain ⟨c,rfl⟩:=de e3
 obtain ⟨c1,c2⟩:=ai c
 have c1:=of_decide_eq_true c1
 have c2:=of_decide_eq_true c2
 cases fT e1
 obtain ⟨vs,n,a1,a3,a2⟩:=r
 obtain ⟨p,rfl⟩:=rk.i e2
 have hz:=a2.size
 refine o5 a1 c1 (by rw [hz];exact c2) (Int.lt_trans c2 (vK a3)) (hq _ s.toks (Heap.SameBut.update s.heap a (Obj.mapSeq (·.setIfInBounds i.toNat xv))).2 fun kf=>⟨_,_,IsL.update a1 (·.setIfInBounds i.toNat xv),by rw [length_set];exact a3,?_⟩)
 rw [Array.toList_setIfInBounds]
 exact (a2.mono kf).set (rv.mono kf) i.toNat
theorem aX.put {i e:Expr}{y:Str}{k:NameKind}{np p pos:Pos}{pi pe:PE}{j:Nat}{F:T->T->T->Option T}(o:Pu P F)(hv:bL C j=true)(ht:B.tab[j]?=some (some (y,k)))(hw:∀env,swapsWith e (some (.Subscript (.Name y np) i p)) pos.line env=pure false)(h2:av P B C i pi (RX P))(h3:av P B C e pe (RV P)):
  aX P B C fr C (.Assign [.Subscript (.Name y np) i p] e pos) (ud j F pi pe):=fun n A env g ρ σ s kk Q E X hb hq hr=>by
 refine wpAny_Assign_Subscript (h3 n A env g ρ σ s _ _ E X hb fun z s₁ ga v σ₁ ea p1 w1 ra=>?_) (hw env)
 have X1:=X.post p1 w1
 have ea:ud j F pi pe (P.cx n) ρ σ kk=(match bV ρ j with |some x=>pi (P.cx n) ρ σ₁ fun κ σ=>up (F x κ v) σ fun y σ=>kk (ρ.set j (some y)) σ |none=>.bad):=ea
 cases e0:bV ρ j with
 |none=>rw [e0] at ea;exact absurd ea hb
 |some t=>
  rw [e0] at ea
  have hb1:=fun q=>hb (ea.trans q)
  obtain ⟨u,va,q⟩:=X1.env.var j _ t ht e0
  unfold bW at q
  rw [hv] at q
  obtain ⟨a,rfl,oi,r⟩:=q
  refine bJ X1 ht va (h2 n A env ga ρ σ₁ s₁ _ _ E X1 hb1 fun xk s2 gb κ σ₂ eb pb w2 rb=>?_)
  obtain ⟨y',e'⟩:=cG fun q=>hb1 (eb.trans q)
  have X2:=X1.post pb w2
  refine o A gb σ₂ s2 a xk z t κ v y' _ _ X.rm w2 (r.mono (pb.k w1) fun o e=>pb.keep a o e (X1.g.O a ⟨j,oi⟩).2.2) (jq.y rb) (Rp.mono (pb.k w1) ra) e' fun h' tk hs hy=>?_
  obtain ⟨pS,X'⟩:=mw X2 hv (by rw [e0];exact fun q=>by cases q) (by rw [pb.o];exact oi) (va.move fun b m o e=>pb.keep b o e (X1.env.own b m).2.2.1) hs hy tk
  exact hq _ _ _ σ₂ (ea.trans (eb.trans (by rw [e'];rfl))) ((p1.trans pb).toS.trans pS) X'
theorem qv {g:Gh}{σ:Sg}{s:Shared}(G:t3 P)(w:bN P g s.heap σ):(s.heap.objs.size==sysModules)=false:=by
 obtain ⟨o,_,_,e,_⟩:=G.g
 have:=Heap.lt_size (w.base _ _ e).2
 exact beq_eq_false_iff_ne.mpr fun q=>by rw [q] at this;exact absurd this (by decide)
theorem av.dic {pos:Pos}:av P B C (.Dict [] [] pos) ux (RN P):=fun n A env g ρ σ s k Q E X hb hq=>by
 refine wpAny_Dict_empty (hq _ _ g _ σ rfl (.push _ s.toks) (X.g.push _) ?_)
 obtain ⟨h1,h2,h3⟩:=eB X.g
 exact ⟨_,rfl,aR _,h1,h2,h3,qv X.good X.g,_,[],ch _,⟨⟨rfl,rfl,rfl⟩,⟨_,rfl⟩,⟨[],rfl,rfl,.nil⟩,zero_le _⟩,rfl,rfl⟩
end
end
end Mine
namespace Mine
noncomputable section
open PySem PyProof.Rows PySem.SeqAt
inductive bP (P:Pg) (c:Nat) (ms:List (Str×Nat)):Prop
 |mk (N:Addr) (mN:Str->Option Value) (K:ClsAt P.h₀ (P.cls c) N mN) (g1:mN "__getattribute__"=none) (g2:mN "__getattr__"=none) (g3:mN "__setattr__"=none) (g4:∀x∈cE c,mN x=none/\typeLookup (.type "object") x=pure none)
  (g5:∀p∈ms,mN p.1=some (.ref (P.fnA p.2))/\(∃y,typeLookup (.type "object") p.1=pure y)/\∃o,P.h₀.get? (P.fnA p.2)=some o/\o.cls=.type "function")
noncomputable abbrev EL (P:Pg)(h:Heap):Prop:=∀a o,P.h₀.get? a=some o->h.get? a=some o
section
variable {P:Pg} {B:b7} {C C':Ct} {fr:Bool} {n c i f:Nat} {A:Around} {env:Env} {g g':Gh} {ρ:aW} {σ:Sg} {s s':Shared} {h h':Heap} {t:T} {x:Value} {ms:List (Str×Nat)} {name:Str} {m:Str->Option Value} {dx a:Addr} {us:List Value} {E:Value->Shared->Prop}
theorem bN.bs (w:bN P g h σ):EL P h:=fun a o e=>(w.base a o e).2
theorem e9.inst (i:e9 P h c m dx a):h.Inst a (P.cls c) m:=let ⟨o,e,k,n,ne⟩:=i;⟨o,e,k.cls,k.no,.inr ⟨dx,k.dict,ne,n⟩⟩
theorem lJ {u:Value}{Q:Value->Shared->Prop}(O:bP P c ms)(hn:name∈cE c)(bs:EL P s.heap)(i:e9 P s.heap c m dx a)(hm:m name=some u)(hu:handedOut u=pure u)(hq:Q u {s with toks:=s.toks+1}):wpAny P.M A (getAttr (.ref a) name true) Q E s:=by
 obtain ⟨N,mN,K,g1,g2,g3,g4,g5⟩:=O
 obtain ⟨nm,q,bs',sn,sub,col,dd,k0,k1,k2,k3,k5,hC⟩:=(K.keeps bs).obj
 exact load_attr (h:=s.heap) hC (K.keeps bs).ns g1 (g4 name hn).1 (g4 name hn).2 i.inst hm hu hq
theorem yE {pl:Sem Bool}{Q:Value×List Value->Shared->Prop}(O:bP P c ms)(hm:(name,f)∈ms)(hn:name∉cE c)(bs:EL P s.heap)(i:e9 P s.heap c m dx a)(k:tZ c m us)(hq:Q (.ref (P.fnA f),[.ref a]) s):wpAny P.M A (getMethod (.ref a) name pl) Q E s:=by
 obtain ⟨N,mN,K,g1,g2,g3,g4,g5⟩:=O
 obtain ⟨i1,⟨y,hy⟩,oI,i2,i3⟩:=g5 _ hm
 obtain ⟨nm,q,bs',sn,sub,col,dd,k0,k1,k2,k3,k5,hC⟩:=(K.keeps bs).obj
 exact method_of (h:=s.heap) hC (K.keeps bs).ns g1 g2 i1 (bs _ _ i2) i3 hy i.inst (k.no name hn) hq
theorem Rp.handed (r:Rp P g h t x):handedOut x=pure x:=by
 have k:∀{y:Value},x=y->handedOut y=pure y->handedOut x=pure x:=fun e h=>e▸h
 cases t with
 |none=>exact k r rfl
 |bool=>exact k r rfl
 |int=>exact let ⟨_,e⟩:=r;k e rfl
 |str=>exact let ⟨_,_,e⟩:=r;k e rfl
 |scr=>exact let ⟨_,_,e,_,_,_⟩:=r;k e rfl
 |spot=>exact k r rfl
 |self=>exact (show False from r).elim
 |_=>exact let ⟨_,e,_,_⟩:=r;k e rfl
theorem rG {α:Type}{c:Bool}{o:Option α}{y:α}(h:(bif c then o else none)=some y):c=true/\o=some y:=by
 cases c with
 |true=>exact ⟨rfl,h⟩
 |false=>cases h
theorem Ab {ts:List T}(e:GQ c t=some ts):t=.obj c ts:=by
 cases t with
 |obj c' us=>obtain ⟨h,rfl⟩:=de e;rw [eq_of_beq_eq_true h]
 |_=>cases e
theorem v9 (O:bP P c ms)(hn:(cE c)[i]?=some name):Ax P (EH P fun x=>getAttr x name true) (kO c i) (RV P):=fun A env g σ s x t y Q E rm w q e hq=>by
 obtain ⟨ts,e1,e2⟩:=aD e
 cases Ab e1
 obtain ⟨a,rfl,f,dx,m,us,fd,ih,k,r⟩:=q.v fun _ h=>h
 obtain ⟨u,hu,hr⟩:=r.get e2
 exact lJ O (mem_of_getElem? hn) w.bs ih (k.at_ i name u hu hn) hr.handed (hq u _ g (.toks g s _) w hr)
theorem u7 {M:Model}{o:Expr}{attr:Str}{pos:Pos}{Q:Value->Shared->Prop}(hbase:attributeBase o attr env (eval o env)=eval o env)(hlet:∀x r,letTemporaryGo o x r=pure ())
  (h:wpAny M A (eval o env) (fun o s₁=>wpAny M A (getAttr o attr true) Q E s₁) E s):wpAny M A (eval (.Attribute o attr pos) env) Q E s:=by
 rw [arm_eval_Attribute,hbase]
 refine wpAny_bind (wpAny_mono h (fun o s₁ ha=>wpAny_bind (wpAny_standAt (wpAny_bind (wpAny_holding (wpAny_mono ha (fun r s2 hc=>?_) fun _ _ y=>y))))) fun _ _ y=>y)
 rw [hlet]
 exact wpAny_bind (wpAny_pure (wpAny_pure hc))
theorem av.attr {o:Expr}{pos:Pos}{p:PE}(O:bP P c ms)(hn:(cE c)[i]?=some name)(hbase:∀env,attributeBase o name env (eval o env)=eval o env)(hlet:∀x r,letTemporaryGo o x r=pure ())(h:av P B C o p (RV P)):av P B C (.Attribute o name pos) (p1 (kO c i) p) (RV P):=
 (h.vx.xy.op1 lA (v9 O hn)).map fun _ env _ _ _=>u7 (hbase env) hlet
theorem bW.self {i:Nat}{u:Value}(q:bW P C g h i .self u):u=.ref g.sa:=by
 unfold bW at q
 cases e:bL C i with
 |true=>rw [e] at q;exact let ⟨_,_,_,r⟩:=q;(show False from r).elim
 |false=>rw [e] at q;exact q.elim (fun r=>(show False from r).elim) (·.2.2.2)
theorem av.rat {y:Str}{k:NameKind}{np pos:Pos}(O:bP P c ms)(hn:(cE c)[i]?=some name)(ho:bL C 0=false)(ht:B.tab[0]?=some (some (y,k))):av P B C (.Attribute (.Name y np) name pos) (fX c i) (RV P):=fun n A env g ρ σ s kk Q E X hb hq=>by
 obtain ⟨u,e⟩:=cG hb
 obtain ⟨t,e0,e1⟩:=aD e
 obtain ⟨v,va,q⟩:=X.env.var 0 _ t ht e0
 unfold bW at q
 rw [ho] at q
 have ek:fX c i (P.cx n) ρ σ kk=kk u σ:=by unfold fX;rw [e];rfl
 refine u7 rfl (fun _ _=>rfl) (bJ X ht va ?_)
 rcases q with r | ⟨_,_,rfl,rfl⟩
 .exact v9 O hn A env g σ s v t u Q E X.rm X.g (.inl r) (by cases t<;>first |exact e1 |exact (show False from r).elim) fun x s' g' p w r=>hq x s' g' u σ ek p w r
 .obtain ⟨p,e2,e3⟩:=aD e1
  obtain ⟨b,e4⟩:=rG e3
  obtain ⟨b1,b2⟩:=ai b
  obtain ⟨dx,m,us,ih,z,z',ne,k,l,sh,_,_⟩:=X.g.self p.1 p.2 e2
  obtain rfl:=eq_of_beq_eq_true b1
  have hi:i < us.length:=by rw [l];exact (ak e4).1
  have r:=sh i _ u (getElem?_eq_getElem hi) e4 ((not_eq_true' _).mp b2)
  exact lJ O (mem_of_getElem? hn) X.g.bs ih (k.at_ i name _ (getElem?_eq_getElem hi) hn) r.handed (hq _ _ g u σ ek (.toks g s _) X.g r)
theorem t5 {M:Model}{o:Expr}{apos pos:Pos}{args:List Expr}{Q:Value->Shared->Prop}(hbase:attributeBase o name env (eval o env)=eval o env)
  (hfew:methodCallForm (args.length+([]:List Keyword).length) (backTo pos (starEach args env)) (backToKw pos (keywordEach [] env))=true)(hline:(apos.endLine==pos.line)=true)
  (h:wpAny M A (eval o env) (fun ov s₁=>∀pl,wpAny M A (getMethod ov name pl) (fun fv s2=>wpAny M A (callWith pos fv.1 fv.2 (backTo pos (starEach args env)) []) Q E s2) E s₁) E s):
  wpAny M A (eval (.Call (.Attribute o name apos) args [] pos) env) Q E s:=by
 rw [arm_eval_Call,hbase]
 refine wpAny_bind (wpAny_mono h (fun ov s₁ ha=>?_) fun _ _ e=>e)
 refine wpAny_bind (wpAny_standAt ?_)
 have hpos:methodCallPos true o env apos pos=pure pos:=by unfold methodCallPos;simp [hline]
 unfold methodCall
 rw [hfew]
 refine wpAny_bind (wpAny_holding ?_)
 exact wpAny_mono (ha _) (fun fv s2 hc=>wpAny_bind (wpAny_of_eq hpos hc)) fun _ _ e=>e
noncomputable def GC (c f:Nat)(name:Str)(apos pos:Pos)(k:Nat):Bool:=!(cE c).contains name&&(t9 f&&(!kW f&&((apos.endLine==pos.line)&&Nat.ble k 20)))
structure Gr (c f:Nat) (name:Str) (apos pos:Pos) (k:Nat):Prop where
 n:name∉cE c
 m:t9 f=true
 f:kW f=false
 l:(apos.endLine==pos.line)=true
 k:k<=20
theorem yL {apos pos:Pos}{k:Nat}(h:GC c f name apos pos k=true):Gr c f name apos pos k:=by
 obtain ⟨h1,h⟩:=ai h
 obtain ⟨h2,h⟩:=ai h
 obtain ⟨h3,h⟩:=ai h
 obtain ⟨h4,h⟩:=ai h
 exact ⟨(fun q=>by rw [List.contains_iff_mem.mpr q] at h1;cases h1),h2,(not_eq_true' _).mp h3,h4,le_of_ble_eq_true h⟩
theorem few {es:List Expr}{pos:Pos}(hp:∀q∈starEach es env,q.1=false)(hl:es.length<=20):methodCallForm (es.length+([]:List Keyword).length) (backTo pos (starEach es env)) (backToKw pos (keywordEach [] env))=true:=by
 have h1:(backTo pos (starEach es env)).all (fun x=>!x.1)=true:=all_eq_true.mpr fun p hp'=>by rw [cc hp p hp'];rfl
 unfold methodCallForm
 rw [h1]
 show (true&&true&&decide (es.length+0+0 < 30))=true
 simp;lia -abstractProof
theorem pW {es:List Expr}{ps:PL}{apos pos:Pos}{F:gK}{k:PK T}{Q:Value->Shared->Prop}(O:bP P c ms)(hm:(name,f)∈ms)(hf:P.Ψ f=some F)(me:Gr c f name apos pos es.length)(h':ig P B C es ps)(X:At P B C n A env g ρ σ s)(i:e9 P s.heap c m dx a)(kf:tZ c m us)(hr:Rp P g s.heap t (.ref a)\/(t=.self/\a=g.sa))
  (hb:(ps (P.cx n) ρ σ fun ts σ=>sH ((P.cx n).call f (t::ts) σ) k)≠.bad)(hq:∀x s' g' u σ',(ps (P.cx n) ρ σ fun ts σ=>sH ((P.cx n).call f (t::ts) σ) k)=k u σ'->aQ g s g' s'->bN P g' s'.heap σ'->Rp P g' s'.heap u x->Q x s')(pl:Sem Bool):
  wpAny P.M A (getMethod (.ref a) name pl) (fun fv s2=>wpAny P.M A (callWith pos fv.1 fv.2 (backTo pos (starEach es env)) []) Q E s2) E s:=by
 obtain ⟨o,w1,w2,_⟩:=X.good.fn f F hf
 refine yE O hm me.n X.base i kf (Calls.callWith_function (fd:=P.fd f) (o:=o) (iP (cc (h'.pl env)) (h'.sim pos n A env g ρ σ s _ _ E X hb fun xs s₁ ga ts σ₁ e p w r=>⟨⟨(w.base _ _ w1).2,w2⟩,?_⟩)))
 obtain ⟨u,σ₂,ec⟩:=yn fun q=>hb (e.trans q)
 refine tx (X.post p w) (ts:=t::ts) (by rw [me.m];exact ⟨_,_,_,_,rfl,rfl,hr.imp (·.mono (p.k X.g)) (fun ⟨a,b⟩=>⟨a,by rw [p.sa,b]⟩),r⟩) ec fun x s' g' p' w' r'=>hq x s' g' u σ₂ (e.trans (by rw [ec,vE])) (p.trans p') w' (by rw [me.f] at r';exact r')
theorem av.meth {o:Expr}{es:List Expr}{p:PE}{ps:PL}{apos pos:Pos}{F:gK}(O:bP P c ms)(hm:(name,f)∈ms)(hf:P.Ψ f=some F)(me:GC c f name apos pos es.length=true)(hbase:∀env,attributeBase o name env (eval o env)=eval o env)(h:av P B C o p (RV P))(h':ig P B C es ps):
  av P B C (.Call (.Attribute o name apos) es [] pos) (rN c f p ps) (RV P):=
 have me:=yL me
 (h.bind (N:=fun A env x Q E s=>∀pl,wpAny P.M A (getMethod x name pl) (fun fv s2=>wpAny P.M A (callWith pos fv.1 fv.2 (backTo pos (starEach es env)) []) Q E s2) E s) (F:=fun cx ρ k t σ=>gd (GQ c t).isSome (ps cx ρ σ fun ts σ=>sH (cx.call f (t::ts) σ) k)) lA fun n A env g ga ρ σ s s₁ x t k Q E p X r hb hq=>by
  have hk:=ku hb
  rw [hk] at hb hq
  obtain ⟨ts,e⟩:=aO hk
  cases Ab e
  obtain ⟨a,rfl,_,dx,m,us,_,ih,kf,_⟩:=id r
  exact pW O hm hf me h' X ih kf (.inl r) hb hq).map fun A env Q E s h=>t5 (hbase env) (few (h'.pl env) me.k) me.l h
theorem qY (h:w0 c ρ σ=true):bV ρ 0=some .self/\∃ts,σ.self=some (c,ts):=by
 unfold w0 at h
 cases e:bV ρ 0 with
 |none=>rw [e] at h;cases h
 |some t=>
  rw [e] at h
  cases t with
  |self=>
   refine ⟨rfl,?_⟩
   cases e':σ.self with
   |none=>simp only [e'] at h;cases h
   |some p=>simp only [e'] at h;exact ⟨p.2,by rw [<-eq_of_beq_eq_true h]⟩
  |_=>cases h
theorem av.rmeth {y:Str}{kd:NameKind}{np apos pos:Pos}{es:List Expr}{ps:PL}{F:gK}(O:bP P c ms)(hm:(name,f)∈ms)(hf:P.Ψ f=some F)(me:GC c f name apos pos es.length=true)(ht:B.tab[0]?=some (some (y,kd)))(h':ig P B C es ps):
  av P B C (.Call (.Attribute (.Name y np) name apos) es [] pos) (sG c f ps) (RV P):=fun n A env g ρ σ s k Q E X hb hq=>by
 have me:=yL me
 unfold sG at hb hq
 have hs:=ku hb
 rw [hs] at hb hq
 obtain ⟨e0,ts,e1⟩:=qY hs
 obtain ⟨v,va,q⟩:=X.env.var 0 _ _ ht e0
 cases q.self
 obtain ⟨dx,m,us,ih,_,_,_,kf,_⟩:=X.g.self c ts e1
 exact t5 rfl (few (h'.pl env) me.k) me.l (bJ X ht va (pW O hm hf me h' X ih kf (.inr ⟨rfl,rfl⟩) hb hq))
end
section
variable {P:Pg} {B:b7} {C C':Ct} {fr:Bool} {n c i f:Nat} {A:Around} {env:Env} {g g' g2:Gh} {ρ:aW} {σ σ' σ₂:Sg} {s s' s2:Shared} {h h':Heap} {t:T} {x:Value} {ms:List (Str×Nat)} {name:Str} {m:Str->Option Value} {dx a:Addr} {us:List Value} {E:Value->Shared->Prop} {ts:List T}
theorem cP (k:∀a o,h.get? a=some o->h'.get? a=some o)(a:Addr)(e:h'.get? a=none):h.get? a=none:=by
 cases q:h.get? a with
 |none=>rfl
 |some o=>exact (ay (k a o q) e).elim
theorem bm.of:∀{us:List Value} {ts:List T},us.length=ts.length->(∀(i:Nat) (v:Value) (t:T),us[i]?=some v->ts[i]?=some t->Rp P g h t v)->bm P g h ts us
 | [],[],_,_=>rfl
 |v::us,t::ts,l,k=>⟨v,us,rfl,k 0 v t rfl rfl,bm.of (Nat.succ.inj l) fun i=>k (i+1)⟩
theorem bN.make {x:Addr}(w:bN P g h σ)(m:Heap.MadeObj h h' x dx (P.cls c)):bN P {g with Z:=fun y=>g.Z y\/y=x\/y=dx,sa:=x} h' ⟨σ.spot,some (c,[])⟩:=by
 obtain ⟨o,hx,hc,hnc,hd⟩:=m.inst
 have hdd:=m.dict o hx
 obtain ⟨ns,ne⟩:h'.Ns1 dx (fun _=>none)/\dx≠x:=by
  rcases hd with ⟨q,_⟩ | ⟨d',q,hne,hns⟩
  .rw [q] at hdd;cases hdd
  .rw [q] at hdd;cases hdd;exact ⟨hns,hne⟩
 have lv:∀a,h.get? a≠none->h'.get? a≠none:=fun a l e=>l (cP m.keeps a e)
 have nn:∀a,h.get? a≠none->a≠x/\a≠dx:=fun a l=>⟨fun q=>l (q▸m.newX),fun q=>l (q▸m.newD)⟩
 have ld:h'.get? dx≠none:=let ⟨_,_,_,e,_⟩:=ns;ay e
 have sp:=nn _ (w.Z _ w.spot.2.1).1
 exact ⟨fun a o e=>⟨(w.base a o e).1,m.keeps a o (w.base a o e).2⟩,fun a f=>lv a (w.F a f),
  fun a z=>z.elim (fun z=>⟨lv a (w.Z a z).1,(w.Z a z).2⟩) fun z=>z.elim (fun e=>by rw [e];exact ⟨ay hx,fun f=>w.F _ f m.newX⟩) fun e=>by rw [e];exact ⟨ld,fun f=>w.F _ f m.newD⟩,
  fun a q=>⟨lv a (w.O a q).1,(w.O a q).2.1,fun z=>z.elim (w.O a q).2.2 fun z=>z.elim (nn a (w.O a q).1).1 (nn a (w.O a q).1).2⟩,
  w.oo,⟨let ⟨t,n,e⟩:=w.spot.1;⟨t,n,m.keeps _ _ e⟩,.inl w.spot.2.1,fun q=>nomatch q⟩,
  fun c' ts e=>by cases e;exact ⟨dx,_,[],⟨o,hx,⟨hc,hdd,hnc⟩,ns,ne⟩,.inr (.inl rfl),.inr (.inr rfl),⟨fun q=>sp.2 q.symm,fun q=>sp.1 q.symm⟩,⟨fun _ _=>rfl,fun _ _ _ q=>nomatch q⟩,rfl,(fun _ _ _ q=>nomatch q),(fun _ _ _ q=>nomatch q),fun _ _ _ q=>nomatch q⟩⟩
theorem AZ {x:Addr}(w:bN P g s.heap σ)(hσ:σ.self=none)(m:Heap.MadeObj s.heap h' x dx (P.cls c))(p2:aQ {g with Z:=fun y=>g.Z y\/y=x\/y=dx,sa:=x} {s with heap:=h'} g2 s2)(w2:bN P g2 s2.heap σ₂)(hs:σ₂.self=some (c,ts)):
  ∃g',aQ g s g' s2/\bN P g' s2.heap ⟨σ₂.spot,none⟩/\Rp P g' s2.heap (.obj c ts) (.ref x):=by
 have mb:=cP m.keeps
 have b:∀a,s2.heap.get? a=none->s.heap.get? a=none:=fun a e=>mb a (p2.back a e)
 have fn:∀a,g2.F a->g.F a\/s.heap.get? a=none:=fun a f=>(p2.Fn a f).imp_right (mb a)
 have zn:∀a,g2.Z a->a=g.sp\/s.heap.get? a=none:=fun a z=>(p2.Zn a z).elim (fun z=>z.elim (fun z=>.inl (w.spot.2.2 hσ a z)) fun z=>.inr (z.elim (fun e=>e▸m.newX) fun e=>e▸m.newD)) fun e=>.inr (mb a e)
 have hsp:g2.sp=g.sp:=p2.sp
 refine ⟨⟨fun y=>g2.F y\/(g2.Z y/\s.heap.get? y=none),g.Z,g.o,g.sp,g.sa⟩,⟨St.trans ⟨h',s.toks,rfl⟩ p2.st,fun a o e z=>p2.keep a o (m.keeps a o e) fun q=>q.elim z fun q=>q.elim (fun q=>ay e (q▸m.newX)) fun q=>ay e (q▸m.newD),b,fun a f=>.inl (p2.F a f),fun a f=>f.elim (fn a) fun q=>.inr q.2,fun a z=>.inl z,rfl,rfl,rfl⟩,
  ⟨fun a o e=>⟨.inl (w2.base a o e).1,(w2.base a o e).2⟩,fun a f=>f.elim (w2.F a) fun q=>(w2.Z a q.1).1,fun a z=>⟨fun e=>(w.Z a z).1 (b a e),fun f=>f.elim (fun f=>(fn a f).elim (w.Z a z).2 (w.Z a z).1) fun q=>(w.Z a z).1 q.2⟩,
   fun a q=>⟨fun e=>(w.O a q).1 (b a e),fun f=>f.elim (fun f=>(fn a f).elim (w.O a q).2.1 (w.O a q).1) fun z=>(w.O a q).1 z.2,(w.O a q).2.2⟩,w.oo,⟨let ⟨t,n,e⟩:=w2.spot.1;⟨t,n,hsp▸e⟩,w.spot.2.1,fun _=>w.spot.2.2 hσ⟩,fun _ _ q=>nomatch q⟩,?_⟩
 obtain ⟨dx',m',us,ih,z,z',ne,k,l,sh,ow,_⟩:=w2.self c ts hs
 have sa:g2.sa=x:=p2.sa
 have nw:∀a,g2.Z a->a≠g2.sp->s.heap.get? a=none:=fun a z q=>(zn a z).resolve_left (hsp▸q)
 refine ⟨x,rfl,.inr (sa▸⟨z,nw _ z ne.2⟩),dx',m',us,.inr ⟨z',nw _ z' ne.1⟩,sa▸ih,k,bm.of l fun i v t h1 h2=>?_⟩
 have kf:aZ g2 s2.heap ⟨fun y=>g2.F y\/(g2.Z y/\s.heap.get? y=none),g.Z,g.o,g.sp,g.sa⟩ s2.heap:=⟨fun a f=>⟨.inl f,fun _ e=>e⟩,hsp.symm⟩
 cases ho:iI c i with
 |false=>exact (sh i v t h1 h2 ho).mono kf
 |true=>
  obtain ⟨a,rfl,za,na,ra⟩:=ow i v t h1 h2 ho
  exact (ra.mono kf fun _ e=>e).rp (.inr ⟨za,nw a za na.2.2⟩)
theorem A0 {o:cg}{k:PK T}(hb:mc c o k≠.bad):∃σ ts,o=.ret .none σ/\σ.self=some (c,ts)/\mc c o k=k (.obj c ts) ⟨σ.spot,none⟩:=by
 cases o with
 |ret t σ=>
  unfold mc at hb ⊢
  have h1:=lH hb
  obtain rfl:t=.none:=by cases t<;>first |rfl |cases h1
  cases e:σ.self with
  |none=>simp only [e] at hb;exact absurd rfl hb
  |some p=>
   simp only [e,h1,cond_true] at hb ⊢
   have h2:=lH hb
   obtain rfl:=eq_of_beq_eq_true h2
   exact ⟨σ,p.2,rfl,e,by rw [h2];rfl⟩
 |_=>exact absurd (by with_unfolding_all rfl) hb
theorem av.new {y:Str}{e:Expr}{es:List Expr}{ps:PL}{p pos:Pos}(O:bP P c ms)(hi:(ofString "__init__",f)∈ms)(hf:(t9 f&&!kW f)=true)(hg:P.mg y=some (.ref (P.cls c)))(hx:B.sc.names.lookup y=some .globalImplicit)(hd:(y==("__debug__":Str))=false)
  (hs:∀env,starEach (e::es) env=(false,eval e env)::starEach es env)(h:ig P B C (e::es) ps):av P B C (.Call (.Name y p) (e::es) [] pos) (uv c f ps) (RV P):=fun n A env g ρ σ s k Q E X hb hq=>by
 obtain ⟨N,mN,K,_,_,_,_,g5⟩:=O
 obtain ⟨i1,_,oI,i2,i3⟩:=g5 _ hi
 refine Call_Name rfl (X.glob hx hd hg (callWith_cls (e:=e) (rest:=es) K (h.sim pos n A env g ρ σ s _ _ E X hb fun xs s₁ g1 ts σ₁ ea p1 w1 r1=>⟨w1.bs,?_⟩) (hs env) ?_))
 .have hb1:=fun q=>hb (ea.trans q)
  cases hσ:σ₁.self with
  |some q=>simp only [hσ] at hb1;exact (hb1 trivial).elim
  |none=>
   simp only [hσ] at hb1 ea
   obtain ⟨σ₂,ts',ec,h2,h3⟩:=A0 hb1
   obtain ⟨nm,q,bs,sn,sub,col,dd,k0,k1,k2,k3,k5,hC⟩:=(K.keeps w1.bs).obj
   refine wpAny_call_obj_init (h:=s₁.heap) PySem.F.objNew hC (K.keeps w1.bs).ns i1 (w1.bs _ _ i2) i3 fun h' x dx m=>?_
   obtain ⟨f1,f2⟩:=ai hf
   have f2:=(not_eq_true' _).mp f2
   refine wpAny_call (codeAny_mono (X.call n (le_refl n) f (A.under (.builtin "type.__call__" ⟨.ref (P.cls c)::xs,[]⟩)) (.self::ts) (.ref x::xs) _ _ {s₁ with heap:=h'} .none σ₂ (fun r s'=>r=.none/\Q (.ref x) s') E ?_ (w1.make m) ?_ ec fun u s' g' p' w' r'=>?_) fun r s' q=>?_)
   .exact ⟨by have:=X.room.1;show A.depth+1+2 * n+9 < _;lia -abstractProof,by have:=X.room.2.1;show A.units+1+20 * n+190 < _;lia -abstractProof,X.room.2.2⟩
   .rw [f1];exact ⟨_,_,_,_,rfl,rfl,.inr ⟨rfl,rfl⟩,bm.mono (g:=g1) (g':={g1 with Z:=fun y=>g1.Z y\/y=x\/y=dx,sa:=x}) (h:=s₁.heap) (h':=h') ⟨fun a f=>⟨f,m.keeps a⟩,rfl⟩ r1⟩
   .rw [f2] at r'
    obtain ⟨g2,p2,w2,r2⟩:=AZ w1 hσ m p' w' h2
    exact ⟨r',hq _ _ g2 _ _ (ea.trans h3) (p1.trans p2) w2 r2⟩
   .match r,q with
    |.ok (.ret u),q=>exact q
    |.ok .next,q=>exact q.elim
    |.ok .brk,q=>exact q.elim
    |.ok .cont,q=>exact q.elim
    |.error u,q=>exact q
 .refine List.any_eq_false.mpr fun q hq'=>?_
  rw [cc (fun q hq=>h.pl env q (by rw [hs];exact mem_cons_of_mem _ hq)) q hq'];decide
inductive eU (P:Pg) (g:Gh) (h:Heap) (c:Nat) (name:Str) (t:T) (a:Addr):Prop
 |mk (dx:Addr) (m:Str->Option Value) (ih:e9 P h c m dx g.sa) (e:m name=some (.ref a)) (z:g.Z a) (ne:a≠g.sp) (z1:g.Z g.sa/\g.sa≠g.sp) (z2:g.Z dx/\dx≠g.sp) (r:iY P g h a t)
theorem eU.keep (o:eU P g h c name t a)(kf:aZ g h g' h')(hs:g'.sa=g.sa)(z:∀a,a≠g.sp->g.Z a->g'.Z a/\∀o,h.get? a=some o->h'.get? a=some o):eU P g' h' c name t a:=by
 obtain ⟨dx,m,ih,e,za,ne,⟨z1,n1⟩,⟨z2,n2⟩,r⟩:=o
 have a1:=z _ n1 z1
 have a2:=z _ n2 z2
 have a3:=z _ ne za
 have sp:=kf.sp
 exact ⟨dx,m,hs▸ih.mono a1.2 a2.2,e,a3.1,sp▸ne,hs▸sp▸⟨a1.1,n1⟩,sp▸⟨a2.1,n2⟩,r.mono kf a3.2⟩
theorem eU.o (o:eU P g h c name t a):iY P g h a t:=let ⟨_,_,_,_,_,_,_,_,r⟩:=o;r
theorem eU.y (o:eU P g h c name t a):fU P g h t (.ref a):=.inr ⟨a,rfl,o.o⟩
theorem ny (hs:cq c i ρ σ=some t):bV ρ 0=some .self/\iI c i=true/\∃ts,σ.self=some (c,ts)/\ts[i]?=some t:=by
 obtain ⟨b,e⟩:=rG hs
 obtain ⟨b1,b2⟩:=ai b
 obtain ⟨e0,ts,e1⟩:=qY b1
 rw [e1] at e
 exact ⟨e0,b2,ts,e1,e⟩
theorem nr (e:σ'.self=σ.self)(hs:cq c i ρ σ=some t):cq c i ρ σ'=some t:=by
 cases σ;cases σ';cases e;exact hs
theorem xX (w:bN P g h σ)(hn:(cE c)[i]?=some name)(hs:cq c i ρ σ=some t):∃a,eU P g h c name t a:=by
 obtain ⟨e0,ho,ts,e1,e2⟩:=ny hs
 obtain ⟨dx,m,us,ih,z,z',ne,k,l,_,ow,_⟩:=w.self c ts e1
 have hi:i < us.length:=by rw [l];exact (ak e2).1
 obtain ⟨a,e,za,na,r⟩:=ow i _ t (getElem?_eq_getElem hi) e2 ho
 exact ⟨a,dx,m,ih,(k.at_ i name _ (getElem?_eq_getElem hi) hn).trans (by rw [e]),za,na.2.2,⟨z,ne.2⟩,⟨z',ne.1⟩,r⟩
theorem e9.uniq {m':Str->Option Value}{dx':Addr}(i:e9 P h c m dx a)(i':e9 P h c m' dx' a)(y:Str):m y=m' y:=by
 obtain ⟨o,e,k,n,_⟩:=i
 obtain ⟨o',e',k',n',_⟩:=i'
 rw [e] at e';cases e'
 obtain rfl:dx=dx':=Option.some.inj (k.dict.symm.trans k'.dict)
 exact vF n.ns n'.ns
theorem vY {y:T}(w:bN P g s.heap σ)(hs:cq c i ρ σ=some t)(hn:(cE c)[i]?=some name)(o:eU P g s.heap c name t a)(hh:∀b,b≠a->h'.get? b=s.heap.get? b)(hy:aZ g s.heap g h'->iY P g h' a y)(tk:Nat):aQ g s g {s with heap:=h',toks:=tk}/\bN P g h' (σ.fld i y):=by
 obtain ⟨e0,ho,ts,e1,e2⟩:=ny hs
 obtain ⟨dx,m,us,ih,z,z',ne,k,l,sh,ow,nn⟩:=w.self c ts e1
 obtain ⟨dx1,m1,ih1,e,za,na,_,_,_⟩:=o
 have hi:i < us.length:=by rw [l];exact (ak e2).1
 have hu:us[i]?=some (.ref a):=by
  have:=k.at_ i name _ (getElem?_eq_getElem hi) hn
  rw [ih.uniq ih1,e] at this
  rw [getElem?_eq_getElem hi];exact this.symm
 obtain ⟨a',q,_,nb,_⟩:=ow i _ t hu e2 ho
 cases q
 have kf:aZ g s.heap g h':=⟨fun b f=>⟨f,fun o e=>(hh b fun q=>(w.Z a za).2 (q▸f)).trans e⟩,rfl⟩
 have r:=hy kf
 have lv:∀b,s.heap.get? b≠none->h'.get? b≠none:=fun b l=>by
  by_cases q:b=a
  .exact q▸r.live
  .rw [hh b q];exact l
 have kp:∀b,b≠a->∀o,s.heap.get? b=some o->h'.get? b=some o:=fun b q o e=>(hh b q).trans e
 refine ⟨⟨⟨h',tk,rfl⟩,fun b o e z=>kp b (fun q=>z (q▸za)) o e,fun b e=>?_,fun _ f=>f,fun _ f=>.inl f,fun _ f=>.inl f,rfl,rfl,rfl⟩,fun b o e=>⟨(w.base b o e).1,(kf.F b (w.base b o e).1).2 o (w.base b o e).2⟩,fun b f=>lv b (w.F b f),fun b z=>⟨lv b (w.Z b z).1,(w.Z b z).2⟩,fun b z=>⟨lv b (w.O b z).1,(w.O b z).2⟩,w.oo,
  ⟨let ⟨t,m,e⟩:=w.spot.1;⟨t,m,kp _ (Ne.symm na) _ e⟩,w.spot.2.1,fun q=>?_⟩,fun c' ts' e'=>?_⟩
 .by_cases q:s.heap.get? b=none
  .exact q
  .exact (lv b q e).elim
 .rw [Sg.fld,e1] at q;cases q
 .rw [Sg.fld,e1] at e'
  cases e'
  have set_:∀{j:Nat} {u:T},(ts.set i y)[j]?=some u->(j=i/\u=y)\/(j≠i/\ts[j]?=some u):=fun {j u} q=>by
   by_cases ji:j=i
   .subst ji
    rw [List.getElem?_set_self (ak e2).1] at q
    exact .inl ⟨rfl,(Option.some.inj q).symm⟩
   .rw [List.getElem?_set_ne (Ne.symm ji)] at q;exact .inr ⟨ji,q⟩
  refine ⟨dx,m,us,ih.mono (kp _ (Ne.symm nb.2.1)) (kp _ (Ne.symm nb.1)),z,z',ne,k,by rw [length_set];exact l,fun j u t' h1 h2 h3=>?_,fun j u t' h1 h2 h3=>?_,nn⟩
  .rcases set_ h2 with ⟨rfl,_⟩ | ⟨_,h2⟩
   .rw [ho] at h3;cases h3
   .exact (sh j u t' h1 h2 h3).mono kf
  .rcases set_ h2 with ⟨rfl,rfl⟩ | ⟨ji,h2⟩
   .rw [hu] at h1;cases h1
    exact ⟨a,rfl,za,nb,r⟩
   .obtain ⟨b,rfl,zb,nb',rb⟩:=ow j u t' h1 h2 h3
    exact ⟨b,rfl,zb,nb',rb.mono kf (kp b fun q=>ji (nn j i a (q▸h1) hu h3 ho))⟩
end
section
variable {P:Pg} {B Bc:b7} {C C' Ci:Ct} {fr:Bool} {n c i j:Nat} {A:Around} {env:Env} {g g' g2:Gh} {ρ:aW} {σ σ' σ₂:Sg} {s s' s2:Shared} {h h':Heap} {t:T} {x:Value} {ms:List (Str×Nat)} {name y:Str} {kd:NameKind} {m:Str->Option Value} {dx a:Addr} {us:List Value} {E:Value->Shared->Prop} {ts:List T} {np apos pos:Pos}
noncomputable def Gh.bor (g:Gh):Gh:={g with Z:=fun a=>a=g.sp}
theorem C0 (g:Gh)(h:Heap):aZ g h g.bor h:=⟨fun _ f=>⟨f,fun _ e=>e⟩,rfl⟩
theorem At.bor (X:At P B C n A env g ρ σ s):At P B C n A env g.bor ρ ⟨σ.spot,none⟩ s:=
 have hz:∀a,g.bor.Z a->g.Z a:=fun a q=>by rw [show a=g.sp from q];exact X.g.spot.2.1
 ⟨X.good,X.call,X.room,X.env.move (C0 g _) rfl rfl (fun _ _ _ e=>e) fun a ha=>⟨(X.env.own a ha).1,(X.env.own a ha).2.1,fun q=>(X.env.own a ha).2.2.1 (hz a q)⟩,
  X.g.base,X.g.F,fun a z=>X.g.Z a (hz a z),fun a q=>⟨(X.g.O a q).1,(X.g.O a q).2.1,fun z=>(X.g.O a q).2.2 (hz a z)⟩,X.g.oo,⟨X.g.spot.1,rfl,fun _ _ q=>q⟩,fun _ _ q=>nomatch q⟩
theorem tK (w:bN P g s.heap σ)(p:aQ g.bor s g' s')(w':bN P g' s'.heap σ'):aQ g s {g' with Z:=g.Z} s'/\bN P {g' with Z:=g.Z} s'.heap ⟨σ'.spot,σ.self⟩:=by
 have sp:g'.sp=g.sp:=p.sp
 have so:g'.o=g.o:=p.o
 have q:aQ g s {g' with Z:=g.Z} s':=⟨p.st,fun a o e z=>p.keep a o e fun q=>z (by rw [show a=g.sp from q];exact w.spot.2.1),p.back,p.F,p.Fn,fun _ z=>.inl z,p.o,p.sp,p.sa⟩
 have lv:∀a,s.heap.get? a≠none->s'.heap.get? a≠none:=fun a l e=>l (p.back a e)
 have nf:∀a,s.heap.get? a≠none->¬g.F a->¬g'.F a:=fun a l f q=>(p.Fn a q).elim f l
 have oo:∀a,({g' with Z:=g.Z}:Gh).O a->g.O a:=fun a ⟨i,q⟩=>⟨i,so▸q⟩
 exact ⟨q,w'.base,w'.F,fun a z=>⟨lv a (w.Z a z).1,nf a (w.Z a z).1 (w.Z a z).2⟩,fun a o=>have o:=w.O a (oo a o);⟨lv a o.1,nf a o.1 o.2.1,o.2.2⟩,fun i j a h1 h2=>w.oo i j a (so▸h1) (so▸h2),⟨w'.spot.1,by rw [show ({g' with Z:=g.Z}:Gh).sp=g.sp from sp];exact w.spot.2.1,fun e a z=>(w.spot.2.2 e a z).trans sp.symm⟩,
  fun c ts e=>(w.self c ts e).mono' (q.k w) (fun a n z=>⟨z,fun o e=>p.keep a o e n⟩) p.sa⟩
theorem Eg {e:Expr}{pq:PE}{K:PK T}{Q:Value->Shared->Prop}(h:av P B C e pq (RV P))(X:At P B C n A env g ρ σ s)(of:eU P g s.heap c name t a)(hb:pq (P.cx n) ρ ⟨σ.spot,none⟩ (fun v σ'=>K v ⟨σ'.spot,σ.self⟩)≠.bad)
  (hq:∀x s' g' v σ',pq (P.cx n) ρ ⟨σ.spot,none⟩ (fun v σ'=>K v ⟨σ'.spot,σ.self⟩)=K v σ'->aQ g s g' s'->bN P g' s'.heap σ'->σ'.self=σ.self->eU P g' s'.heap c name t a->Rp P g' s'.heap v x->Q x s'):wpAny P.M A (eval e env) Q E s:=
 h n A env g.bor ρ ⟨σ.spot,none⟩ s _ Q E X.bor hb fun x s' g' v σ' e p w r=>
  have ⟨p',w'⟩:=tK X.g p w
  hq x s' {g' with Z:=g.Z} v ⟨σ'.spot,σ.self⟩ e p' w' rfl (of.keep (p'.k X.g) p'.sa fun a n z=>⟨z,fun o e=>p.keep a o e n⟩) (Rp.mono (g:=g') (h:=s'.heap) (g':={g' with Z:=g.Z}) ⟨fun _ f=>⟨f,fun _ e=>e⟩,rfl⟩ r)
theorem oj {Q:Value->Shared->Prop}(O:bP P c ms)(hn:(cE c)[i]?=some name)(ht:B.tab[0]?=some (some (y,kd)))(X:At P B C n A env g ρ σ s)(hs:cq c i ρ σ=some t)(hq:∀a,eU P g s.heap c name t a->Q (.ref a) {s with toks:=s.toks+1}):wpAny P.M A (eval (.Attribute (.Name y np) name pos) env) Q E s:=by
 obtain ⟨v,va,q⟩:=X.env.var 0 _ _ ht (ny hs).1
 cases q.self
 obtain ⟨a,o⟩:=xX X.g hn hs
 obtain ⟨dx,m,ih,e,_⟩:=id o
 exact u7 rfl (fun _ _=>rfl) (bJ X ht va (lJ O (mem_of_getElem? hn) X.g.bs ih e rfl (hq a o)))
theorem av.fld (O:bP P c ms)(hn:(cE c)[i]?=some name)(ht:B.tab[0]?=some (some (y,kd))):av P B C (.Attribute (.Name y np) name pos) (o7 c i) (RY P):=fun n A env g ρ σ s k Q E X hb hq=>by
 obtain ⟨t,e⟩:=cG hb
 exact oj O hn ht X e fun a o=>hq _ _ g t σ (by rw [o7,e];rfl) (.toks g s _) X.g o.y
theorem av.f2 {ie:Expr}{pq:PE}{F:T->T->Option T}(O:bP P c ms)(hn:(cE c)[i]?=some name)(ht:B.tab[0]?=some (some (y,kd)))(o:rJ P (Aj P (.Attribute (.Name y np) name apos) ie) F (RV P))(h:av P B C ie pq (RV P)):av P B C (.Subscript (.Attribute (.Name y np) name apos) ie pos) (CA c i F pq) (RV P):=fun n A env g ρ σ s k Q E X hb hq=>by
 unfold CA at hb hq
 cases e0:cq c i ρ σ with
 |none=>rw [e0] at hb;exact absurd rfl hb
 |some t=>
  rw [e0] at hb hq
  refine Subscript_ (oj O hn ht X e0 fun a of=>Eg (K:=fun v σ=>up (F t v) σ k) h (X.post (.toks g s _) X.g) of hb fun x s' g' v σ' e p w hσ of' r=>?_)
  obtain ⟨u,e'⟩:=cG fun q=>hb (e.trans q)
  exact o A env g' σ' s' _ x t v u Q E X.rm w of'.y (.inl r) e' fun z s'' g'' p' w' r'=>hq z s'' g'' u σ' (e.trans (by rw [e'];rfl)) ((aQ.toks g s _).trans (p.trans p')) w' r'
theorem aX.fap {e:Expr}{ap' cpos:Pos}{pe:PE}(O:bP P c ms)(hn:(cE c)[i]?=some name)(ht:B.tab[0]?=some (some (y,kd)))(hbase:∀env,attributeBase (.Attribute (.Name y np) name ap') (ofString "append") env (eval (.Attribute (.Name y np) name ap') env)=eval (.Attribute (.Name y np) name ap') env)(hline:(apos.endLine==cpos.line)=true)
  (htrees:∀env,backTo cpos (starEach [e] env)=[(false,eval e env)])(hw:∀env,swapsWith (.Call (.Attribute (.Attribute (.Name y np) name ap') (ofString "append") apos) [e] [] cpos) none pos.line env=pure false)(h:av P B C e pe (RV P)):
  aX P B C fr C (.Expr (.Call (.Attribute (.Attribute (.Name y np) name ap') (ofString "append") apos) [e] [] cpos) pos) (qK c i pe):=fun n A env g ρ σ s k Q E X hb hq hr=>by
 show wpAny P.M A (exec _ env) Q E s
 rw [exec_Expr env _ pos (by simp [interactive,X.fn]) (hw env)]
 unfold qK at hb hq
 cases e0:cq c i ρ σ with
 |none=>rw [e0] at hb;exact absurd rfl hb
 |some t=>
  rw [e0] at hb hq
  have hk:=ku hb
  simp only [hk,cond_true] at hb hq
  refine wpAny_bind (wpAny_standAt (wpAny_bind (n5 oe hbase hline htrees (oj O hn ht X e0 fun a of=>⟨sX of.y hk,Eg (K:=fun v σ=>up (d9 t v) σ fun y σ=>k ρ (σ.fld i y)) h (X.post (.toks g s _) X.g) of hb fun x s' g' v σ' e p w hσ of' r=>?_⟩))))
  obtain ⟨u,e'⟩:=cG fun q=>hb (e.trans q)
  refine lM A g' σ' s' a x t v u _ _ X.rm w of'.o r e' fun h' tk hs hy=>wpAny_dropValue ?_
  obtain ⟨pS,wS⟩:=vY w (nr hσ e0) hn of' hs hy tk
  have pA:=(aQ.toks g s _).trans (p.trans pS)
  exact hq _ _ ρ _ (e.trans (by rw [e'];rfl)) pA.toS (X.post pA wS)
theorem aX.fput {ie e:Expr}{ps:Pos}{pq pe:PE}(O:bP P c ms)(hn:(cE c)[i]?=some name)(ht:B.tab[0]?=some (some (y,kd)))(hw:∀env,swapsWith e (some (.Subscript (.Attribute (.Name y np) name apos) ie ps)) pos.line env=pure false)(h2:av P B C ie pq (RV P))(h3:av P B C e pe (RV P)):
  aX P B C fr C (.Assign [.Subscript (.Attribute (.Name y np) name apos) ie ps] e pos) (pR c i pq pe):=fun n A env g ρ σ s k Q E X hb hq hr=>by
 refine wpAny_Assign_Subscript (h3 n A env g ρ σ s _ _ E X hb fun z s₁ g1 v σ₁ e1 p1 w1 r1=>?_) (hw env)
 have X1:=X.post p1 w1
 have hb1:=fun q=>hb (e1.trans q)
 have e1:pR c i pq pe (P.cx n) ρ σ k=_:=e1
 cases e0:cq c i ρ σ₁ with
 |none=>simp only [e0] at hb1;exact (hb1 trivial).elim
 |some t=>
  simp only [e0] at hb1 e1
  refine oj O hn ht X1 e0 fun a of=>Eg (K:=fun κ σ=>up (eG t κ v) σ fun y σ=>k ρ (σ.fld i y)) h2 (X1.post (.toks g1 s₁ _) w1) of hb1 fun x s' g' κ σ' e p w hσ of' r=>?_
  obtain ⟨u,e'⟩:=cG fun q=>hb1 (e.trans q)
  have p2:=(aQ.toks g1 s₁ _).trans p
  refine vy A g' σ' s' a x z t κ v u _ _ X.rm w of'.o (.inl r) (Rp.mono (p2.k w1) r1) e' fun h' tk hs hy=>?_
  obtain ⟨pS,wS⟩:=vY w (nr hσ e0) hn of' hs hy tk
  have pA:=p1.trans (p2.trans pS)
  exact hq _ _ ρ _ (e1.trans (e.trans (by rw [e'];rfl))) pA.toS (X.post pA wS)
end
section
variable {P:Pg} {B Bc:b7} {C C' Ci:Ct} {fr:Bool} {n c i j:Nat} {A:Around} {env:Env} {g g' gb:Gh} {ρ:aW} {σ σ' σ₂:Sg} {s s' s2:Shared} {h h':Heap} {t:T} {x:Value} {ms:List (Str×Nat)} {name y:Str} {kd:NameKind} {m:Str->Option Value} {dx a:Addr} {us:List Value} {E:Value->Shared->Prop} {ts:List T} {np apos pos:Pos}
theorem u6 {Q:Unit->Shared->Prop}(O:bP P c ms)(hn:name∈cE c)(w:bN P g s.heap σ)(z:g.Z a)(ih:e9 P s.heap c m dx a)(k:tZ c m us)(hq:∀h' tk,e9 P h' c (fun y=>if y=name then some x else m y) dx a->(∀b o,b≠dx->s.heap.get? b=some o->h'.get? b=some o)->Q () {s with heap:=h',toks:=tk}):wpAny P.M A (setAttr (.ref a) name x) Q E s:=by
 obtain ⟨N,mN,K,g1,g2,g3,g4,g5⟩:=O
 obtain ⟨nm,q,bs',sn,sub,col,dd,k0,k1,k2,k3,k5,hC⟩:=K.obj
 have hxC:a≠P.cls c:=fun q=>(w.Z a z).2 (q▸(w.base _ _ hC).1)
 obtain ⟨o,e,ko,nn,ne⟩:=id ih
 refine store_attr (h:=s.heap) (ns:=cE c) PySem.F.store_object (w.bs _ _ hC) (K.keeps w.bs).ns g3 (g4 name hn).1 (g4 name hn).2 hxC ih.inst (fun h3 tk' I' hk hsame=>?_) (fun y hy=>?_) ?_
 .obtain ⟨oa,z1,z2,z3,z4,z5⟩:=hsame o e
  have hd:=z5 dx ko.dict
  have:oa=o:=by
   have kd:=ko.dict
   obtain ⟨c1,c2,c3,c4⟩:=oa
   obtain ⟨d1,d2,d3,d4⟩:=o
   simp only at z2 z3 z4 hd kd
   rw [z2,z3,z4,hd,kd]
  subst this
  obtain ⟨o',y1,_,_,y4⟩:=I'
  rw [z1] at y1;cases y1
  rcases y4 with ⟨q,_⟩ | ⟨dz,q,_,n'⟩
  .rw [hd] at q;cases q
  .rw [hd] at q;cases q
   refine hq h3 tk' ⟨oa,z1,ko,n',ne⟩ fun b o' nb e'=>?_
   by_cases hba:b=a
   .subst hba;rw [e] at e';cases e';exact z1
   .exact hk b o' hba (fun o0 d0 eb ed=>by rw [e] at eb;cases eb;rw [hd] at ed;cases ed;exact nb) e'
 .by_cases q:y∈cE c
  .exact q
  .exact (hy (k.no y q)).elim
 .unfold cE;split<;>decide
theorem Cc (c:Nat):(cE c).Nodup:=by unfold cE;split<;>decide
theorem r7 {α Y:Type}{us:List α}{ts:List Y}{x u:α}{t v:Y}{j:Nat}(l:us.length=ts.length)(h1:(us++[x])[j]?=some u)(h2:(ts++[t])[j]?=some v):(us[j]?=some u/\ts[j]?=some v)\/(j=ts.length/\u=x/\v=t):=by
 by_cases q:j < us.length
 .rw [getElem?_append_left q] at h1
  rw [getElem?_append_left (l▸q)] at h2
  exact .inl ⟨h1,h2⟩
 .have q:=dk q
  rw [getElem?_append_right q] at h1
  rw [getElem?_append_right (l▸q)] at h2
  have e:j - us.length=0:=by
   have:=(ak h1).1
   rw [List.length_singleton] at this;lia -abstractProof
  rw [e] at h1;rw [<-l,e] at h2
  cases h1;cases h2
  exact .inr ⟨by lia -abstractProof,rfl,rfl⟩
theorem uh {Z':Addr->Prop}{Q:Unit->Shared->Prop}(O:bP P c ms)(hn:(cE c)[i]?=some name)(w:bN P g s.heap σ)(es:σ.self=some (c,ts))(hl:ts.length=i)(hZ:∀a,g.Z a->Z' a)(hZ':∀a,Z' a->g.Z a\/(s.heap.get? a≠none/\¬g.F a/\¬g.Z a/\¬g.O a))
  (h0:iI c i=false->Rp P g s.heap t x)(h1:iI c i=true->∃a,x=.ref a/\Z' a/\¬g.Z a/\iY P g s.heap a t)
  (hq:∀h' tk,(∀b o,¬g.Z b->s.heap.get? b=some o->h'.get? b=some o)->(∀b,h'.get? b=none->s.heap.get? b=none)->bN P {g with Z:=Z'} h' (σ.push t)->Q () {s with heap:=h',toks:=tk}):wpAny P.M A (setAttr (.ref g.sa) name x) Q E s:=by
 obtain ⟨dx,m,us,ih,z,z',ne,k,l,sh,ow,nn⟩:=w.self c ts es
 refine u6 O (mem_of_getElem? hn) w z ih k fun h' tk ih' kp=>?_
 have ld:h'.get? dx≠none:=let ⟨_,_,_,n,_⟩:=ih';let ⟨_,_,_,e,_⟩:=n;ay e
 have bk:∀b,h'.get? b=none->s.heap.get? b=none:=fun b e=>by
  cases q:s.heap.get? b with
  |none=>rfl
  |some o=>
   by_cases hb:b=dx
   .exact (ld (hb▸e)).elim
   .exact (ay (kp b o hb q) e).elim
 have lv:∀b,s.heap.get? b≠none->h'.get? b≠none:=fun b l e=>l (bk b e)
 have kz:∀b,¬g.Z b->∀o,s.heap.get? b=some o->h'.get? b=some o:=fun b q o e=>kp b o (fun e=>q (e▸z')) e
 have kf:aZ g s.heap {g with Z:=Z'} h':=⟨fun b f=>⟨f,kz b fun q=>(w.Z b q).2 f⟩,rfl⟩
 refine hq h' tk (fun b o q e=>kz b q o e) bk ⟨fun b o e=>⟨(w.base b o e).1,(kf.F b (w.base b o e).1).2 o (w.base b o e).2⟩,fun b f=>lv b (w.F b f),fun b q=>(hZ' b q).elim (fun q=>⟨lv b (w.Z b q).1,(w.Z b q).2⟩) fun q=>⟨lv b q.1,q.2.1⟩,fun b q=>⟨lv b (w.O b q).1,(w.O b q).2.1,fun q'=>(hZ' b q').elim (w.O b q).2.2 fun e=>e.2.2.2 q⟩,w.oo,
  ⟨let ⟨t,n,e⟩:=w.spot.1;⟨t,n,kp _ _ (Ne.symm ne.1) e⟩,hZ _ w.spot.2.1,fun q=>?_⟩,fun c' ts' e'=>?_⟩
 .rw [Sg.push,es] at q;cases q
 .rw [Sg.push,es] at e'
  cases e'
  have new:∀a,x=.ref a->iY P g s.heap a t->¬g.Z a->a≠dx/\a≠g.sa/\a≠g.sp:=fun a _ _ q=>⟨fun e=>q (e▸z'),fun e=>q (e▸z),fun e=>q (e▸w.spot.2.1)⟩
  refine ⟨dx,_,us++[x],ih',hZ _ z,hZ _ z',ne,⟨fun y hy=>?_,fun j y u q1 q2=>?_⟩,by rw [List.length_append,List.length_append,l];rfl,fun j u v q1 q2 q3=>?_,fun j u v q1 q2 q3=>?_,fun i' j a q1 q2 q3 q4=>?_⟩
  .rw [if_neg fun e:y=name=>hy (e▸mem_of_getElem? hn)];exact k.no y hy
  .have q:j < us.length\/(j=us.length/\u=x):=by
    by_cases q:j < us.length
    .exact .inl q
    .rw [getElem?_append_right (dk q)] at q1
     have:=(ak q1).1
     rw [List.length_singleton] at this
     rw [show j - us.length=0 by lia -abstractProof] at q1
     exact .inr ⟨by lia -abstractProof,(Option.some.inj q1).symm⟩
   rcases q with q | ⟨q,rfl⟩
   .rewrite [if_neg fun e:y=name=>?_]
    .rw [getElem?_append_left q] at q1;exact k.at_ j y u q1 q2
    .subst e
     have:=(List.getElem?_inj (ak q2).1 (Cc c)).mp (q2.trans hn.symm)
     lia -abstractProof
   .rw [show j=i by lia,hn] at q2
    cases q2;exact if_pos rfl
  .rcases r7 l q1 q2 with ⟨q1,q2⟩ | ⟨q,rfl,rfl⟩
   .exact (sh j u v q1 q2 q3).mono kf
   .rw [q,hl] at q3;exact (h0 q3).mono kf
  .rcases r7 l q1 q2 with ⟨q1,q2⟩ | ⟨q,rfl,rfl⟩
   .obtain ⟨a,e,za,na,r⟩:=ow j u v q1 q2 q3
    exact ⟨a,e,hZ a za,na,r.mono kf fun o e=>kp a o na.1 e⟩
   .rw [q,hl] at q3
    obtain ⟨a,e,za,na,r⟩:=h1 q3
    have nb:=new a e r na
    exact ⟨a,e,za,nb,r.mono kf fun o e=>kp a o nb.1 e⟩
  .have get:∀{j:Nat} {u:Value},(us++[x])[j]?=some u->∃v,(ts++[t])[j]?=some v:=fun {j u} q=>by
    have:=(ak q).1
    rw [List.length_append,l] at this
    exact ⟨_,getElem?_eq_getElem (l:=ts++[t]) (by rw [List.length_append];exact this)⟩
   obtain ⟨v1,r1⟩:=get q1
   obtain ⟨v2,r2⟩:=get q2
   rcases r7 l q1 r1 with ⟨p1,p2⟩ | ⟨p1,p2,p3⟩
   .rcases r7 l q2 r2 with ⟨p3,p4⟩ | ⟨p3,p4,p5⟩
    .exact nn i' j a p1 p3 q3 q4
    .rw [p3,hl] at q4
     obtain ⟨b,e,_,nb,_⟩:=h1 q4
     rw [e] at p4;cases p4
     obtain ⟨b',e',zb,_,_⟩:=ow i' _ v1 p1 p2 q3
     cases e';exact (nb zb).elim
   .rcases r7 l q2 r2 with ⟨p4,p5⟩ | ⟨p4,p5,p6⟩
    .rw [p1,hl] at q3
     obtain ⟨b,e,_,nb,_⟩:=h1 q3
     rw [e] at p2;cases p2
     obtain ⟨b',e',zb,_,_⟩:=ow j _ v2 p4 p5 q4
     cases e';exact (nb zb).elim
    .rw [p1,p4]
theorem z8 (h:z9 c i ρ σ=true):bV ρ 0=some .self/\∃ts,σ.self=some (c,ts)/\ts.length=i:=by
 obtain ⟨h1,h2⟩:=ai h
 obtain ⟨e0,ts,e1⟩:=qY h1
 rw [e1] at h2
 exact ⟨e0,ts,e1,eq_of_beq_eq_true h2⟩
theorem aX.saG {e:Expr}{pe:PE}{R:RR Value T}(O:bP P c ms)(hn:(cE c)[i]?=some name)(ht:B.tab[0]?=some (some (y,kd)))(hw:∀env,swapsWith e (some (.Attribute (.Name y np) name apos)) pos.line env=pure false)(h:av P B C e pe R)
  (hR:∀h g h' t x,R h g h' t x->(∀b,g.Z b->True)->∃N:Addr->Prop,(∀a,N a->h.get? a=none/\h'.get? a≠none/\¬g.F a/\¬g.Z a/\¬g.O a)/\(iI c i=false->Rp P g h' t x)/\(iI c i=true->∃a,x=.ref a/\N a/\iY P g h' a t)):
  aX P B C fr C (.Assign [.Attribute (.Name y np) name apos] e pos) (t8 c i pe):=fun n A env g ρ σ s k Q E X hb hq hr=>by
 refine plainObj_wpAny_Assign_Attribute (h n A env g ρ σ s _ _ E X hb fun x s₁ ga t σ₁ ec pa w1 rb=>?_) (hw env)
 have X1:=X.post pa w1
 have ha:=ku fun q=>hb (ec.trans q)
 obtain ⟨e0,ts,e2,e3⟩:=z8 ha
 obtain ⟨v,va,q⟩:=X1.env.var 0 _ _ ht e0
 cases q.self
 obtain ⟨N,n1,n2,n3⟩:=hR _ _ _ _ _ rb fun _ _=>trivial
 refine bJ X1 ht va (uh (Z':=fun b=>ga.Z b\/N b) O hn w1 e2 e3 (fun _=>.inl) (fun b z=>z.imp_right fun q=>(n1 b q).2) n2 (fun q=>let ⟨a,e,na,r⟩:=n3 q;⟨a,e,.inr na,(n1 a na).2.2.2.1,r⟩) fun h' tk kp bk w'=>?_)
 have pb:aQ g s {ga with Z:=fun b=>ga.Z b\/N b} {s₁ with heap:=h',toks:=tk}:=⟨St.trans pa.st ⟨h',tk,rfl⟩,fun b o e z=>kp b o (fun q=>(pa.Zn b q).elim z (ay e)) (pa.keep b o e z),fun b e=>pa.back b (bk b e),pa.F,pa.Fn,fun b z=>z.elim (pa.Zn b) fun q=>.inr (n1 b q).1,pa.o,pa.sp,pa.sa⟩
 exact hq _ _ ρ _ (ec.trans (by rw [ha])) pb.toS (X.post pb w')
theorem aX.sa {e:Expr}{pe:PE}(O:bP P c ms)(hn:(cE c)[i]?=some name)(ho:iI c i=false)(ht:B.tab[0]?=some (some (y,kd)))(hw:∀env,swapsWith e (some (.Attribute (.Name y np) name apos)) pos.line env=pure false)(h:av P B C e pe (RV P)):
  aX P B C fr C (.Assign [.Attribute (.Name y np) name apos] e pos) (t8 c i pe):=
 .saG O hn ht hw h fun _ _ _ _ _ r _=>⟨fun _=>False,fun _ q=>q.elim,fun _=>r,fun q=>by rw [ho] at q;cases q⟩
theorem aX.saN {e:Expr}{pe:PE}(O:bP P c ms)(hn:(cE c)[i]?=some name)(ho:iI c i=true)(ht:B.tab[0]?=some (some (y,kd)))(hw:∀env,swapsWith e (some (.Attribute (.Name y np) name apos)) pos.line env=pure false)(h:av P B C e pe (RN P)):
  aX P B C fr C (.Assign [.Attribute (.Name y np) name apos] e pos) (t8 c i pe):=
 .saG O hn ht hw h fun _ _ _ _ _ r _=>let ⟨a,e,n,f,z,o,r⟩:=r;⟨fun b=>b=a,fun b q=>by rw [q];exact ⟨n,r.live,f,z,o⟩,(fun q=>by rw [ho] at q;cases q),fun _=>⟨a,e,rfl,r⟩⟩
theorem oY.own (hh:A.handled=none){I l:Addr}{vs:Array Value}{m:Nat}:oY P A I ts [I] [l] (fun i g h=>h.IsListIter I l i/\h.get? l=some (bO vs m)/\bm P g h ts vs.toList) where
 self i g s Q E st:=wpAny_pyIter_listiter st.1
 stay i g h g' h' st k ki:=by
  obtain ⟨⟨o,e,r⟩,e',q⟩:=st
  exact ⟨⟨o,ki I mem_cons_self o e,r⟩,ki l (mem_cons_of_mem _ mem_cons_self) _ e',q.mono k⟩
 here i g h st a ha:=by
  obtain ⟨⟨o,e,_⟩,e',_⟩:=st
  rcases az ha with rfl |ha
  .exact ay e
  .rw [ae ha];exact ay e'
 item i t g s Q E hi st hF hq:=by
  obtain ⟨it,e',q⟩:=st
  obtain ⟨u,hu,r⟩:=q.get hi
  have nl:l≠I:=fun q=>by
   obtain ⟨o,e,r,_⟩:=it
   rw [<-q,e'] at e;cases e;exact absurd (Value.type.inj r) (by decide)
  refine wpAny_pyNext_list_item it ⟨_,e',rfl,m,rfl⟩ (by rw [<-Array.getElem?_toList];exact hu) fun h' it' hs=>?_
  have kf:=uG hs.2 (hF I (aE rfl))
  exact hq u h' s.toks (iN hs.2) (r.mono kf) ⟨it',(hs.2 l nl).trans e',q.mono kf⟩
 done g s Q E st hq:=by
  obtain ⟨it,e',q⟩:=st
  exact wpAny_pyNext_list_end hh it ⟨_,e',rfl,m,rfl⟩ (Array.getElem?_eq_none (le_of_eq q.size)) fun h' hs=>hq h' s.toks fun b o e hb=>hs b o (fun q=>hb (aE q)) e
theorem av.compF {elt target:Expr}{scope:Scope}{xc:Option Str}{pe:PE}(O:bP P c ms)(hn:(cE c)[j]?=some name)(ht:B.tab[0]?=some (some (y,kd)))(K:eV B Bc scope i xc)(hi:C.U.any (Nat.beq i)=true)(hc:cQ C i false Ci=true)(hb:jM P (Ao P Bc C Ci target (bj i) (m6 xc)))(hel:av P Bc Ci elt pe (RV P))(hs:∀env x,foldedSetIterable (.Attribute (.Name y np) name apos) env x=pure x):
  av P B C (.ListComp elt [⟨target,.Attribute (.Name y np) name apos,[],0⟩] scope pos) (nP c j (bj i) pe) (RN P):=fun n A env g ρ σ s k Q E X hbad hq=>by
 unfold nP at hbad hq
 cases e0:o1 (cq c j ρ σ) gI with
 |none=>rw [e0] at hbad;exact absurd rfl hbad
 |some xs=>
  rw [e0] at hbad hq
  obtain ⟨t,e1,e2⟩:=aD e0
  cases fT e2
  show wpAny P.M A (eval _ env) Q E s
  rw [eval_ListComp]
  refine oC (pi:=fun _ _ σ k=>k xs σ) (g:=g.bor) (σ:=⟨σ.spot,Option.none⟩) (k:=fun v σ'=>k v ⟨σ'.spot,σ.self⟩) K (kQ hi) (fg hc).1 (fun k' Q' E' Xb _ hq'=>?_) eA.nil hel hs X.bor hbad fun D L s' g' ys σ' m e p w r hL nL hDL hn=>⟨m,hn,fun h' hsb=>?_⟩
  .refine oj O hn ht X e1 fun a of=>?_
   obtain ⟨vs,n',ea,la,ra⟩:=of.o
   refine wpAny_pyIter_list (s:={s with toks:=s.toks+1}) ⟨_,ea,rfl,n',rfl⟩ ?_
   obtain ⟨p',w',v⟩:=qU (X:=wY "list_iterator" a) (tk:=s.toks+1) (s₁:={s with toks:=s.toks+1}) Xb.g (.toks g.bor s _)
   obtain ⟨_,_,_,_,za,na,_,_,_⟩:=of
   exact hq' _ g.bor xs _ _ _ [a] _ rfl p' w' (hb.make (oY.own X.room.2.2)) ⟨⟨_,ch _,rfl,rfl⟩,cw s _ _ _ ea,(ra.mono (C0 g _)).mono ((aQ.push (wY "list_iterator" a) 0).k Xb.g)⟩ v (fun b hb=>by rw [ae hb];exact ⟨(X.g.Z a za).2,na,fun q=>(X.g.O a q).2.2 za,fun q=>(X.env.own a q).2.2.1 za⟩) la
  .obtain ⟨p',w'⟩:=tK X.g p w
   have nz:∀{b},s.heap.get? b=Option.none->¬g.Z b:=fun e z=>(X.g.Z _ z).1 e
   obtain ⟨w'',kf⟩:=w'.scrap ⟨nL.1,nz hL,nL.2.2⟩ hsb.2
   obtain ⟨D',eD,nD,fD,zD,oD,rD⟩:=r
   exact hq _ _ _ _ ⟨σ'.spot,σ.self⟩ e (p'.scrap hL hsb.2) w'' (Cj.scrap (g:={g' with Z:=g.Z}) ⟨D',eD,nD,fD,nz nD,oD,iY.mono (g:=g') (h:=s'.heap) (g':={g' with Z:=g.Z}) ⟨fun _ f=>⟨f,fun _ e=>e⟩,rfl⟩ (fun _ e=>e) rD⟩ kf hDL hsb.2)
theorem xM (w:bN P g h σ):iY P g h g.sp (.lst [.int σ.spot]):=let ⟨t,n,e⟩:=w.spot.1;⟨_,n,e,(show 1<=lim by decide),_,_,rfl,⟨t,rfl⟩,rfl⟩
theorem p9 (h:qX ρ i=true):bV ρ i=some .spot:=by
 unfold qX at h
 cases e:bV ρ i with
 |none=>rw [e] at h;cases h
 |some t=>
  rw [e] at h
  cases t<;>first |rfl |cases h
theorem av.spot {kk:Nat}{cp:Pos}(hv:k9 C i=true)(ht:B.tab[i]?=some (some (y,kd))):av P B C (.Subscript (.Name y np) (.Constant (.int 0) kk cp) pos) (pQ i) (RV P):=fun n A env g ρ σ s k Q E X hb hq=>by
 have h1:=ku hb
 obtain ⟨u,va,q⟩:=X.env.var i _ _ ht (p9 h1)
 obtain rfl:u=.ref g.sp:=jR hv q
 refine Subscript_ (bJ X ht va (wpAny_Constant_int (yk (fun _ _=>rfl) A env g σ _ _ _ (.lst [.int σ.spot]) (.int 0) (.int σ.spot) Q E X.rm X.g (.inr ⟨_,rfl,xM X.g⟩) (.inl ⟨_,rfl⟩) rfl fun x s' g' p w r=>hq x s' g' _ σ (by unfold pQ;rw [h1]) ((aQ.toks g s _).trans p) w r)))
theorem xL {v:Int}(w:bN P g s.heap σ)(hs:∀b,b≠g.sp->h'.get? b=s.heap.get? b)(hy:aZ g s.heap g h'->iY P g h' g.sp (.lst [.int v]))(tk:Nat):aQ g s g {s with heap:=h',toks:=tk}/\bN P g h' ⟨v,σ.self⟩:=by
 have zs:=w.spot.2.1
 have kf:aZ g s.heap g h':=⟨fun b f=>⟨f,fun o e=>(hs b fun q=>(w.Z _ zs).2 (q▸f)).trans e⟩,rfl⟩
 obtain ⟨vs,n,e,_,_,_,e1,⟨t,rfl⟩,e2⟩:=hy kf
 obtain rfl:vs=#[.int v t]:=by rw [<-Array.toArray_toList (xs:=vs),e1,e2]
 have lv:∀b,s.heap.get? b≠none->h'.get? b≠none:=fun b l=>by
  by_cases q:b=g.sp
  .exact q▸ay e
  .rw [hs b q];exact l
 refine ⟨⟨⟨h',tk,rfl⟩,fun b o e z=>(hs b fun q=>z (q▸zs)).trans e,fun b e=>?_,fun _ f=>f,fun _ f=>.inl f,fun _ f=>.inl f,rfl,rfl,rfl⟩,fun b o e=>⟨(w.base b o e).1,(kf.F b (w.base b o e).1).2 o (w.base b o e).2⟩,fun b f=>lv b (w.F b f),fun b z=>⟨lv b (w.Z b z).1,(w.Z b z).2⟩,fun b z=>⟨lv b (w.O b z).1,(w.O b z).2⟩,w.oo,⟨⟨t,n,e⟩,w.spot.2⟩,
  fun c ts e=>(w.self c ts e).mono' kf (fun b n z=>⟨z,fun o e=>(hs b n).trans e⟩) rfl⟩
 by_cases q:s.heap.get? b=none
 .exact q
 .exact (lv b q e).elim
theorem aX.spot {e:Expr}{kk:Nat}{cp ps:Pos}{pe:PE}(hv:k9 C i=true)(ht:B.tab[i]?=some (some (y,kd)))(hw:∀env,swapsWith e (some (.Subscript (.Name y np) (.Constant (.int 0) kk cp) ps)) pos.line env=pure false)(h:av P B C e pe (RV P)):aX P B C fr C (.Assign [.Subscript (.Name y np) (.Constant (.int 0) kk cp) ps] e pos) (j7 i pe):=fun n A env g ρ σ s k Q E X hb hq hr=>by
 refine wpAny_Assign_Subscript (h n A env g ρ σ s _ _ E X hb fun z s₁ ga v σ₁ ec pa w1 rb=>?_) (hw env)
 have X1:=X.post pa w1
 have hb1:=fun q=>hb (ec.trans q)
 have h1:=ku hb1
 obtain ⟨u,va,q⟩:=X1.env.var i _ _ ht (p9 h1)
 obtain rfl:u=.ref ga.sp:=jR hv q
 cases ev:jJ v with
 |none=>simp only [h1,ev,cond_true] at hb1;exact (hb1 trivial).elim
 |some m=>
  cases oQ ev
  refine bJ X1 ht va (wpAny_Constant_int (yc A ga σ₁ _ ga.sp _ z (.lst [.int σ₁.spot]) (.int 0) (.int m) (.lst [.int m]) _ _ X.rm w1 (xM w1) (.inl ⟨_,rfl⟩) rb rfl fun h' tk hs hy=>?_))
  obtain ⟨pS,wS⟩:=xL (s:=s₁) w1 hs hy tk
  exact hq _ _ ρ _ (ec.trans (by rw [h1];rfl)) (pa.trans pS).toS (X1.post pS wS)
end
section
variable {P:Pg} {B:b7} {C:Ct}
theorem Aq {M:Model}{A:Around}{E:Value->Shared->Prop}{s:Shared}{env:Env}{l m r:Expr}{o1 o2:CmpOp}{pos:Pos}{Q:Value->Shared->Prop}(hm:markedEach [o1,o2] [m,r] (evalEach [m,r] env)=[eval m env,eval r env])
  (h:wpAny M A (eval l env) (fun a s₁=>wpAny M A (eval m env) (fun b s2=>wpAny M A (compareOp o1 a b) (fun c s3=>∃t:Bool,c=.bool t/\(t=true->wpAny M A (eval r env) (fun d s4=>wpAny M A (compareOp o2 b d) Q E s4) E s3)/\(t=false->Q (.bool false) s3)) E s2) E s₁) E s):
  wpAny M A (eval (.Compare l [o1,o2] [m,r] pos) env) Q E s:=by
 rw [arm_eval_Compare,hm]
 refine wpAny_bind (wpAny_mono h (fun a s₁ hc=>?_) fun _ _ q=>q)
 show wpAny M A (do
  let rv <-holding [a] (eval m env)
  standAt pos
  let c <-holding [a,rv] (compareOp o1 a rv)
  release [a,rv] [c]
  if <-holding [c,rv] (truthy c) then compareChain pos rv [o2] [eval r env] else pure c) Q E s₁
 refine wpAny_bind (wpAny_holding (wpAny_mono hc (fun b s2 hd=>wpAny_bind (wpAny_standAt (wpAny_bind (wpAny_holding (wpAny_mono hd (fun c s3 he=>?_) fun _ _ q=>q))))) fun _ _ q=>q))
 obtain ⟨t,rfl,h4,h5⟩:=he
 refine wpAny_bind (wpAny_release (wpAny_bind (wpAny_holding (wpAny_truthy_bool ?_))))
 cases t with
 |true=>
  rw [if_pos rfl]
  show wpAny M A (do
   let rv <-holding [b] (eval r env)
   standAt pos
   operate [b,rv] (compareOp o2 b rv)) Q E s3
  exact wpAny_bind (wpAny_holding (wpAny_mono (h4 rfl) (fun d s4 h6=>wpAny_bind (wpAny_standAt (wpAny_operate' h6))) fun _ _ q=>q))
 |false=>rw [if_neg (by simp)];exact wpAny_pure (h5 rfl)
theorem mh {M:Model}{A:Around}{E:Value->Shared->Prop}{s:Shared}{env:Env}{l m r:Expr}{o1 o2:CmpOp}{pos:Pos}{whole:Sem Value}{Q:Bool->Shared->Prop}(hm:markedEach [o1,o2] [m,r] (evalEach [m,r] env)=[eval m env,eval r env])
  (h:wpAny M A (eval l env) (fun a s₁=>wpAny M A (eval m env) (fun b s2=>wpAny M A (compareOp o1 a b) (fun c s3=>∃t:Bool,c=.bool t/\(t=true->wpAny M A (eval r env) (fun d s4=>wpAny M A (compareOp o2 b d) (fun c s5=>wpAny M A (truthy c) Q E s5) E s4) E s3)/\(t=false->Q false s3)) E s2) E s₁) E s):
  wpAny M A (isTrue (.Compare l [o1,o2] [m,r] pos) env whole) Q E s:=by
 show wpAny M A (do testChain pos (<-eval l env) [o1,o2] (markedEach [o1,o2] [m,r] (evalEach [m,r] env))) Q E s
 rw [hm]
 refine wpAny_bind (wpAny_mono h (fun a s₁ hc=>?_) fun _ _ q=>q)
 show wpAny M A (do
  let rv <-holding [a] (eval m env)
  standAt pos
  let c <-holding [a,rv] (compareOp o1 a rv)
  release [a,rv] [c]
  if <-holding [c,rv] (truthy c) then testChain pos rv [o2] [eval r env] else pure false) Q E s₁
 refine wpAny_bind (wpAny_holding (wpAny_mono hc (fun b s2 hd=>wpAny_bind (wpAny_standAt (wpAny_bind (wpAny_holding (wpAny_mono hd (fun c s3 he=>?_) fun _ _ q=>q))))) fun _ _ q=>q))
 obtain ⟨t,rfl,h4,h5⟩:=he
 refine wpAny_bind (wpAny_release (wpAny_bind (wpAny_holding (wpAny_truthy_bool ?_))))
 cases t with
 |true=>
  rw [if_pos rfl]
  show wpAny M A (do
   let rv <-holding [b] (eval r env)
   standAt pos
   let c <-operate [b,rv] (compareOp o2 b rv)
   holding [c] (truthy c)) Q E s3
  exact wpAny_bind (wpAny_holding (wpAny_mono (h4 rfl) (fun d s4 h6=>wpAny_bind (wpAny_standAt (wpAny_bind (wpAny_operate' (wpAny_mono h6 (fun c s5 h7=>wpAny_holding h7) fun _ _ q=>q))))) fun _ _ q=>q))
 |false=>rw [if_neg (by simp)];exact wpAny_pure (h5 rfl)
noncomputable abbrev EI (P:Pg)(l m r:Expr)(o1 o2:CmpOp):WP Bool:=fun A env Q E s=>wpAny P.M A (eval l env) (fun a s₁=>wpAny P.M A (eval m env) (fun b s2=>wpAny P.M A (compareOp o1 a b) (fun c s3=>∃t:Bool,c=.bool t/\(t=true->wpAny P.M A (eval r env) (fun d s4=>wpAny P.M A (compareOp o2 b d) (fun v s5=>∃u:Bool,v=.bool u/\Q u s5) E s4) E s3)/\(t=false->Q false s3)) E s2) E s₁) E s
theorem chain {l m r:Expr}{o1 o2:CmpOp}{pl pm pr:PE}{F G:T->T->Option Bool}(k1:jN P o1 F)(k2:jN P o2 G)(hl:av P B C l pl (RX P))(hm:av P B C m pm (RX P))(hr:av P B C r pr (RX P)):ee P B C (EI P l m r o1 o2) (nQ F G pl pm pr) RQ:=
 hl.bind (N:=fun A env a Q E s₁=>wpAny P.M A (eval m env) (fun b s2=>wpAny P.M A (compareOp o1 a b) (fun c s3=>∃t:Bool,c=.bool t/\(t=true->wpAny P.M A (eval r env) (fun d s4=>wpAny P.M A (compareOp o2 b d) (fun v s5=>∃u:Bool,v=.bool u/\Q u s5) E s4) E s3)/\(t=false->Q false s3)) E s2) E s₁)
  (F:=fun c ρ k a σ=>pm c ρ σ fun b σ=>match F a b with |some true=>pr c ρ σ fun x σ=>up (G b x) σ k |some false=>k false σ |none=>.bad) ER fun n A env g ga ρ σ s s₁ x t k Q E p X r1 hb hq=>hm n A env ga ρ σ s₁ _ _ E X hb fun y s2 gb u σ₂ ec p2 wb r2=>by
  have hb2:=fun q=>hb (ec.trans q)
  have rx:=jq.post X.g p2 r1
  cases ht:F t u with
  |none=>simp only [ht] at hb2;exact (hb2 trivial).elim
  |some c=>
   refine k1 A gb σ₂ s2 x y t u c _ _ X.rm wb rx.y (jq.y r2) ht fun tk=>⟨c,rfl,fun q=>?_,fun q=>?_⟩
   .subst q
    simp only [ht] at hb2 ec
    have pt:=aQ.toks gb s2 tk
    refine hr n A env gb ρ σ₂ {s2 with toks:=tk} _ _ E ((X.post p2 wb).post pt wb) hb2 fun z s3 g3 v σ₃ ed p3 w3 r3=>?_
    obtain ⟨b,e'⟩:=cG fun q=>hb2 (ed.trans q)
    exact k2 A g3 σ₃ s3 y z u v b _ _ X.rm w3 (jq.post (s:={s2 with toks:=tk}) wb p3 r2).y (jq.y r3) e' fun tk'=>⟨b,rfl,hq b _ g3 b σ₃ (ec.trans (ed.trans (by rw [e'];rfl))) ((p2.trans pt).trans (p3.trans (.toks _ _ _))) w3 rfl⟩
   .subst q
    simp only [ht] at ec
    exact hq false _ gb false σ₂ ec (p2.trans (.toks _ _ _)) wb rfl
theorem cW.cmp2 {l m r:Expr}{o1 o2:CmpOp}{pos:Pos}{pl pm pr:PE}{F G:T->T->Option Bool}(k1:jN P o1 F)(k2:jN P o2 G)(hM:∀env,markedEach [o1,o2] [m,r] (evalEach [m,r] env)=[eval m env,eval r env])(hl:av P B C l pl (RX P))(hm:av P B C m pm (RX P))(hr:av P B C r pr (RX P)):cW P B C (.Compare l [o1,o2] [m,r] pos) (nQ F G pl pm pr):=
 (chain k1 k2 hl hm hr).map fun A env Q E s h=>mh (hM env) (wpAny_mono h (fun a s₁ h=>wpAny_mono h (fun b s2 h=>wpAny_mono h (fun c s3 ⟨t,e,h1,h2⟩=>⟨t,e,fun q=>wpAny_mono (h1 q) (fun d s4 h=>wpAny_mono h (fun v s5 ⟨u,e,h⟩=>by rw [e];exact wpAny_truthy_bool h) fun _ _ q=>q) fun _ _ q=>q,h2⟩) fun _ _ q=>q) fun _ _ q=>q) fun _ _ q=>q)
theorem av.cmp2 {l m r:Expr}{o1 o2:CmpOp}{pos:Pos}{pl pm pr:PE}{F G:T->T->Option Bool}(k1:jN P o1 F)(k2:jN P o2 G)(hM:∀env,markedEach [o1,o2] [m,r] (evalEach [m,r] env)=[eval m env,eval r env])(hl:av P B C l pl (RX P))(hm:av P B C m pm (RX P))(hr:av P B C r pr (RX P)):av P B C (.Compare l [o1,o2] [m,r] pos) (pB (nQ F G pl pm pr)) (RV P):=
 ((chain k1 k2 hl hm hr).bind (N:=fun A env b Q E s=>Q (.bool b) s) (F:=fun _ _ k b σ=>k (.bool b) σ) lA fun n A env g ga ρ σ s s₁ x t k Q E p X r hb hq=>hq _ s₁ ga _ σ rfl (.refl _ _) X.g (by cases r;rfl)).map fun A env Q E s h=>Aq (hM env) (wpAny_mono h (fun a s₁ h=>wpAny_mono h (fun b s2 h=>wpAny_mono h (fun c s3 ⟨t,e,h1,h2⟩=>⟨t,e,fun q=>wpAny_mono (h1 q) (fun d s4 h=>wpAny_mono h (fun v s5 ⟨u,e,h⟩=>by rw [e];exact h) fun _ _ q=>q) fun _ _ q=>q,h2⟩) fun _ _ q=>q) fun _ _ q=>q) fun _ _ q=>q)
end
structure jf where
 i:Nat
 x:Str
 k:NameKind
 p:Pos
noncomputable def jf.e (z:jf):Expr:=.Name z.x z.p
noncomputable def CF (B:b7)(C:Ct)(zs:List jf):Bool:=zs.all fun z=>(B.tab[z.i]?==some (some (z.x,z.k)))&&((z.k==.local||z.k==.cell)&&cQ C z.i false C)
structure jf.ok (B:b7) (C:Ct) (z:jf):Prop where
 t:B.tab[z.i]?=some (some (z.x,z.k))
 k:z.k=.local\/z.k=.cell
 s:cQ C z.i false C=true
theorem Dz {B:b7}{C:Ct}{zs:List jf}(h:CF B C zs=true)(z:jf)(hz:z∈zs):z.ok B C:=by
 obtain ⟨h1,h2⟩:=ai (aI h z hz)
 obtain ⟨h2,h3⟩:=ai h2
 exact ⟨eq_of_beq h1,(or_eq_true_iff.mp h2).imp eq_of_beq eq_of_beq,h3⟩
theorem gH (env:Env):∀zs:List jf,(assignEach (zs.map jf.e) env).map (·.2)=zs.map (fun z=>assign z.e env)/\(assignEach (zs.map jf.e) env).length=zs.length/\(assignEach (zs.map jf.e) env).findIdx? (·.1)=none
 | []=>⟨rfl,rfl,rfl⟩
 |z::zs=>by
  obtain ⟨h1,h2,h3⟩:=gH env zs
  have e:assignEach ((z::zs).map jf.e) env=(false,assign z.e env)::assignEach (zs.map jf.e) env:=rfl
  rw [e]
  refine ⟨by rw [map_cons,map_cons,h1],by rw [length_cons,h2];rfl,?_⟩
  rw [findIdx?_cons,h3];rfl
theorem lS:∀{is:List Nat} {ts:List T} {ρ ρ':aW},fh is ts ρ=some ρ'->is.length=ts.length
 | [],[],_,_,_=>rfl
 | [],_::_,_,_,e=>by cases e
 |_::_,[],_,_,e=>by cases e
 |_::is,_::ts,_,_,e=>congrArg (·+1) (lS (is:=is) (ts:=ts) e)
section
variable {P:Pg} {B:b7} {C C':Ct} {fr:Bool} {n:Nat} {A:Around} {env:Env} {g g':Gh} {ρ ρ':aW} {σ:Sg} {s s':Shared} {h h':Heap} {E:Value->Shared->Prop}
theorem kP {Q:Unit->Shared->Prop}:∀(zs:List jf) (ts:List T) (us:List Value) (ρ:aW) (s:Shared),fh (zs.map (·.i)) ts ρ=some ρ'->(∀z∈zs,z.ok B C)->At P B C n A env g ρ σ s->bm P g s.heap ts us->(∀s',cf [] (own env) g s g s'->At P B C n A env g ρ' σ s'->Q () s')->wpAny P.M A (assignInOrder (zs.map (fun z=>assign z.e env)) us) Q E s
 | [],[],us,ρ,s,e,hz,X,r,h=>by
  cases r;cases e
  exact assignInOrder_nil (h s (aQ.refl g s).toE X)
 | [],_::_,us,ρ,s,e,hz,X,r,h=>by cases e
 |z::zs,[],us,ρ,s,e,hz,X,r,h=>by cases e
 |z::zs,t::ts,us,ρ,s,e,hz,X,r,h=>by
  obtain ⟨v,vs,rfl,r,rs⟩:=r
  have o:=hz z mem_cons_self
  refine assignInOrder_cons (wpAny_assign_Name (i4 X o.s o.t o.k r fun s' p X'=>?_))
  have p:cf [] (own env) g s g s':=p.weak (fun _ h=>h) dN
  exact kP zs ts vs (ρ.set z.i (some t)) s' e (fun w hw=>hz w (mem_cons_of_mem _ hw)) X' (rs.mono (p.toS.k X.g fun a ha=>(X.env.own a ha).2.1)) fun s'' p' X''=>h s'' (p.trans p') X''
theorem jI {Q:Unit->Shared->Prop}{zs:List jf}{ts:List T}{us:Array Value}{a:Addr}{m kt:Nat}{pt:Pos}(hz:CF B C zs=true)(e:fh (zs.map (·.i)) ts ρ=some ρ')(X:At P B C n A env g ρ σ s)(ea:s.heap.get? a=some (jg us m))(rs:bm P g s.heap ts us.toList)
  (h:∀s',cf [] (own env) g s g s'->At P B C n A env g ρ' σ s'->Q () s'):wpAny P.M A (assign (.Tuple (zs.map jf.e) kt pt) env (.ref a)) Q E s:=by
 obtain ⟨h1,h2,h3⟩:=gH env zs
 refine wpAny_assign_Tuple X.room.2.2 ⟨_,ea,rfl,m,rfl⟩ (by rw [h2,<-length_map (f:=(·.i)),lS e,<-rs.length];rfl) h3 fun h' hk=>?_
 have k:∀b o,s.heap.get? b=some o->h'.get? b=some o:=fun b o e=>hk b o (fun q=>ay e (q▸aR _)) e
 have pa:aQ g s g {s with heap:=h',toks:=s.toks}:=.grow s.toks k g.F (fun _ f=>f) fun _ f=>.inl f
 rw [h1]
 exact kP zs ts _ ρ _ e (Dz hz) (X.post pa (X.g.grow k g.F (fun _ f=>f) fun _ f=>.inl f)) (rs.mono (pa.k X.g)) fun s' p' X'=>h s' (pa.toE.trans p') X'
theorem qd:∀(xs:List T) (k i:Nat),(lY k xs)[i]?=(xs[i]?).map fun v=>T.tup [.int ((k+i:Nat):Int),v]
 | [],_,_=>rfl
 |x::xs,k,0=>rfl
 |x::xs,k,i+1=>by
  have:=qd xs (k+1) i
  rw [Nat.add_right_comm] at this
  exact this
theorem gZ:∀(xs:List T) (k:Nat),(lY k xs).length=xs.length
 | [],_=>rfl
 |_::xs,k=>congrArg (·+1) (gZ xs (k+1))
noncomputable def Ap (P:Pg)(ts:List T)(e it l:Addr)(vs:Array Value)(m k:Nat)(g:Gh)(h:Heap):Prop:=(∃old,IsEnum h e it k old)/\h.IsListIter it l k/\g.F l/\h.get? l=some (bO vs m)/\bm P g h ts vs.toList
theorem Ap.stay {ts:List T}{e it l:Addr}{vs:Array Value}{m k:Nat}(st:Ap P ts e it l vs m k g h)(kf:aZ g h g' h')(ki:∀a∈[e,it],∀o,h.get? a=some o->h'.get? a=some o):Ap P ts e it l vs m k g' h':=by
 obtain ⟨⟨old,h1⟩,⟨o,h2,h3⟩,f,e',q⟩:=st
 exact ⟨⟨old,ki e mem_cons_self _ h1⟩,⟨o,ki it (mem_cons_of_mem _ mem_cons_self) o h2,h3⟩,(kf.F l f).1,(kf.F l f).2 _ e',q.mono kf⟩
theorem l7.enum (hh:A.handled=none){e it l:Addr}{vs:Array Value}{m:Nat}{ts:List T}{z1 z2:jf}{kt:Nat}{pt:Pos}(hz:CF B C [z1,z2]=true)(hei:e≠it):
  l7 P A B C C (.Tuple [z1.e,z2.e] kt pt) (AA z1.i z2.i) own e (lY 0 ts) [e,it] [] (Ap P ts e it l vs m) where
 sub:=fun _ _ h=>h
 stay:=fun k g h g' h' st kf ki=>st.stay kf ki
 here:=fun k g h st b hb=>by
  obtain ⟨⟨old,g1⟩,⟨o,g2,_⟩,_⟩:=st
  rcases az hb with rfl |hb
  .exact ay g1
  .rw [ae hb];exact ay g2
 self:=fun k g s Q E st h=>by
  obtain ⟨⟨old,g1⟩,_⟩:=st
  exact wpAny_pyIter_enum g1 h
 item:=fun k v n env g ρ ρ' σ s Q E hj X hv st hρ hq=>by
  obtain ⟨⟨old,g1⟩,g2,f,b1,b2⟩:=id st
  rw [qd] at hj
  obtain ⟨x,hx,rfl⟩:=ax hj
  obtain ⟨u,hu,r⟩:=b2.get hx
  refine wpAny_pyNext_enum_item g1 g2 ⟨_,b1,rfl,m,rfl⟩ (by rw [<-Array.getElem?_toList];exact hu) hei fun h' ho hit' ht hsz hk=>?_
  refine wpAny_letOwnedTupleGo_enum ho fun hd he2 hs2=>?_
  have hel:s.heap.objs.size≠e:=fun q=>ay g1 (q▸aR _)
  have hk2:∀b o,s.heap.get? b=some o->b∉[e,it]->hd.get? b=some o:=fun b o e' hb=>(hs2.2 b fun q=>hb (q▸mem_cons_self)).trans (hk b o (fun q=>hb (q▸mem_cons_self)) (fun q=>hb (q▸mem_cons_of_mem _ mem_cons_self)) e')
  obtain ⟨pV,X1⟩:=eE X hv hk2 (s.toks+1)
  have lve:hd.get? e≠none:=ay he2
  have lvi:hd.IsListIter it l (k+1):=let ⟨o,w1,w2⟩:=hit';⟨o,(hs2.2 it (Ne.symm hei)).trans w1,w2⟩
  have kf:aZ g s.heap g hd:=⟨fun b f=>⟨f,fun o e=>hk2 b o e fun q=>(hv b q).1 f⟩,rfl⟩
  have pV:=fB pV fun b hb=>by
   rcases az hb with rfl |hb
   .exact lve
   .rw [ae hb];exact let ⟨_,e,_⟩:=lvi;ay e
  have st':Ap P ts e it l vs m (k+1) g hd:=⟨⟨_,he2⟩,lvi,f,(kf.F l f).2 _ b1,b2.mono kf⟩
  refine jI (zs:=[z1,z2]) (ts:=[.int ((0+k:Nat):Int),x]) hz hρ X1 ((hs2.2 _ hel).trans ht) ⟨_,_,rfl,⟨s.toks,by rw [zero_add]⟩,_,_,rfl,r.mono kf,rfl⟩ fun s' p' X'=>?_
  exact hq s' ((pV.weak (fun _ h=>h) fun a=>mem_append_left _).trans (p'.weak (fun _ h=>h) fun a=>mem_append_right _)) X' (st'.stay (p'.toS.k X1.g fun a ha=>(X1.env.own a ha).2.1) fun a ha o e=>p'.keep a o e (hv a ha).2.1 (hv a ha).2.2.2)
 done:=fun n env g ρ σ s Q E X hv st hq=>by
  obtain ⟨⟨old,g1⟩,g2,f,b1,b2⟩:=id st
  rw [gZ] at g1 g2
  refine wpAny_pyNext_enum_end hh g1 g2 ⟨_,b1,rfl,m,rfl⟩ (Array.getElem?_eq_none (le_of_eq b2.size)) fun h' hk=>?_
  obtain ⟨pV,X1⟩:=eE (h':=h') X hv (fun b o e' hb=>hk b o (fun q=>hb (q▸mem_cons_of_mem _ mem_cons_self)) e') s.toks
  exact hq _ pV X1
theorem gu.enum {x:Expr}{d:PE}{z1 z2:jf}{kt:Nat}{pt p pos:Pos}(hz:CF B C [z1,z2]=true)(hx:B.sc.names.lookup (ofString "enumerate")=some .globalImplicit)(hn:∀env,starEach [x] env=[(false,eval x env)])(h:av P B C x d (RV P)):
  gu P B C (.Call (.Name (ofString "enumerate") p) [x] [] pos) (Ao P B C C (.Tuple [z1.e,z2.e] kt pt) (AA z1.i z2.i) own) (sZ d):=fun n A env g ρ σ s k Q E X hb hq=>by
 refine Call_Name rfl (X.blt hx (by decide) (by decide) (v:=.type "enumerate") (by decide) (bH (fun _ q=>by cases q) (cc (by rw [hn env];exact fun q hq=>by cases hq with |head=>rfl |tail _ h=>cases h)) (wpAny_items_cons (h n A env g ρ σ s _ _ E X hb fun x s₁ ga t σ₁ eb pa wa r1=>wpAny_items_nil ?_) (hn env))))
 obtain ⟨ts',e'⟩:=cG fun q=>hb (eb.trans q)
 obtain ⟨ts,e2,e3⟩:=aD e'
 cases fT e2
 obtain ⟨l,rfl,f,vs,m,b1,b3,b2⟩:=r1
 refine call_enumerate_1 b1 fun h' ge gi _ hk=>wpAny_pyIter_enum ge ?_
 have hne:s₁.heap.get? (s₁.heap.objs.size+1)=none:=Heap.get?_none_of_le (le_succ _)
 have p2:aQ ga s₁ ga {s₁ with heap:=h',toks:=s₁.toks}:=.grow s₁.toks hk ga.F (fun _ f=>f) fun _ f=>.inl f
 cases e3
 refine hq _ ga _ σ₁ _ [_,s₁.heap.objs.size] [] _ (eb.trans (by rw [e'];rfl)) (pa.trans p2) (wa.grow hk ga.F (fun _ f=>f) fun _ f=>.inl f) (l7.enum (l:=l) X.room.2.2 hz (Nat.ne_of_gt (lt_succ_self _))) ⟨⟨_,ge⟩,gi,f,hk _ _ b1,b2.mono (p2.k wa)⟩ (fun b hb=>?_) (fun _ q=>nomatch q) (by rw [gZ];exact b3)
 have:s₁.heap.get? b=none:=by
  rcases az hb with rfl |hb
  .exact hne
  .rw [ae hb];exact aR _
 exact ⟨pa.back b this,fun q=>wa.F b q this,fun q=>(wa.Z b q).1 this⟩
theorem oY.str (hh:A.handled=none){I:Addr}{x:Str}{t:Tok}(ha:x.cps.all (· < 128)=true):oY P A I (x.cps.toList.map fun c=>T.str ⟨#[c]⟩) [I] [] (fun i _ h=>h.IsStrIter I "str_ascii_iterator" x t i) where
 self i g s Q E st:=wpAny_pyIter_striter_ascii st
 stay i g h g' h' st k ki:=let ⟨o,e,r⟩:=st;⟨o,ki I (aE rfl) o e,r⟩
 here i g h st a ha:=by
  obtain ⟨o,e,_⟩:=st
  rw [ae ha];exact ay e
 item i t g s Q E hi st hF hq:=by
  rw [getElem?_map] at hi
  obtain ⟨c,hc',rfl⟩:=ax hi
  have hcx:x.cps[i]?=some c:=by rw [<-Array.getElem?_toList];exact hc'
  refine wpAny_pyNext_ascii_item st hcx fun h' hit hs=>?_
  refine hq _ h' _ (iN hs.2) ⟨⟨?_,(show 1<=lim by decide)⟩,_,rfl⟩ hit
  have hlt:c < 128:=by
   have:=Array.all_eq_true_iff_forall_mem.mp ha c (Array.mem_of_getElem? hcx)
   simpa using this
  simp [PyData.strOk]
  lia -abstractProof
 done g s Q E st hq:=wpAny_pyNext_ascii_end hh st (by rw [length_map];exact Array.getElem?_eq_none (le_refl _)) fun h' hs=>hq h' s.toks fun b o e hb=>hs b o (fun q=>hb (aE q)) e
theorem gu.str {e:Expr}{p:PE}{mk:Around->Addr->List T->List Addr->List Addr->(Nat->Gh->Heap->Prop)->Prop}(hb:jM P mk)(h:av P B C e p (RV P)):gu P B C e mk (p1 BZ p):=fun n A env g ρ σ s k Q E X hbad hq=>
 h n A env g ρ σ s (fun t σ=>up (BZ t) σ k) _ E X hbad fun x s₁ ga t σ₁ e p w r=>by
  obtain ⟨ts,e'⟩:=cG fun q=>hbad (e.trans q)
  obtain ⟨y,e1,e2⟩:=aD e'
  obtain ⟨ha,e2⟩:=de e2
  obtain ⟨⟨_,l⟩,u,rfl⟩:=fU.s (.inl r) e1
  refine wpAny_pyIter_ascii ha ?_
  obtain ⟨p',w',v⟩:=qU (X:={cls:=.type "str_ascii_iterator",data:=.fields #[.str y u,.int 0 0]}) (tk:=s₁.toks) w p
  exact hq _ ga ts σ₁ _ _ [] _ (e.trans (by rw [e'];rfl)) p' w' (e2▸hb.make (oY.str X.room.2.2 ha)) ⟨_,ch _,rfl,rfl⟩ v (fun _ q=>nomatch q) (by rw [<-e2,length_map];exact l)
theorem Ep:jN P .In GM:=fun A g σ s x x' t t' b Q E rm w q q' e k=>by
 obtain ⟨y,z,e1,e2,e3⟩:=bn e
 cases e3
 obtain ⟨_,u,rfl⟩:=q.s e1
 obtain ⟨_,v,rfl⟩:=q'.s e2
 exact PySem.P.in_str (k s.toks)
end
end
end Mine
namespace Mine
noncomputable section
open PySem PySem.W PyProof.Rows PySem.SeqAt
theorem hU:entryFor table "dict.update.loop"=some Builtin.«dict.update.loop»:=entryFor_of_tree (by kernel_rfl)
theorem dC:plainId "dict.update.loop"=true:=by decide+kernel
theorem wT:typeLookup (.type "list") "keys"=pure none:=by rw [typeLookup_type,builtinLookup_eq_fast];kernel_rfl
section
variable {prog:Program} {w:World} {A:Around} {E:Value->Shared->Prop} {s:Shared}
set_option maxRecDepth 100000 in
theorem wV {a:Addr}{xs:Array Value}{k:Nat}{Q:Option Value->Shared->Prop}(hx:s.heap.get? a=some {cls:=.type "list",dict:=none,data:=.seq xs k,slots:=#[]})(hA:A.handled=none)
  (h:∀h' tk,(∀b o,s.heap.get? b=some o->h'.get? b=some o)->Q none {s with heap:=h',toks:=tk}):wpAny (model prog w) A (getAttr? (.ref a) "keys") Q E s:=by
 obtain ⟨hp,g,d,tk,os⟩:=s
 have hT:∀tk',(⟨hp,g,d,tk',os⟩:Shared).TypeIs (.ref a) "list":=fun _=>⟨_,hx,rfl⟩
 have f1:=sub_AttributeError
 have f3:=F.slot_list_getattribute.lookup
 have f4:=F.slot_list_getattribute.bind (.ref a)
 have f5:=am_list_getattr_none
 unfold getAttr? getAttrBy? getAttrBy
 repeat (any_goals (first |assumption |exact hT _ | ((with_reducible show wpAny _ _ (call (Value.builtin "list.__getattribute__") _ _) _ _ _);refine call_meets F.slot_list_getattribute (hT _) am_entry_list_getattribute (F.args_list_getattribute_2 _ _) (meets_getattribute_miss_list a xs k #[] "keys" _ wT (by decide) (by size_fits)) ⟨hx,hA,fun h' tk' e hx'=>?_⟩) |wp_step))
 obtain ⟨t',u',he⟩:=hx'.there
 show wpAny _ _ (getattributeRaised _ _ _ _ _ _ _) _ _ _
 unfold getattributeRaised
 repeat (any_goals (first |assumption |wp_step))
 exact h _ _ hx'.keeps
theorem uu {a:Addr}{vs:Array Value}{n:Nat}{Q:List Value->Shared->Prop}(hx:s.heap.get? a=some {cls:=.type "tuple",dict:=none,data:=.seq vs n,slots:=#[]})(h:Q vs.toList s):wpAny (model prog w) A (Builtin.Dict.pairItems (.ref a)) Q E s:=by
 have hT:s.TypeIs (.ref a) "tuple":=⟨_,hx,rfl⟩
 unfold Builtin.Dict.pairItems
 refine wpAny_bind (wpAny_typeOf hT ?_)
 rw [if_pos (by decide)]
 refine wpAny_bind (wpAny_seqItems hx rfl (wpAny_pure ?_))
 exact h
end
noncomputable abbrev oy (es:List jO)(xs:List jO):List jO:=es.foldl (fun xs e=>storedH xs e.1 e.2.1 e.2.2) xs
section
variable {prog:Program} {w:World} {A:Around} {s:Shared} {knd:HeapKind prog w Ky}
theorem r6 (xs:List jO)(κ:Ky)(a:Addr)(v:Value):(storedH xs κ a v).length<=xs.length+1:=by
 unfold storedH;split
 .rw [length_map];lia -abstractProof
 .rw [List.length_append];exact le_refl _
theorem vP {h h':Heap}{κ:Ky}{a:Addr}(k:∀b o,h.get? b=some o->h'.get? b=some o)(i:(cj prog w).is h κ a):(cj prog w).is h' κ a:=let ⟨d,e,x⟩:=i;⟨d,e,dZ.keeps (fun _ _ _ e=>k _ _ e) d 6 _ x⟩
theorem ug {xs:List jO}{e x:jO}{p:Ky->Addr->Prop}(h:∀x∈xs,p x.1 x.2.1)(he:p e.1 e.2.1)(hx:x∈storedH xs e.1 e.2.1 e.2.2):p x.1 x.2.1:=by
 unfold storedH at hx
 split at hx
 .obtain ⟨y,hy,rfl⟩:=aT hx
  unfold putAt;split<;>exact h y hy
 .rcases ah hx with hx |hx
  .exact h x hx
  .rw [ae hx];exact he
theorem vg {n i k:Nat}(h:n - i=k+1):n - (i+1)=k:=by rw [Nat.sub_add_eq,h];rfl
inductive Iw (prog:Program) (w:World) (h:Heap) (o:Option jO) (v:Value):Prop
 |mk (a:Addr) (e:jO) (us:Array Value) (m:Nat) (hv:v=.ref a) (he:o=some e) (hg:h.get? a=some ⟨.type "tuple",none,.seq us m,#[]⟩) (hu:us.toList=[.ref e.2.1,e.2.2]) (hk:(cj prog w).is h e.1 e.2.1)
theorem xd {R:Result->Shared->Prop}{I:Addr}{fp wr:List Addr}{G:Array GenState->Array GenState->Prop}{n:Nat}{Pp:Nat->Value->Prop}{St:Nat->Shared->Prop}(hu:A.units+50 < cLine)(W:WalksS prog w A.in1 I fp wr G n Pp St)(S:Addr)(hSf:S∉fp)(h₀:Heap)(es:List jO)(hn:es.length=n)(hnl:n<=lim)
  (hval:∀i v,Pp i v->Iw prog w h₀ es[i]? v)(hS0:h₀.get? S=none)(hw0:∀b∈wr,h₀.get? b=none):
  ∀(k i:Nat) (s:Shared) (xs:List jO),n - i=k->i<=n->xs.length<=i->St i s->s.heap.DictOfH (cj prog w) S xs->(∀x∈xs,(cj prog w).is h₀ x.1 x.2.1)->(∀b o,h₀.get? b=some o->s.heap.get? b=some o)->
   (∀s',Moved (S::wr) G s s'->s'.heap.DictOfH (cj prog w) S (oy (es.drop i) xs)->R (.ok (.ret .none)) s')->
   codeAny (model prog w) A (.builtin "dict.update.loop" ⟨[.ref S,.ref I,rawInt i,.none],[]⟩) R s:=by
 have hSw:S∉wr:=fun h=>hSf (W.sub _ h)
 have hsub:∀b∈wr,b∈S::wr:=fun b hb=>mem_cons_of_mem _ hb
 have kp:∀{s s':Shared},Moved wr G s s'->(∀b o,h₀.get? b=some o->s.heap.get? b=some o)->∀b o,h₀.get? b=some o->s'.heap.get? b=some o:=fun hm hkp b o e=>hm.heap b o (fun hb=>by rw [hw0 b hb] at e;cases e) (hkp b o e)
 have dm:∀{xs:List jO} {s s':Shared},Moved wr G s s'->(∀b o,h₀.get? b=some o->s.heap.get? b=some o)->(∀x∈xs,(cj prog w).is h₀ x.1 x.2.1)->s.heap.DictOfH (cj prog w) S xs->s'.heap.DictOfH (cj prog w) S xs:=fun hm hkp hx d=>by
  obtain ⟨o,es,ep,h1,h2,h3,h4,h5,h6⟩:=d
  exact ⟨o,es,ep,hm.heap S _ hSw h1,h2,h3,h4,fun x hx'=>vP (kp hm hkp) (hx x hx'),h6⟩
 intro k
 induction k with
 |zero=>
  intro i s xs hk hi hxl hst hS hxs hkp hR
  obtain rfl:i=n:=le_antisymm hi (Nat.le_of_sub_eq_zero hk)
  rw [List.drop_of_length_le (by lia -abstractProof)] at hR
  refine codeAny_builtin hU ?_
  rw [Around.under_plainId dC _]
  show wpAny _ A.in1 (pyNext (.ref I) >>=_) _ _ s
  refine wpAny_bind (W.done s _ _ hst fun s' hm=>?_)
  show wpAny _ A.in1 (Builtin.Dict.addKeywords S [] >>=fun _=>ret Value.none) _ _ s'
  refine wpAny_bind (wpAny_pure ?_)
  exact wpAny_pure (hR s' (hm.mono hsub) (dm hm hkp hxs hS))
 |succ k ih=>
  intro i s xs hk hi hxl hst hS hxs hkp hR
  have hlt:i < n:=Nat.lt_of_sub_eq_succ hk
  refine codeAny_builtin hU ?_
  rw [Around.under_plainId dC _]
  show wpAny _ A.in1 (pyNext (.ref I) >>=_) _ _ s
  refine wpAny_bind (W.item i s _ _ hlt hst fun v s' hP hst' hm=>?_)
  obtain ⟨a,e,vs,m,rfl,hes,ha,hv,his⟩:=hval i v hP
  have hkp':=kp hm hkp
  have hS':=dm hm hkp hxs hS
  have hdrop:es.drop i=e::es.drop (i+1):=by
   obtain ⟨h1,h2⟩:=ak hes
   rw [List.drop_eq_getElem_cons h1,h2]
  rw [hdrop] at hR
  show wpAny _ A.in1 (holding [Value.ref a] _ >>=_) _ _ s'
  refine wpAny_bind (wpAny_holding (wpAny_bind (wpAny_tryCatch (uu (hkp' a _ ha) ?_))))
  rw [hv]
  have hl:lim<=sizeLine:=by decide
  refine wpAny_holding (wpAny_dictSet_heap (show A.in1.units+6 < cLine by rw [Around.in1_units];lia) (vP hkp' his) hS' (fun h' hS2 hsb=>?_) (by lia -abstractProof))
  refine wpAny_pure ⟨plainId_quiet dC _,?_⟩
  have e1:((i:Int)+1)=((i+1:Nat):Int):=rfl
  show codeAny _ A (.builtin "dict.update.loop" ⟨[.ref S,.ref I,rawInt ((i:Int)+1),.none],[]⟩) R _
  rw [e1]
  refine ih (i+1) _ (storedH xs e.1 e.2.1 e.2.2) (vg hk) hlt (le_trans (r6 _ _ _ _) (by lia -abstractProof)) ?_ hS2 (fun x hx=>ug (p:=fun κ a=>(cj prog w).is h₀ κ a) hxs his hx) (fun b o e=>?_) fun s'' hm'' hS''=>?_
  .refine W.frame _ s' _ _ hst' (le_add_right _ _) fun b hb o e=>?_
   rw [hsb.2 b (fun h:b=S=>hSf (by rw [<-h];exact hb))];exact e
  .rw [hsb.2 b (fun h:b=S=>by rw [h,hS0] at e;cases e)];exact hkp' b o e
  .refine hR s'' (Moved.trans W.gtrans ((hm.mono hsub).then_heap (le_add_right _ _) fun b o hb e=>?_) hm'') hS''
   rw [hsb.2 b (fun h:b=S=>hb (by rw [h];exact mem_cons_self))];exact e
set_option maxRecDepth 100000 in
theorem ic {E:Value->Shared->Prop}{l:Addr}{items:Array Value}{m:Nat}{es:List jO}{Q:Value->Shared->Prop}(hu:A.units+100 < cLine)(hh:A.handled=none)(hl:s.heap.get? l=some {cls:=.type "list",dict:=none,data:=.seq items m,slots:=#[]})(hn:es.length=items.size)(hnl:items.size<=lim)
  (hval:∀(i:Nat) v,items[i]?=some v->Iw prog w s.heap es[i]? v)
  (h:∀(h':Heap) (tk:Nat),h'.DictOfH (cj prog w) s.heap.objs.size (oy es [])->(∀b o,s.heap.get? b=some o->h'.get? b=some o)->Q (.ref s.heap.objs.size) {s with heap:=h',toks:=tk}):
  wpAny (model prog w) A (call (.type "dict") [.ref l]) Q E s:=by
 refine callType_codes (Q₁:=fun obj s₁=>obj=.ref s.heap.objs.size/\s₁={s with heap:=s.heap.push {cls:=.type "dict",data:=.dict #[]}}) F.kt_called_dict (F.kt_typeCall_dict_1 _) F.entry_dict_init (kt_code_dict_new _ ⟨rfl,rfl⟩) ?_
 rintro obj s₁ ⟨rfl,rfl⟩
 have hnew:(s.heap.push {cls:=.type "dict",data:=.dict #[]}).DictOfH (cj prog w) s.heap.objs.size []:=Heap.DictOfH.new s.heap
 have hl':(s.heap.push {cls:=.type "dict",data:=.dict #[]}).get? l=some {cls:=.type "list",dict:=none,data:=.seq items m,slots:=#[]}:=Heap.get?_push_of_some _ hl
 have hlT:Shared.TypeIs {s with heap:=s.heap.push {cls:=.type "dict",data:=.dict #[]}} (.ref l) "list":=⟨_,hl',rfl⟩
 refine ⟨hnew.typeIs,F.args_dict_init_2 _ _,?_⟩
 unfold Builtin.«dict.__init__»
 refine wpAny_bind ?_
 unfold Builtin.Dict.selfAndRest
 refine wpAny_bind (wpAny_notOrdered_dict hnew.typeIs ?_)
 show wpAny _ _ (pure (s.heap.objs.size,[Value.ref l])) _ _ _
 refine wpAny_pure ?_
 show wpAny _ _ (Builtin.Dict.updateFrom "dict.__init__" s.heap.objs.size (.ref l) [] .none) _ _ _
 unfold Builtin.Dict.updateFrom
 refine wpAny_bind (wpAny_typeOf hlT ?_)
 rw [if_pos (by decide)]
 refine wpAny_bind (wV hl' (by simp [hh]) fun h1 tk1 hk1=>?_)
 simp only [Option.isNone_none,if_true]
 refine wpAny_bind (wpAny_rule ?_)
 have hl1:h1.get? l=some {cls:=.type "list",dict:=none,data:=.seq items m,slots:=#[]}:=hk1 _ _ hl'
 have isl:Heap.IsList h1 l items:=⟨_,hl1,rfl,m,rfl⟩
 refine wpAny_bind (wpAny_pyIter_list isl ?_)
 refine wpAny_pure ⟨plainId_quiet dC _,?_⟩
 have hlS:l < s.heap.objs.size:=Heap.lt_size hl
 have hD1:h1.get? s.heap.objs.size≠none:=by
  obtain ⟨o,_,_,e,_⟩:=hnew
  rw [hk1 _ _ e];exact fun q=>by cases q
 have hSs:s.heap.objs.size < h1.objs.size:=by
  cases e:h1.get? s.heap.objs.size with
  |none=>exact absurd e hD1
  |some o=>exact Heap.lt_size e
 have hS0:s.heap.get? s.heap.objs.size=none:=aR _
 have k1:∀b o,s.heap.get? b=some o->h1.get? b=some o:=fun b o e=>hk1 b o (Heap.get?_push_of_some _ e)
 have hI0:s.heap.get? h1.objs.size=none:=by
  cases q:s.heap.get? h1.objs.size with
  |none=>rfl
  |some o=>have:=k1 _ _ q;rw [aR] at this;cases this
 have hd1:h1.DictOfH (cj prog w) s.heap.objs.size []:=by
  obtain ⟨o,es,ep,g1,g2,g3,g4,g5,g6⟩:=hnew
  exact ⟨o,es,ep,hk1 _ _ g1,g2,g3,g4,fun x hx=>(by cases hx),g6⟩
 refine xd (by show A.units+1+50 < cLine;lia) ((Walks.list (by simp [hh]) _ l (Nat.ne_of_lt (Nat.lt_trans hlS hSs)) items).toS) s.heap.objs.size ?_ s.heap es hn hnl hval hS0 (fun b hb=>by rw [ae hb];exact hI0) (items.size - 0) 0 _ [] (by lia -abstractProof) (zero_le _) (zero_le _) ?_ ?_ (fun x hx=>by cases hx) (fun b o e=>Heap.get?_push_of_some _ (k1 b o e)) fun s' hm hS'=>?_
 .simp only [mem_cons,not_mem_nil,or_false,not_or]
  exact ⟨Nat.ne_of_lt hSs,Nat.ne_of_gt hlS⟩
 .exact ⟨⟨_,Heap.get?_push_size _ rfl,rfl,rfl⟩,(isl.push _)⟩
 .obtain ⟨o,es,ep,g1,g2,g3,g4,g5,g6⟩:=hd1
  exact ⟨o,es,ep,Heap.get?_push_of_some _ g1,g2,g3,g4,fun x hx=>(by cases hx),g6⟩
 .obtain ⟨h',g',d',tk',os'⟩:=s'
  have eg:g'=s.gens:=hm.gens
  have ed:d'=s.drawn:=hm.drawn
  have eo:os'=s.os:=hm.os
  subst eg;subst ed;subst eo
  refine ⟨rfl,h h' tk' (by simpa using hS') fun b o e=>?_⟩
  refine hm.heap b o (fun hb=>?_) (Heap.get?_push_of_some _ (k1 b o e))
  rcases az hb with rfl |hb
  .rw [hS0] at e;cases e
  .rw [ae hb,hI0] at e;cases e
end
section
variable {P:Pg} {B:b7} {C:Ct} {g:Gh} {h:Heap}
theorem qr {xs:List jO}{κ:Ky}{a:Addr}{v:Value}(nd:(xs.map (·.1)).Nodup):((storedH xs κ a v).map (·.1)).Nodup:=by
 unfold storedH
 split
 .rw [keys_map_putAt];exact nd
 .rename_i hn
  rw [map_append,nodup_append]
  refine ⟨nd,by simp,fun x hx y hy e=>hn ?_⟩
  rw [List.map_singleton,mem_singleton] at hy
  subst hy;subst e
  rw [oP]
  cases q:qW (xs.map (·.1)) x with
  |none=>
   have:=List.findIdx?_eq_none_iff.mp q x hx
   rw [decide_eq_true rfl] at this;cases this
  |some i=>
   have:=vM q
   rw [getElem?_map] at this
   cases hx':xs[i]? with
   |none=>rw [hx'] at this;cases this
   |some z=>rw [bind_some,hx'];rfl
theorem AR {α:Type}{i:Option Nat}{k v:α}{ks vs:List α}:(nK i k v ks vs).1.length<=ks.length+1:=by
 cases i with
 |none=>rw [nK,List.length_append];exact le_refl _
 |some j=>exact le_succ _
structure EF (P:Pg) (g:Gh) (h:Heap) (nv:Nat) (xs:List Value) (nk:Nat) (zs:List jO) (p:List T×List T) (es:List jO):Prop where
 len:es.length=nv
 at_:∀(i:Nat) v,xs[i]?=some v->Iw P.prog P.w h es[i]? v
 ky:gE p.1=some ((oy es zs).map (·.1))
 rk:bm P g h p.1 ((oy es zs).map fun y=>Value.ref y.2.1)
 rv:bm P g h p.2 ((oy es zs).map (·.2.2))
 le:p.1.length<=nk+nv
theorem qe:∀(vs:List T) (xs:List Value) (ks ws:List T) (zs:List jO) (p:List T×List T),bm P g h vs xs->ox vs ks ws=some p->gE ks=some (zs.map (·.1))->(zs.map (·.1)).Nodup->bm P g h ks (zs.map fun y=>Value.ref y.2.1)->bm P g h ws (zs.map (·.2.2))->
  ∃es:List jO,EF P g h vs.length xs ks.length zs p es
 | [],xs,ks,ws,zs,p,r,e,hk,nd,rk,rw'=>by
  cases r;cases e
  exact ⟨[],rfl,fun i v q=>(by cases q),hk,rk,rw',le_refl _⟩
 |x::vs,_,ks,ws,zs,p,⟨v0,xs,e0,q,r⟩,e,hk,nd,rk,rw'=>by
  subst e0
  obtain ⟨ps,e1,e2⟩:=aD (show o1 (rH x) _=some p from e)
  cases lK e1
  match ps,e2,q with
  | [k,v],e2,q=>
   obtain ⟨i,hd,e3⟩:=aD (show o1 (mn ks k) _=some p from e2)
   obtain ⟨κ,hky⟩:=lr hd
   obtain ⟨t,rfl,_,us,m,g1,_,u1,l1,hus,q1,u2,l2,e4,q2,e5⟩:=q
   cases e5;subst e4
   obtain ⟨ad,rfl,his,_⟩:=n9 hky (.inl q1)
   obtain ⟨p1,p2,p3⟩:=lR (v:=v) (z:=u2) hk nd hd hky rk rw' q1 q2
   obtain ⟨es,h1,h2,h3,h4,h5,h6⟩:=qe vs _ _ _ (storedH zs κ ad u2) p r e3 p1 (qr nd) p2 p3
   refine ⟨(κ,ad,u2)::es,congrArg (·+1) h1,fun j w hw=>?_,h3,h4,h5,?_⟩
   .cases j with
    |zero=>cases hw;exact ⟨t,_,us,m,rfl,rfl,g1,hus,his⟩
    |succ j=>exact h2 j w hw
   .rw [length_cons,add_comm vs.length,<-add_assoc];exact le_trans h6 (Nat.add_le_add_right AR _)
theorem av.dictOf {e:Expr}{p:PE}{np pos:Pos}(hx:B.sc.names.lookup (ofString "dict")=some .globalImplicit)(hn:∀env,starEach [e] env=[(false,eval e env)])(h:av P B C e p (RX P)):av P B C (.Call (.Name (ofString "dict") np) [e] [] pos) (p1 ti p) (RN P):=fun n A env g ρ σ s k Q E X hb hq=>
 av.b1 F2 (fun A env g σ s x t y Q E rm w q e hq=>by
  obtain ⟨xs,e1,e2⟩:=aD e
  obtain ⟨p,e3,e4⟩:=aD e2
  cases e4
  obtain ⟨l,rfl,vs,n,a1,a3,a2⟩:=q.ls e1
  obtain ⟨es,h1,h2,h3,h4,h5,h6⟩:=qe xs vs.toList [] [] [] p a2 e3 rfl .nil rfl rfl
  have hz:=a2.size
  have hsn:=qv X.good w
  refine ic (es:=es) (lt_of_le_of_lt (add_le_add_left (by decide) _) rm.units) rm.handled a1 (by rw [h1];exact hz.symm) (by rw [hz];exact a3) (fun i v hv=>h2 i v (by rw [Array.getElem?_toList];exact hv)) fun h' tk dd hk=>?_
  obtain ⟨n1,n2,n3⟩:=eB w
  have pa:aQ g s g {s with heap:=h',toks:=tk}:=.grow tk hk g.F (fun _ f=>f) fun _ f=>.inl f
  exact hq _ _ g pa (w.grow hk g.F (fun _ f=>f) fun _ f=>.inl f) ⟨_,rfl,aR _,n1,n2,n3,Gw.back hsn dd h3 (h4.mono (pa.k w)) (h5.mono (pa.k w)) (le_trans h6 (le_trans (le_of_eq (zero_add _)) a3))⟩)
  (fun _ q=>by cases q) hx (by decide) (by decide) (by decide) hn h n A env g ρ σ s k Q E X hb hq
end
end
end Mine
namespace Mine
noncomputable section
open PySem PySem.W PyProof.Rows
structure Iv (h:Heap) (mg:Str->Option Value) (nm:Str) (sc:Scope) (bd:List Stmt) (ps:List Str) (a:Addr) (fd:FuncData):Prop where
 ns:mg nm=some (.ref a)
 obj:∃o,h.get? a=some o/\o.data=.func fd
 code:h.CodeRec fd.code fd.qualname
 name:fd.name=nm
 sc:fd.scope=sc
 bd:fd.body=.stmts bd
 cl:fd.closure=[]
 gl:fd.globals=mainGlobals
 bt:fd.builtins=builtinsNs
 bind:∀vals:List Value,vals.length=ps.length->bindArgs fd ⟨vals,[]⟩=pure (ps.zip vals)
noncomputable def vX (q:Program)(nm:Str):Option (Scope×List Stmt×Arguments):=((recsOf q).find? fun d=>d.name==nm).map fun d=>(d.scope,d.body,d.params)
theorem BL {q:Program}{loose:List Str}{mean:ExcName->Option Value}{mg mb:Str->Option Value}{h:Heap}(T:Top q loose mean mg mb h){nm:Str}{sc:Scope}{bd:List Stmt}{pa:Arguments}(ps:List Str)(hr:vX q nm=some (sc,bd,pa))
  (hb:∀(pm cd doc:Value) (vals:List Value),vals.length=ps.length->bindArgs (Calls.docDef nm pa bd sc pm cd doc) ⟨vals,[]⟩=pure (ps.zip vals)):∃a fd,Iv h mg nm sc bd ps a fd:=by
 unfold vX at hr
 obtain ⟨d,hd,e⟩:=ax hr
 have hn:d.name=nm:=beq_iff_eq.mp (find?_some (p:=fun d:DefRec=>d.name==nm) hd)
 obtain ⟨a,o,pm,cd,doc,h1,h2,h3,h4⟩:=T.fn d (List.mem_of_find?_eq_some hd)
 simp only [Prod.mk.injEq] at e
 obtain ⟨rfl,rfl,rfl⟩:=e
 subst hn
 exact ⟨a,_,h1,⟨o,h2,h3⟩,h4,rfl,rfl,rfl,rfl,rfl,rfl,hb pm cd doc⟩
noncomputable def vW (q:Program)(loose:List Str)(x:Str):Bool:=!startupNames.contains x&&!loose.contains x&&!((recsOf q).map (·.name)).contains x&&!((litsOf q).map (·.1)).contains x&&!((clssOf q loose).map (·.name)).contains x
theorem BG {q:Program}{loose:List Str}{mean:ExcName->Option Value}{mg mb:Str->Option Value}{h:Heap}(T:Top q loose mean mg mb h){x:Str}(hx:vW q loose x=true):mg x=none:=by
 simp only [vW,and_eq_true,not_eq_true',List.contains_eq_mem,decide_eq_false_iff_not] at hx
 obtain ⟨⟨⟨⟨h1,h2⟩,h3⟩,h4⟩,h5⟩:=hx
 exact T.free x h1 h2 h3 h4 h5
theorem zj {c:ClaimW}{cl:Str->Option Addr}{mean:ExcName->Option Value}{args:List WData}{s₁:Shared}{h:Heap}{tk:Nat}(hr:∀cls,c.raises args cls=false)(hp:c.post args (.bool true) args=true)(hb:AllBare s₁.gens)
  (hk:∀a o,s₁.heap.get? a=some o->h.get? a=some o):GoodWG c cl mean args s₁ (.ok (.ret (.bool true))) {s₁ with heap:=h,toks:=tk}:=
 ⟨.inl ⟨_,_,[],rfl,hr,ReadsW.bool true,hp,fun _=>⟨List.nodup_nil,fun _ hm=>(nomatch hm)⟩⟩,.of_keep hk,rfl,hb⟩
theorem Dm {Z:Nat->Option gK}{p:Nat->Addr->FuncData->Prop}(h:∀f F,Z f=some F->∃a d,p f a d){f0:Nat}{F0:gK}(h₀:Z f0=some F0):∃(A:Nat->Addr) (D:Nat->FuncData),∀f F,Z f=some F->p f (A f) (D f):=by
 obtain ⟨a0,d0,_⟩:=h f0 F0 h₀
 have h':∀f,∃x:Addr×FuncData,∀F,Z f=some F->p f x.1 x.2:=fun f=>by
  cases e:Z f with
  |none=>exact ⟨(a0,d0),fun F q=>by cases q⟩
  |some F=>
   obtain ⟨a,d,k⟩:=h f F e
   exact ⟨(a,d),fun _ _=>k⟩
 exact ⟨fun f=>(Classical.choose (h' f)).1,fun f=>(Classical.choose (h' f)).2,fun f=>Classical.choose_spec (h' f)⟩
noncomputable def Jr (mg:Str->Option Value)(x:Str):Addr:=match mg x with
 |some (.ref a)=>a
 |_=>0
structure oZ (h:Heap) (mg mN:Str->Option Value) (gl:Bool) (nm:Str) (sc:Scope) (bd:List Stmt) (ps:List Str) (a:Addr) (fd:FuncData):Prop where
 ns:gl=true->mg nm=some (.ref a)
 me:gl=false->mN nm=some (.ref a)
 obj:∃o,h.get? a=some o/\o.data=.func fd/\(gl=false->o.cls=.type "function")
 code:h.CodeRec fd.code fd.qualname
 name:fd.name=nm
 sc:fd.scope=sc
 bd:fd.body=.stmts bd
 cl:fd.closure=[]
 gs:fd.globals=mainGlobals
 bt:fd.builtins=builtinsNs
 bind:∀vals:List Value,vals.length=ps.length->bindArgs fd ⟨vals,[]⟩=pure (ps.zip vals)
theorem oZ.asMeth {h:Heap}{mg mN:Str->Option Value}{gl:Bool}{nm:Str}{sc:Scope}{bd:List Stmt}{ps:List Str}{a:Addr}{fd:FuncData}(x:oZ h mg mN gl nm sc bd ps a fd)(hg:gl=false):(∃o,h.get? a=some o/\o.cls=.type "function")/\mN nm=some (.ref a):=by
 obtain ⟨o,h1,_,h3⟩:=x.obj
 exact ⟨⟨o,h1,h3 hg⟩,x.me hg⟩
theorem BM {q:Program}{loose:List Str}{mean:ExcName->Option Value}{mg mb mN:Str->Option Value}{h:Heap}(T:Top q loose mean mg mb h){nm:Str}{sc:Scope}{bd:List Stmt}{pa:Arguments}(ps:List Str)(hr:vX q nm=some (sc,bd,pa))
  (hb:∀(pm cd doc:Value) (vals:List Value),vals.length=ps.length->bindArgs (Calls.docDef nm pa bd sc pm cd doc) ⟨vals,[]⟩=pure (ps.zip vals)):∃a fd,oZ h mg mN true nm sc bd ps a fd:=by
 obtain ⟨a,fd,x⟩:=BL T ps hr hb
 obtain ⟨o,h1,h2⟩:=x.obj
 exact ⟨a,fd,(fun _=>x.ns),(fun e=>nomatch e),⟨o,h1,h2,(fun e=>nomatch e)⟩,x.code,x.name,x.sc,x.bd,x.cl,x.gl,x.bt,x.bind⟩
noncomputable def oE (q:Program)(loose:List Str)(x:Str):Option ClsRec:=(plainsOf q loose).find? fun c=>c.name==x
noncomputable def yJ (c:ClsRec)(nm:Str):Option (Scope×List Stmt×Arguments):=(c.meths.find? fun m=>m.name==nm).map fun m=>(m.scope,m.body,m.params)
theorem Bd {h:Heap}{c:ClsRec}{C N:Addr}{mg mN:Str->Option Value}(A:PlainAt h c.withCmp C N mN){nm:Str}{sc:Scope}{bd:List Stmt}{pa:Arguments}(ps:List Str)(hr:yJ c nm=some (sc,bd,pa))
  (hb:∀(qual:Str) (pm cd doc:Value) (vals:List Value),vals.length=ps.length->bindArgs (methDef nm qual pa bd sc pm cd doc) ⟨vals,[]⟩=pure (ps.zip vals)):∃a fd,oZ h mg mN false nm sc bd ps a fd:=by
 unfold yJ at hr
 obtain ⟨m,hm,e⟩:=ax hr
 have hn:m.name=nm:=beq_iff_eq.mp (find?_some (p:=fun m:MethRec=>m.name==nm) hm)
 obtain ⟨f,o,pm,cd,doc,h1,h2,h3,h4,h5⟩:=A.meths m (List.mem_of_find?_eq_some hm)
 simp only [Prod.mk.injEq] at e
 obtain ⟨rfl,rfl,rfl⟩:=e
 subst hn
 exact ⟨f,_,(fun e=>by cases e),(fun _=>h1),⟨o,h2,h4,fun _=>h3⟩,h5,rfl,rfl,rfl,rfl,rfl,rfl,hb _ pm cd doc⟩
theorem Er {q:Program}{loose:List Str}{mg:Str->Option Value}{h:Heap}{x:Str}(T:TopE q loose mg h)(hx:(oE q loose x).isSome=true):∃c C N mN,oE q loose x=some c/\mg x=some (.ref C)/\PlainAt h c.withCmp C N mN:=by
 obtain ⟨c,hc⟩:=aO hx
 have hn:c.name=x:=beq_iff_eq.mp (find?_some (p:=fun c:ClsRec=>c.name==x) hc)
 obtain ⟨C,N,mN,h1,h2⟩:=T c (List.mem_of_find?_eq_some hc)
 exact ⟨c,C,N,mN,hc,hn▸h1,h2⟩
theorem wJ {P:Pg}{c:ClsRec}{C N:Addr}{mN:Str->Option Value}{k:Nat}{ms:List (Str×Nat)}(A:PlainAt P.h₀ c.withCmp C N mN)(hC:P.cls k=C)(ha:(cE k).all (c.statics.contains ·)=true)(ho:∀x∈cE k,typeLookup (.type "object") x=pure none)
  (hm:∀p∈ms,(∃o,P.h₀.get? (P.fnA p.2)=some o/\o.cls=.type "function")/\mN p.1=some (.ref (P.fnA p.2)))(hy:∀p∈ms,∃y,typeLookup (.type "object") p.1=pure y):bP P k ms:=
 ⟨N,mN,hC▸A.cls,A.quiet _ (mem_append_left _ (.tail _ (.head _))),A.quiet _ (mem_append_left _ (.tail _ (.tail _ (.head _)))),A.quiet _ (mem_append_left _ (.head _)),fun x hx=>⟨A.quiet _ (mem_append_right _ (mem_append_left _ (List.contains_iff_mem.mp (aI ha x hx)))),ho x hx⟩,fun p hp=>⟨(hm p hp).2,hy p hp,(hm p hp).1⟩⟩
theorem BE {q:Program}{loose:List Str}{mean:ExcName->Option Value}{P:Pg}(T:Top q loose mean P.mg P.mb P.h₀)(hn:jH.all (vW q loose)=true)
  (hf:∀f F,P.Ψ f=some F->∃mN nm sc bd ps,oZ P.h₀ P.mg mN (P.gl f) nm sc bd ps (P.fnA f) (P.fd f)):t3 P where
 g:=T.g
 b:=T.b
 nolimit:=T.nolimit
 fn:=fun f F h=>by
  obtain ⟨mN,nm,sc,bd,ps,x⟩:=hf f F h
  obtain ⟨o,e,d,_⟩:=x.obj
  exact ⟨o,e,d,fun g=>by rw [x.name];exact x.ns g,x.code,x.cl,x.gs,x.bt⟩
 blt:=fun x hx=>⟨BG T (aI hn x hx),T.builtins x fun q=>by rw [q] at hx;revert hx;decide⟩
noncomputable def GN (sc:Scope)(tab:List (Option (Str×NameKind)))(ps:List Str)(U:List Nat)(np:Nat):Bool:=
 b7.ok ⟨sc,tab⟩&&((List.range ps.length).all (fun i=>match ps[i]?,tab[i]? with
  |some x,some (some (y,k))=>x==y&&(k==.local||k==.cell)
  |_,_=>false)&&(tab.all (fun e=>match e with |some (_,k)=>!(k==.free) |none=>true)&&(decide (((cellsFrom 0 sc.names []).map (·.1)).Nodup)&&(!sc.isCoroutine&&(!sc.isGenerator&&(Nat.beq ps.length np&&U.all (Nat.ble np)))))))
theorem zq {P:Pg}{f np:Nat}{mN:Str->Option Value}{gl:Bool}{nm:Str}{sc:Scope}{bd:List Stmt}{ps:List Str}{tab:List (Option (Str×NameKind))}{U:List Nat}(x:oZ P.h₀ P.mg mN gl nm sc bd ps (P.fnA f) (P.fd f))(h:GN sc tab ps U np=true):Gv P f np tab ps bd U:=by
 obtain ⟨h1,h⟩:=ai h
 obtain ⟨h2,h⟩:=ai h
 obtain ⟨h3,h⟩:=ai h
 obtain ⟨h4,h⟩:=ai h
 obtain ⟨h5,h⟩:=ai h
 obtain ⟨h6,h⟩:=ai h
 obtain ⟨h7,h8⟩:=ai h
 have h7:=eq_of_beq_eq_true h7
 have hs:=x.sc
 refine ⟨x.bd,hs▸h1,h7,fun i y hy=>?_,fun i y ht=>?_,fun vals hv=>x.bind vals (by rw [h7];exact hv),hs▸of_decide_eq_true h4,⟨hs▸(not_eq_true' _).mp h5,hs▸(not_eq_true' _).mp h6⟩,fun i hi=>le_of_ble_eq_true (aI h8 i hi)⟩
 .have:=aI h2 i (bI (ak hy).1)
  rw [hy] at this
  cases ht:tab[i]? with
  |none=>rw [ht] at this;cases this
  |some e=>
   rw [ht] at this
   cases e with
   |none=>cases this
   |some p=>
    obtain ⟨z,k⟩:=p
    simp only [and_eq_true,or_eq_true,beq_iff_eq] at this
    obtain ⟨rfl,hk⟩:=this
    exact ⟨k,rfl,hk⟩
 .have:=aI h3 _ (mem_of_getElem? ht)
  cases this
theorem BK {P:Pg}{f:Nat}{F:gK}{mN:Str->Option Value}{gl:Bool}{nm:Str}{sc:Scope}{bd:List Stmt}{ps:List Str}{tab:List (Option (Str×NameKind))}{U:List Nat}{C':Ct}(x:oZ P.h₀ P.mg mN gl nm sc bd ps (P.fnA f) (P.fd f))(h:GN sc tab ps U F.np=true)(sim:iX P ⟨sc,tab⟩ ⟨[],U,t9 f⟩ (kW f) C' bd F.body):xx P f F:=
 ⟨tab,ps,bd,U,C',zq x h,by rw [x.sc];exact sim⟩
theorem jd {q:Program}{loose:List Str}{mean:ExcName->Option Value}{mg mb:Str->Option Value}{h:Heap}{x:Str}{n:Int}{P:Pg}(T:Top q loose mean mg mb h)(hs:valOf q x=some (.int n)):∃u,mg x=some u/\∀g h,Rp P g h (.int n) u:=by
 obtain ⟨v,h1,h2⟩:=T.const x _ hs
 refine ⟨v,h1,fun g h=>?_⟩
 cases h2 h
 exact ⟨_,rfl⟩
theorem xf {q:Program}{loose:List Str}{mean:ExcName->Option Value}{mg mb:Str->Option Value}{h:Heap}{x:Str}{n:Str}{P:Pg}(T:Top q loose mean mg mb h)(hs:valOf q x=some (.str n))(hn:n.length<=lim/\PyData.strOk n=true):∃u,mg x=some u/\∀g h,Rp P g h (.str n) u:=by
 obtain ⟨v,h1,h2⟩:=T.const x _ hs
 refine ⟨v,h1,fun g h=>?_⟩
 cases h2 h
 exact ⟨⟨hn.2,hn.1⟩,_,rfl⟩
theorem y9:∀{vs:List Value} {ns:List Int},IntsAre vs ns->ql ns vs
 |_,_,.nil=>rfl
 |_,_,.cons n t r=>⟨t,_,rfl,y9 r⟩
noncomputable abbrev g0 (h:Heap):Gh:=⟨fun a=>h.get? a≠none,fun _=>False,fun _=>none,0,0⟩
noncomputable abbrev g1 (h:Heap)(a:Addr):Gh:=⟨fun a=>h.get? a≠none,fun b=>b=a,fun _=>none,a,0⟩
theorem Dj {P:Pg}{h he:Heap}{s0:Int}{tk:Nat}(hs:P.h₀=h)(keep:∀a o,h.get? a=some o->he.get? a=some o)(w2:∀a o,he.get? a=some o->(he.push (bO #[.int s0 tk] 0)).get? a=some o):bN P (g1 h he.objs.size) (he.push (bO #[.int s0 tk] 0)) ⟨s0,none⟩:=
 have bk:=cP keep
 have pS:=ch (h:=he) (bO #[.int s0 tk] 0)
 ⟨fun a o e=>have e:h.get? a=some o:=hs▸e;⟨ay e,w2 a o (keep a o e)⟩,fun a f e=>f (bk a (cP w2 a e)),fun a z=>by rw [show a=_ from z];exact ⟨ay pS,fun f=>f (bk _ (aR _))⟩,(fun a q=>let ⟨_,q⟩:=q;nomatch q),(fun _ _ _ q=>nomatch q),⟨⟨tk,0,pS⟩,rfl,fun _ _ z=>z⟩,fun _ _ q=>nomatch q⟩
theorem Dk {P:Pg}{B:b7}{U:List Nat}{env:Env}{h he hh:Heap}{ns:List Int}{m:Nat}(w2:∀a o,he.get? a=some o->hh.get? a=some o)(E1:cI P B ⟨[],U,false⟩ env (g0 h) (frame [.scr ns] m) he):cI P B ⟨[],U,false⟩ env (g1 h he.objs.size) (frame [.scr ns] m) hh:=
 {E1 with
  ns:=let ⟨m,n⟩:=E1.ns;⟨m,n.at (w2 _)⟩
  cell:=fun i y k ht hk=>let ⟨c,u,h1,o,e,d⟩:=E1.cell i y k ht hk;⟨c,u,h1,o,w2 _ _ e,d⟩
  own:=fun a ha=>⟨fun e=>(E1.own a ha).1 (cP w2 a e),(E1.own a ha).2.1,fun z=>(E1.own a ha).1 (by rw [show a=_ from z];exact aR _),fun ⟨_,q⟩=>nomatch q⟩
  var:=fun i y t ht hv=>by
   obtain ⟨u,v,q⟩:=E1.var i y t ht hv
   refine ⟨u,v.move fun a _=>w2 a,?_⟩
   cases i with
   |zero=>cases i9 hv;exact .inl (q.elim (fun r=>r) fun r=>nomatch r.1)
   |succ i=>cases i9 hv}
noncomputable def CB (Q:Value->Shared->Prop)(r:Result)(s':Shared):Prop:=match r with |.ok (.ret v)=>Q v s' |_=>False
theorem x0 {Q:Value->Shared->Prop}:∀{r:Result} {s':Shared},CB Q r s'->match r with |.ok (.ret x)=>Q x s' |.ok _=>False |.error _=>False
 |.ok (.ret _),_,q=>q
 |.ok .next,_,q=>q
 |.ok .brk,_,q=>q
 |.ok .cont,_,q=>q
 |.error _,_,q=>q
theorem yY {P:Pg}(G:t3 P)(hF:∀f F,P.Ψ f=some F->xx P f F){A:Around}{n L m:Nat}{F:gK}{tab:List (Option (Str×NameKind))}{ps:List Str}{bd:List Stmt}{U:List Nat}{C':Ct}{y:Str}{k:NameKind}{s0:Int}{kk:Nat}{q1 q2 q3 q4:Pos}{p:PS}{l:Addr}{vs:List Value}{ns:List Int}{σ:Sg}{s:Shared}
  (hL:P.Ψ L=some F)(K:Gv P L 1 tab ps (.Assign [.Name y q1] (.List [.Constant (.int s0) kk q2] q3) q4::bd) U)(ht:tab[1]?=some (some (y,k)))(hk:k=.local\/k=.cell)(hw:xA (.List [.Constant (.int s0) kk q2] q3) y q1 q4.line (P.fd L).scope=false)(hc:cQ ⟨[],U,false⟩ 1 false ⟨[],U,false⟩=true)(sim:iX P ⟨(P.fd L).scope,tab⟩ ⟨[],U,false⟩ false C' bd p)
  (hs:P.h₀=s.heap)(room:oX A (n+1))(hl:s.heap.IsList l vs.toArray)(hi:IntsAre vs ns)(hn:ns.length<=63)(hp:p (P.cx n) (frame [.scr ns,.spot] m) ⟨s0,none⟩ (fun _ σ=>.ret .none σ)=.ret (.bool true) σ):
  wpAny P.M A (PySem.call (.ref (P.fnA L)) [.ref l]) (fun v s'=>v=.bool true/\∃h' tk,s'={s with heap:=h',toks:=tk}/\∀a o,s.heap.get? a=some o->h'.get? a=some o) (fun _ _=>False) s:=by
 have hlen:=hi.length
 refine wpAny_call (codeAny_mono (R:=CB fun v s'=>v=.bool true/\∃h' tk,s'={s with heap:=h',toks:=tk}/\∀a o,s.heap.get? a=some o->h'.get? a=some o) (CU (ns:=m+1) (m:=false) (g:=g0 s.heap) (ts:=[.scr ns]) G hL K (lt_of_le_of_lt (le_trans (le_add_right _ _) (le_add_right _ _)) room.1) (fun a o e=>hs▸e) (fun _ h=>h) (fun _ h=>h.elim)
  (show bm P (g0 s.heap) s.heap [.scr ns] [.ref l] from ⟨_,_,rfl,⟨l,_,rfl,by rw [hs];exact hl,by rw [size_toArray];have:lim=1000000:=rfl;lia -abstractProof,y9 hi⟩,rfl⟩) rfl fun s₁ env E' same keep hW E1=>?_) fun r s' q=>?_)
 .refine wpAny_execs_cons (wpAny_Assign_Name (wpAny_List (wpAny_items_cons (wpAny_Constant_int (wpAny_items_nil ⟨(show 1<=sizeLine by decide),?_⟩)) rfl)) (by rw [lc E1.sc,hw]))
  have w2:∀a o,s₁.heap.get? a=some o->(s₁.heap.push (bO #[.int s0 s₁.toks] 0)).get? a=some o:=cw s₁ _
  have X:At P ⟨(P.fd L).scope,tab⟩ ⟨[],U,false⟩ n (A.deeper env) env _ (frame [.scr ns] (m+1)) ⟨s0,none⟩ {s₁ with heap:=s₁.heap.push (bO #[.int s0 s₁.toks] 0),toks:=s₁.toks+1}:=⟨G,uU G hF n,room.deeper _,Dk w2 E1,Dj hs keep w2⟩
  refine i4 (t:=.spot) X hc ht hk rfl fun s3 p3 X3=>sim n _ _ _ (frame [.scr ns,.spot] m) ⟨s0,none⟩ s3 (fun _ σ=>.ret .none σ) _ _ X3 (by rw [hp];exact fun q=>by cases q) (fun s' g' j' σ' e p X'=>?_) fun x s' g' t σ' e p w' r'=>?_
  .rw [hp] at e;cases e
  .rw [hp] at e;cases e
   obtain ⟨hj,t4,e4⟩:=St.trans (St.trans same p3.st) p.st
   exact ⟨r',hj,t4,e4,fun a o e=>by have:=(w'.base a o (hs▸e)).2;rw [e4] at this;exact this⟩
 .exact x0 q
end
end Mine
namespace Mine
noncomputable section
open PySem PyProof.Rows PySem.SeqAt
section
variable {P:Pg} {B Bc:b7} {C Ci:Ct} {fr:Bool} {c i:Nat} {y name:Str} {k:NameKind} {np apos cpos pos p:Pos} {e:Expr} {pe:PE} {ms:List (Str×Nat)}
theorem bindL (hc:cQ C i false Ci=true)(ht:Bc.tab[i]?=some (some (y,.local))):jM P (Ao P Bc C Ci (.Name y p) (bj i) (m6 none)):=jM.one hc ht (.inl rfl)
theorem bindC (hc:cQ C i false Ci=true)(ht:Bc.tab[i]?=some (some (y,.cell))):jM P (Ao P Bc C Ci (.Name y p) (bj i) (m6 (some y))):=jM.one hc ht (.inr rfl)
theorem aX.app (hv:bL C i=true)(ht:B.tab[i]?=some (some (y,k)))(hline:(apos.endLine==cpos.line)=true)(hbase:∀env,attributeBase (.Name y np) (ofString "append") env (eval (.Name y np) env)=eval (.Name y np) env)(htrees:∀env,backTo cpos (starEach [e] env)=[(false,eval e env)])
  (hw:∀env,swapsWith (.Call (.Attribute (.Name y np) (ofString "append") apos) [e] [] cpos) none pos.line env=pure false)(h:av P B C e pe (RV P)):aX P B C fr C (.Expr (.Call (.Attribute (.Name y np) (ofString "append") apos) [e] [] cpos) pos) (ii i d9 pe):=
 aX.mut (R:=RV P) oe hv ht (fun _ _ _ _ _ r=>r) lM hbase hline htrees hw h
theorem aX.ext (hv:bL C i=true)(ht:B.tab[i]?=some (some (y,k)))(hline:(apos.endLine==cpos.line)=true)(hbase:∀env,attributeBase (.Name y np) (ofString "extend") env (eval (.Name y np) env)=eval (.Name y np) env)(htrees:∀env,backTo cpos (starEach [e] env)=[(false,eval e env)])
  (hw:∀env,swapsWith (.Call (.Attribute (.Name y np) (ofString "extend") apos) [e] [] cpos) none pos.line env=pure false)(h:av P B C e pe (RX P)):aX P B C fr C (.Expr (.Call (.Attribute (.Name y np) (ofString "extend") apos) [e] [] cpos) pos) (ii i jk pe):=
 aX.mut (R:=RX P) zh hv ht (fun _ _ _ _ _ r=>r) xa hbase hline htrees hw h
theorem av.lenF (O:bP P c ms)(hn:(cE c)[i]?=some name)(ht:B.tab[0]?=some (some (y,k)))(hx:B.sc.names.lookup (ofString "len")=some .globalImplicit)(hn':∀env,starEach [.Attribute (.Name y np) name apos] env=[(false,eval (.Attribute (.Name y np) name apos) env)]):av P B C (.Call (.Name (ofString "len") p) [.Attribute (.Name y np) name apos] [] pos) (p1 ba (o7 c i)) (RV P):=
 av.b1Y lA yP (fun _ q=>by cases q) hx (by decide) (by decide) (by decide) hn' (av.fld O hn ht)
end
section
variable {P:Pg} {B:b7} {C C':Ct} {fr:Bool} {n i j:Nat} {A:Around} {env:Env} {g g':Gh} {ρ:aW} {σ:Sg} {s s':Shared} {h h':Heap} {y y':Str} {k k':NameKind} {np apos cpos pos:Pos}
theorem zg:xE .list (ofString "pop") "list.pop":=⟨F.slot_list_pop,F.type_list_pop⟩
inductive Iu (P:Pg) (g:Gh) (h:Heap) (xs:List T) (vs:Array Value) (t:T):Prop
 |mk (u:Value) (e:vs[vs.size - 1]?=some u) (r:Rp P g h t u) (rs:bm P g h xs.dropLast (vs.eraseIdxIfInBounds (vs.size - 1)).toList) (l:xs.dropLast.length<=xs.length)
theorem wA {xs:List T}{vs:Array Value}{t:T}(r:bm P g h xs vs.toList)(e:xs.getLast?=some t):Iu P g h xs vs t:=by
 have hz:=r.size
 rw [List.getLast?_eq_getElem?,<-hz] at e
 obtain ⟨u,hu,q⟩:=r.get e
 rw [Array.getElem?_toList] at hu
 have h1:vs.size - 1 < vs.size:=by rw [hz];have:=(ak e).1;lia
 refine ⟨u,hu,q,?_,by rw [List.length_dropLast];lia⟩
 have e1:vs.eraseIdxIfInBounds (vs.size - 1)=vs.eraseIdx (vs.size - 1) h1:=by rw [Array.eraseIdxIfInBounds,dif_pos h1]
 rw [e1,Array.toList_eraseIdx,List.eraseIdx_eq_take_drop_succ,List.dropLast_eq_take,hz,List.drop_of_length_le (by rw [Array.length_toList,hz];lia -abstractProof),append_nil]
 exact r.take _
theorem aX.pop {zs:List jf}{kt:Nat}{pt:Pos}(hz:CF B C zs=true)(hv:bL C j=true)(ht:B.tab[j]?=some (some (y,k)))(hs:∀env,swapsWithSole [.Tuple (zs.map jf.e) kt pt] (.Call (.Attribute (.Name y np) (ofString "pop") apos) [] [] cpos) pos.line env=pure false)(hw:∀env,swappedStores [.Tuple (zs.map jf.e) kt pt] (.Call (.Attribute (.Name y np) (ofString "pop") apos) [] [] cpos) env=pure none)
  (hbase:∀env,attributeBase (.Name y np) (ofString "pop") env (eval (.Name y np) env)=eval (.Name y np) env)(hline:(apos.endLine==cpos.line)=true):aX P B C fr C (.Assign [.Tuple (zs.map jf.e) kt pt] (.Call (.Attribute (.Name y np) (ofString "pop") apos) [] [] cpos) pos) (wC j (zs.map (·.i))):=fun n A env g ρ σ s kk Q E X hb hq hr=>by
 obtain ⟨ρ',e⟩:=cG hb
 obtain ⟨x,e0,e1⟩:=aD e
 obtain ⟨xs,e2,e3⟩:=aD e1
 obtain ⟨t,e4,e5⟩:=aD e3
 obtain ⟨ts,e6,e7⟩:=aD e5
 cases fT e2
 cases lK e6
 obtain ⟨u,va,q⟩:=X.env.var j _ _ ht e0
 unfold bW at q
 rw [hv] at q
 obtain ⟨a,rfl,oi,vs,m,a1,a3,a2⟩:=q
 obtain ⟨u,hu,ru,rs,l⟩:=wA a2 e4
 refine Assign_Tuple (wpAny_Call_method0_late (hbase env) hline (bJ X ht va ⟨_,_,MK.plain .list,zg.slot,zg.ty,⟨_,a1,rfl⟩,fun b e=>⟨_,Value.ref.inj e▸a1,rfl⟩,PySem.P.pop_list a1 hu ?_ (bD (by rw [a2.size];exact a3))⟩)) (hs env) (hw env)
 obtain ⟨pS,X'⟩:=mw (y:=.lst xs.dropLast) X hv (by rw [e0];exact fun q=>by cases q) oi va (Heap.SameBut.update s.heap a (Obj.mapSeq fun v=>v.eraseIdxIfInBounds (vs.size - 1))).2 (fun kf=>⟨_,_,IsL.update a1 (fun v=>v.eraseIdxIfInBounds (vs.size - 1)),le_trans l a3,rs.mono kf⟩) s.toks
 have kf:aZ g s.heap g (s.heap.update a (Obj.mapSeq fun v=>v.eraseIdxIfInBounds (vs.size - 1))):=pS.k X.g fun b hb=>(X.env.own b hb).2.1
 obtain ⟨b,rfl,f,us,m',b1,_,rb⟩:=Rp.mono kf ru
 exact jI hz e7 X' b1 rb fun s' p' X''=>hq s' g ρ' σ (by unfold wC;rw [e];rfl) (pS.trans p'.toS) X''
theorem aX.pop0 {px cp:Pos}{kk:Nat}(hv:bL C j=true)(ht:B.tab[j]?=some (some (y,k)))(hc:cQ C i false C=true)(ht':B.tab[i]?=some (some (y',k')))(hk:k'=.local\/k'=.cell)(hw:xA (.Call (.Attribute (.Name y np) (ofString "pop") apos) [.Constant (.int 0) kk cp] [] cpos) y' px pos.line B.sc=false)
  (hbase:∀env,attributeBase (.Name y np) (ofString "pop") env (eval (.Name y np) env)=eval (.Name y np) env)(hline:(apos.endLine==cpos.line)=true)(htrees:∀env,backTo cpos (starEach [.Constant (.int 0) kk cp] env)=[(false,eval (.Constant (.int 0) kk cp) env)]):
  aX P B C fr C (.Assign [.Name y' px] (.Call (.Attribute (.Name y np) (ofString "pop") apos) [.Constant (.int 0) kk cp] [] cpos) pos) (nM j i):=fun n A env g ρ σ s kk Q E X hb hq hr=>by
 obtain ⟨ρ',e⟩:=cG hb
 obtain ⟨x,e0,e1⟩:=aD e
 obtain ⟨xs,e2,e3⟩:=aD e1
 obtain ⟨t,e4,e5⟩:=aD e3
 cases fT e2
 cases e5
 obtain ⟨u,va,q⟩:=X.env.var j _ _ ht e0
 unfold bW at q
 rw [hv] at q
 obtain ⟨a,rfl,oi,vs,m,a1,a3,a2⟩:=q
 cases xs with
 |nil=>cases e4
 |cons x xs=>
  cases e4
  obtain ⟨z,us,hus,rz,ru⟩:=id a2
  have h0:0 < vs.size:=by rw [a2.size];exact Nat.zero_lt_succ _
  have hz0:vs[0]?=some z:=by rw [<-Array.getElem?_toList,hus];rfl
  have hup:(vs.eraseIdxIfInBounds 0).toList=us:=by
   have e1:vs.eraseIdxIfInBounds 0=vs.eraseIdx 0 h0:=by rw [Array.eraseIdxIfInBounds,dif_pos h0]
   rw [e1,Array.toList_eraseIdx,hus];rfl
  refine wpAny_Assign_Name (n5 zg hbase hline htrees (bJ X ht va ⟨uJ (K:=.list) a1 rfl rfl,wpAny_Constant_int (call_meets F.slot_list_pop ⟨_,a1,rfl⟩ F.entry_list_pop (F.args_list_pop_2 _ _) (PySem.MeetsSeq.list_pop_at a vs m 0 _ 0 z (by decide) ?_ hz0 (bD (by rw [a2.size];exact a3))) ⟨a1,?_⟩)⟩)) (by rw [lc X.env.sc,hw])
  .have h1:(0:Int) < vs.size:=cH h0
   show (if (decide ((0:Int)<=0)&&decide ((0:Int) < vs.size))=true then some (0:Int).toNat else none)=some 0
   rw [decide_eq_true h1];rfl
  .obtain ⟨pS,X'⟩:=mw (y:=.lst xs) X hv (by rw [e0];exact fun q=>by cases q) oi va (Heap.SameBut.update s.heap a (Obj.mapSeq fun v=>v.eraseIdxIfInBounds 0)).2 (fun kf=>⟨_,_,IsL.update a1 (fun v=>v.eraseIdxIfInBounds 0),Nat.le_of_succ_le a3,by rw [hup];exact ru.mono kf⟩) (s.toks+1)
   have kf:aZ g s.heap g (s.heap.update a (Obj.mapSeq fun v=>v.eraseIdxIfInBounds 0)):=pS.k X.g fun b hb=>(X.env.own b hb).2.1
   exact i4 X' hc ht' hk (Rp.mono kf rz) fun s' p' X''=>hq s' g _ σ (by unfold nM;rw [e];rfl) (pS.trans (p'.toS.weak dN)) X''
theorem bm.rep {xs:List T}{vs:List Value}(r:bm P g h xs vs):∀k:Nat,bm P g h (replicate k xs).flatten (replicate k vs).flatten
 | 0=>rfl
 |k+1=>by
  rw [List.replicate_succ,List.replicate_succ,flatten_cons,flatten_cons]
  exact bm.append (bm.rep r k) r
theorem Fl:rJ P (Cf P (binaryOp .Mult)) ma (RN P):=fun A env g σ s x x' t t' y Q E rm w q q' e hq=>by
 unfold ma at e
 obtain ⟨xs,k,e1,e2,e3⟩:=bn e
 obtain ⟨c,rfl⟩:=de e3
 obtain ⟨c1,c23⟩:=ai c
 obtain ⟨c2,c3⟩:=ai c23
 have h0:=of_decide_eq_true c1
 have h1:=of_decide_eq_true c2
 have h2:=le_of_ble_eq_true c3
 obtain ⟨l,rfl,vs,n,a1,a3,a2⟩:=q.ls e1
 obtain ⟨u,rfl⟩:=q'.i e2
 have hz:=a2.size
 have q1:k.toNat<=1000:=by lia -abstractProof
 have hz':vs.size * k.toNat<=1000000:=Nat.mul_le_mul (hz▸h2) q1
 refine wpAny_binaryOp_repeat_ref (T:="list") (U:="int") (by decide) ⟨_,a1,rfl⟩ (fun s'=>typeIs_int s' k u) noFill_list_mul F.fills_int_mul F.slot_int_rmul repeat_list F.slot_int_index.lookup
  (call_meets F.slot_int_rmul (typeIs_int s k u) F.entry_int_rmul (F.args_int_rmul_2 _ _) (lm_int_rmul_list_any k u l vs n _ _)
   ⟨a1,rfl,⟨_,a1,rfl⟩,call_meets F.slot_list_mul ⟨_,a1,rfl⟩ F.entry_list_mul (F.args_list_mul_2 _ _)
    (lm_list_mul_any l vs n _ _ k u (by simp [Builtin.List.listFitsIndex];lia -abstractProof) (by lia) (by simp [Builtin.List.listTooLong,sizeLine];lia))
    ⟨a1,?_⟩⟩)
 rw [listMul_foldl_if]
 refine vJ w (a2.rep k.toNat) ?_ hq
 rw [<-(a2.rep k.toNat).length,List.length_flatten,List.map_replicate,List.sum_replicate_nat,Array.length_toList,Nat.mul_comm]
 exact hz'
theorem BQ {a b:Int}(ha:sm a=true)(hb:sm b=true):0<=Builtin.Range.rangeSize a b (-1)/\Builtin.Range.small a b (-1)=true:=by
 have e:Builtin.Range.rangeSize a b (-1)=if b < a then (a - b - 1) / 1+1 else 0:=if_neg (by decide)
 have h:=Cx hb ha
 rw [<-e] at h
 exact ⟨h.1,IE ha hb (by decide) h (Int.add_zero b)⟩
theorem gu.down {es:List Expr}{ps:PL}{p pos:Pos}{mk:Around->Addr->List T->List Addr->List Addr->(Nat->Gh->Heap->Prop)->Prop}(hb:jM P mk)(hx:B.sc.names.lookup (ofString "range")=some .globalImplicit)(h:ig P B C es ps):gu P B C (.Call (.Name (ofString "range") p) es [] pos) mk (FN ps):=fun n A env g ρ σ s k Q E X hbad hq=>by
 refine Call_Name rfl (X.blt hx (by decide) (by decide) (v:=.type "range") (by decide) (bH (fun _ q=>by cases q) (cc (h.pl env)) (h.sim pos n A env g ρ σ s (fun ts σ=>up (EQ ts) σ k) _ E X hbad fun xs s₁ g1 ts σ₁ e pp w r=>?_)))
 obtain ⟨l,e'⟩:=cG fun q=>hbad (e.trans q)
 have ek:FN ps (P.cx n) ρ σ k=k l σ₁:=e.trans (by rw [e'];rfl)
 unfold EQ at e'
 match ts,e',r with
 | [m,n',l'],e',r=>
  obtain ⟨a,b,e1,e2,e3⟩:=bn (show o2 (jJ m) (jJ n') _=some l from e')
  obtain ⟨c,e4,e5⟩:=aD e3
  obtain ⟨q,rfl⟩:=de (show (bif (sm a&&sm b&&decide (c=-1))&&cT (cY a b (-1)).length then some (cY a b (-1)) else none)=some l from e5)
  obtain ⟨q,c2⟩:=ai q
  obtain ⟨q,c5⟩:=ai q
  obtain ⟨c3,c4⟩:=ai q
  obtain rfl:=of_decide_eq_true c5
  obtain ⟨_,_,rfl,r1,_,_,e6,r2,_,_,e7,r3,e8⟩:=r
  subst e6;subst e7;cases e8
  obtain ⟨t,rfl⟩:=fU.i (.inl r1) e1
  obtain ⟨u,rfl⟩:=fU.i (.inl r2) e2
  obtain ⟨v,rfl⟩:=fU.i (.inl r3) e4
  obtain ⟨hsz,hsm⟩:=BQ c3 c4
  refine call_range_3 (by decide) ?_ (.inl (PyProof.noPylong_small (by decide)))
  refine wpAny_pyIter_range (IsRange.new s₁.heap a b (-1) t u v) hsm ?_
  obtain ⟨p',w',_⟩:=qU (X:={cls:=.type "range",data:=.fields #[.int a t,.int b u,.int (-1) v]}) (tk:=s₁.toks) w pp
  obtain ⟨p'',w'',v''⟩:=qU (s₁:={s₁ with heap:=s₁.heap.push {cls:=.type "range",data:=.fields #[.int a t,.int b u,.int (-1) v]},toks:=s₁.toks}) (X:={cls:=.type "range_iterator",data:=.fields #[rawInt a,rawInt (Builtin.Range.rangeSize a b (-1)),rawInt (-1)]}) (tk:=s₁.toks) w' p'
  refine hq _ g1 _ σ₁ _ _ [] _ ek p'' w'' (hb.make (oY.range X.room.2.2 (Builtin.Range.rangeSize a b (-1)).toNat rfl)) ⟨zero_le _,?_⟩ v'' (fun _ q=>nomatch q) (gY c2)
  have e1:a+((0:Nat):Int) * (-1)=a:=by simp
  have e2:(((Builtin.Range.rangeSize a b (-1)).toNat:Int) - ((0:Nat):Int))=Builtin.Range.rangeSize a b (-1):=by lia -abstractProof
  show IsRangeIter _ _ _ _ _
  rw [e1,e2];exact ch _
end
noncomputable def vz {α:Type}(lo hi st:Option Int)(xs:List α):List α:=
 (sliceRange (sliceBounds lo hi st xs.length).1 (sliceBounds lo hi st xs.length).2.1 (sliceBounds lo hi st xs.length).2.2).filterMap (xs[·]?)
section
variable {P:Pg} {B:b7} {C:Ct} {A:Around} {g:Gh} {h:Heap}
theorem wG (items:Array Value)(lo hi st:Option Int):slicePick items lo hi st=(vz lo hi st items.toList).toArray:=by
 simp [slicePick,vz]
theorem sj {α:Type}(xs:List α):∀m,m<=xs.length->(List.range m).filterMap (fun k=>xs[xs.length - 1 - k]?)=xs.reverse.take m
 | 0,_=>rfl
 |m+1,h=>by
  rw [List.range_succ,List.filterMap_append,sj xs m (Nat.le_of_succ_le h),List.take_add_one,List.getElem?_reverse (by lia -abstractProof)]
  have:∀f:Nat->Option α,List.filterMap f [m]=(f m).toList:=fun f=>by rw [List.filterMap_cons];cases f m<;>rfl
  rw [this]
theorem yf {α:Type}(xs:List α):vz none none (some (-1)) xs=xs.reverse:=by
 unfold vz
 have e:sliceRange (sliceBounds none none (some (-1)) xs.length).1 (sliceBounds none none (some (-1)) xs.length).2.1 (sliceBounds none none (some (-1)) xs.length).2.2=(List.range xs.length).map fun k=>xs.length - 1 - k:=by
  show sliceRange ((xs.length:Int) - 1) (-1) (-1)=_
  unfold sliceRange
  rw [if_neg (by decide)]
  have:((if (xs.length:Int) - 1 > -1 then ((xs.length:Int) - 1 - -1 - -1 - 1) / -(-1) else 0)).toNat=xs.length:=by
   rw [show -(-1:Int)=1 from rfl,ediv_one,show (xs.length:Int) - 1 - -1 - -1 - 1=xs.length by lia]
   rcases Nat.eq_zero_or_pos xs.length with q |q
   .rw [q];rfl
   .rw [if_pos (show (xs.length:Int) - 1 > -1 by lia)];rfl
  simp only [this]
  refine map_congr_left fun k hk=>?_
  have:=bp hk
  lia -abstractProof
 rw [e,List.filterMap_map]
 exact (sj xs xs.length (le_refl _)).trans (by rw [<-length_reverse,take_length])
theorem bm.reverse {ts:List T}{vs:List Value}(r:bm P g h ts vs):bm P g h ts.reverse vs.reverse:=bm.of (by rw [length_reverse,length_reverse];exact r.length) fun i v t h1 h2=>by
 have l2:=(ak h2).1
 rw [length_reverse] at l2
 rw [List.getElem?_reverse (r.length.symm▸l2),r.length] at h1
 rw [List.getElem?_reverse l2] at h2
 obtain ⟨v',e,q⟩:=r.get h2
 rw [h1] at e;cases e;exact q
theorem av.rev {a:Expr}{pa:PE}{kc:Nat}{pc pu ps pos:Pos}(ha:av P B C a pa (RX P)):av P B C (.Subscript a (.Slice Option.none Option.none (some (.UnaryOp .USub (.Constant (.int 1) kc pc) pu)) ps) pos) (p1 uk pa) (RV P):=
 (ha.bind (N:=fun A env x Q E s=>wpAny P.M A (eval (.Slice Option.none Option.none (some (.UnaryOp .USub (.Constant (.int 1) kc pc) pu)) ps) env) (fun y s2=>wpAny P.M A (subscriptTail a (.Slice Option.none Option.none (some (.UnaryOp .USub (.Constant (.int 1) kc pc) pu)) ps) x y) Q E s2) E s) (F:=fun _ _ k t σ=>up (uk t) σ k) (R':=RV P) lA
  fun n A env g g1 ρ σ s s₁ x t k Q E p X r hb hq=>by
   obtain ⟨u,e⟩:=cG hb
   obtain ⟨xs,e1,e2⟩:=aD e
   cases e2
   rw [arm_eval_Slice]
   refine wpAny_bind (wpAny_pure (wpAny_bind (wpAny_holding (wpAny_pure (wpAny_bind (wpAny_holding ?_))))))
   refine av.neg (ee.vx av.int) n A env g1 ρ σ s₁ (fun t σ=>.ret t σ) _ _ X (fun q=>by cases q) fun v s2 g2 t2 σ₂ ed pd w2 r2=>?_
   cases ed
   obtain ⟨tk,rfl⟩:=r2
   refine wpAny_newObj_type ?_ (by show (3:Nat)<=sizeLine+2;decide)
   have p3:aQ g2 s2 g2 {s2 with heap:=s2.heap.push {cls:=.type "slice",data:=.fields #[.none,.none,.int (-1) tk]},toks:=s2.toks}:=.push _ _
   obtain ⟨l,rfl,vs,m,b1,b3,b2⟩:=(jq.post w2 p3 (jq.post X.g pd r)).y.ls e1
   refine tail_any ⟨_,b1,rfl⟩ slot_list_getitem.lookup (wpAny_getItem_list_slice (lo:=Option.none) (hi:=Option.none) (st:=some (-1)) ⟨_,b1,rfl,m,rfl⟩ (Heap.IsSliceOf.new s2.heap _ _ _) .none .none (.int _ _) (by decide) ?_ (bD (b2.size▸b3))) rfl
   rw [wG,yf]
   exact kh (tk:=s2.toks) (s:={s2 with heap:=s2.heap.push {cls:=.type "slice",data:=.fields #[.none,.none,.int (-1) tk]},toks:=s2.toks}) (w2.push _) b2.reverse (by rw [length_reverse];exact b3) fun u s' g' p w r=>hq u s' g' _ σ (by rw [e];rfl) ((pd.trans p3).trans p) w r).map fun _ _ _ _ _=>Subscript_
theorem Az {z C D:Addr}{fp wr:List Addr}{n:Nat}{bs cs:Nat->Bool}{Pt:Nat->Array Value->Prop}{St:Nat->Heap->Prop}{Mid:Nat->Addr->Heap->Prop}{cenv:Env}{x1 x2:Str}{p1 p2 pt:Pos}{kt:Nat}{iter elt:Expr}{scope:Scope}{pos:Pos}{f:Bool->Bool->Bool}
  (W:WalksT P.prog P.w A z fp wr n Pt St Mid)(hPt:∀i v,Pt i v->v=#[.bool (bs i),.bool (cs i)])(hh:A.handled=none)(hC:cenv.locals=C)(hkd:cenv.scope.kind=.function)(hk1:cenv.kindOf x1=some .local)(hk2:cenv.kindOf x2=some .local)(hx:x1≠x2)
  (hCf:C∉fp)(hDf:D∉fp)(hDC:D≠C)(hn:n<=lim)
  (helt:∀s m b c (Q:Value->Shared->Prop) (E:Value->Shared->Prop),s.heap.Ns C m->m x1=some (.bool b)->m x2=some (.bool c)->Q (.bool (f b c)) s->wpAny P.M A (eval elt cenv) Q E s):
  ∀(k i:Nat) (s:Shared) (acc:Array Value) (cnt:Nat) (m:Str->Option Value) (R:Result->Shared->Prop),n - i=k->i<=n->St i s.heap->s.heap.Ns C m->IsL s.heap D acc cnt->acc.size=i->
   (∀h' tk acc' cnt' m',(∀b o,b∉wr->b≠C->b≠D->s.heap.get? b=some o->h'.get? b=some o)->h'.Ns C m'->IsL h' D acc' cnt'->acc'.toList=acc.toList++(range' i (n - i)).map (fun j=>Value.bool (f (bs j) (cs j)))->R (.ok .next) {s with heap:=h',toks:=tk})->
   codeAny P.M A (.compLoop (.ListComp elt [⟨.Tuple [.Name x1 p1,.Name x2 p2] kt pt,iter,[],0⟩] scope pos) 0 (.ref z) (.ref D) cenv) R s:=by
 have hp:(cenv.scope.kind==.class||(cenv.scope.kind==.module&&cenv.locals !=cenv.globals))=false:=by rw [hkd];rfl
 have hCw:C∉wr:=fun q=>hCf (W.sub C q)
 have hDw:D∉wr:=fun q=>hDf (W.sub D q)
 intro k
 induction k with
 |zero=>
  intro i s acc cnt m R hk hi hst hns hD hacc hR
  obtain rfl:i=n:=le_antisymm hi (Nat.le_of_sub_eq_zero hk)
  refine codeAny_of_tree ?_
  show wpAny P.M A ((compTurn (.ListComp elt [⟨.Tuple [.Name x1 p1,.Name x2 p2] kt pt,iter,[],0⟩] scope pos) 0 (.ref z) (.ref D) cenv).onRaise (fun x=>do noteFrame x cenv;theTreesLotGoes x)) _ _ s
  refine wpAny_noted ?_
  rw [compTurn_list]
  refine wpAny_bind (wpAny_standAt (wpAny_bind (W.done s _ _ hst fun h' tk hkp=>wpAny_pure ?_)))
  refine hR h' tk acc cnt m (fun b o hb _ _ e=>hkp b o hb e) (hns.at' fun o e=>hkp C o hCw e) (hkp D _ hDw hD) (by simp)
 |succ k ih=>
  intro i s acc cnt m R hk hi hst hns hD hacc hR
  have hlt:i < n:=Nat.lt_of_sub_eq_succ hk
  refine codeAny_of_tree ?_
  show wpAny P.M A ((compTurn (.ListComp elt [⟨.Tuple [.Name x1 p1,.Name x2 p2] kt pt,iter,[],0⟩] scope pos) 0 (.ref z) (.ref D) cenv).onRaise (fun x=>do noteFrame x cenv;theTreesLotGoes x)) _ _ s
  refine wpAny_noted ?_
  rw [compTurn_list]
  refine wpAny_bind (wpAny_standAt (wpAny_bind (W.item i s _ _ hlt hst fun T vals hc tk1 hP hT hTup hM ka=>?_)))
  obtain rfl:=hPt i vals hP
  refine wpAny_bind (W.go _ _ _ i T _ _ _ hM fun hd hst2 kb=>?_)
  have hTw:T∉wr:=W.apart _ _ _ hM
  have hTup2:hd.IsTuple T #[.bool (bs i),.bool (cs i)]:=hTup.at fun o e=>kb T o hTw e
  refine wpAny_bind (wpAny_assign_Tuple hh hTup2 rfl rfl fun he k3=>?_)
  have k3':∀b o,hd.get? b=some o->he.get? b=some o:=fun b o e=>k3 b o (fun q=>by rw [q] at e;exact absurd (Heap.lt_size e) (Nat.lt_irrefl _)) e
  have hn3:he.Ns C m:=hns.at' fun o e=>k3' C o (kb C o hCw (ka C o hCw e))
  show wpAny P.M A (holding _ (assign (.Name x1 p1) cenv (.bool (bs i))) >>=fun _=>holding _ (assign (.Name x2 p2) cenv (.bool (cs i))) >>=fun _=>pure ()) _ _ _
  subst hC
  refine wpAny_bind (wpAny_holding (wpAny_assign_Name (wpAny_storeName_local hk1 hn3 (fun hf hn4 hs4=>?_) hp)))
  refine wpAny_bind (wpAny_holding (wpAny_assign_Name (wpAny_storeName_local hk2 hn4 (fun hg hn5 hs5=>?_) hp)))
  have kk:∀b o,b∉wr->b≠cenv.locals->s.heap.get? b=some o->hg.get? b=some o:=fun b o hb hbC e=>(hs5.2 b hbC).trans ((hs4.2 b hbC).trans (k3' b o (kb b o hb (ka b o hb e))))
  have hD5:IsL hg D acc cnt:=kk D _ hDw hDC hD
  have hst5:St (i+1) hg:=W.frame _ _ _ hst2 fun b hb o e=>by
   have hbC:b≠cenv.locals:=fun q=>hCf (q▸hb)
   exact (hs5.2 b hbC).trans ((hs4.2 b hbC).trans (k3' b o e))
  refine wpAny_pure (wpAny_bind (wpAny_tests_nil ?_))
  rw [if_pos rfl]
  refine wpAny_bind (wpAny_bind (helt _ _ (bs i) (cs i) _ _ hn5 (by simp [hx]) (by simp) ?_))
  refine wpAny_bind (fw hD5 (wpAny_pure (wpAny_pure ⟨rfl,?_⟩)) (bD (by lia -abstractProof)))
  have hs6:Heap.SameBut D hg (hg.update D (Obj.mapSeq fun a=>a.push (.bool (f (bs i) (cs i))))):=Heap.SameBut.update ..
  refine ih (i+1) _ _ _ _ R (vg hk) hlt (W.frame _ _ _ hst5 fun b hb o e=>(hs6.2 b fun q=>hDf (q▸hb)).trans e) (hn5.sameBut hs6 (Ne.symm hDC)) (IsL.update hD5 _) (by simp [hacc]) fun h' tk acc' cnt' m' kf hn' hD' hacc'=>?_
  refine hR h' tk acc' cnt' m' (fun b o hb hbC hbD e=>kf b o hb hbC hbD ((hs6.2 b hbD).trans (kk b o hb hbC e))) hn' hD' ?_
  rw [hacc',Array.toList_push,List.append_assoc]
  congr 1
  have:n - i=(n - (i+1))+1:=by rw [hk,vg hk]
  rw [this,range'_succ];rfl
theorem wh (f:Bool->Bool->Bool)(bs cs:List Bool):(range' 0 (min bs.length cs.length)).map (fun j=>Value.bool (f (bs[j]?.getD false) (cs[j]?.getD false)))=(zipWith f bs cs).map Value.bool:=by
 apply List.ext_getElem
 .simp
 .intro i h1 h2
  simp at h1 h2
  have l1:i < bs.length:=by lia
  have l2:i < cs.length:=by lia
  simp [getElem?_eq_getElem l1,getElem?_eq_getElem l2]
noncomputable def qm (P:Pg)(scope:Scope)(x1 x2:Str)(elt:Expr)(f:Bool->Bool->Bool):Prop:=
 ∀(A:Around) (env:Env) s m b c (Q:Value->Shared->Prop) (E:Value->Shared->Prop),env.scope.kind=.function->env.kindOf x1=some .local->env.kindOf x2=some .local->s.heap.Ns env.locals m->m x1=some (.bool b)->m x2=some (.bool c)->Q (.bool (f b c)) s->wpAny P.M A (eval elt env) Q E s
theorem qm.and {scope:Scope}{x1 x2:Str}{p q r:Pos}(h1:(x1==("__debug__":Str))=false)(h2:(x2==("__debug__":Str))=false):qm P scope x1 x2 (.BoolOp .And [.Name x1 p,.Name x2 q] r) (·&&·):=fun A env s m b c Q E hk k1 k2 hn e1 e2 h=>by
 refine wpAny_And2 (wpAny_Name (wpAny_loadName_local hk k1 hn e1 (wpAny_truthy_bool ?_)) h1)
 cases b with
 |true=>exact wpAny_Name (wpAny_loadName_local hk k2 hn e2 h) h2
 |false=>exact h
theorem qm.or {scope:Scope}{x1 x2:Str}{p q r:Pos}(h1:(x1==("__debug__":Str))=false)(h2:(x2==("__debug__":Str))=false):qm P scope x1 x2 (.BoolOp .Or [.Name x1 p,.Name x2 q] r) (·||·):=fun A env s m b c Q E hk k1 k2 hn e1 e2 h=>by
 refine wpAny_Or2 (wpAny_Name (wpAny_loadName_local hk k1 hn e1 (wpAny_truthy_bool ?_)) h1)
 cases b with
 |true=>exact h
 |false=>exact wpAny_Name (wpAny_loadName_local hk k2 hn e2 h) h2
theorem jG:∀{xs:List T} {vs:List Value} {bs:List Bool},bm P g h xs vs->iU xs=some bs->vs=bs.map Value.bool
 | [],_,_,r,e=>by cases r;cases e;rfl
 |t::xs,_,_,⟨v,vs,e0,q,r⟩,e=>by
  obtain ⟨b,bs,e1,e2,e3⟩:=bn e
  cases e3
  rw [e0,jG r e2,fU.b (.inl q) e1];rfl
theorem qh:∀(bs:List Bool),bm P g h (bs.map T.bool) (bs.map Value.bool)
 | []=>rfl
 |b::r=>bm.cons rfl (qh r)
inductive Gp (P:Pg) (h:Heap) (f:Bool->Bool->Bool) (t:T) (u v:Value):Prop
 |mk (l1 l2:Addr) (vs ws:Array Value) (nv nw:Nat) (bs cs:List Bool) (h0:u=.ref l1) (h1:v=.ref l2) (h2:h.get? l1=some (bO vs nv)) (h3:h.get? l2=some (bO ws nw)) (h4:vs=(bs.map Value.bool).toArray) (h5:ws=(cs.map Value.bool).toArray) (h6:bs.length<=lim) (h7:t=.lst ((zipWith f bs cs).map T.bool))
theorem wi {a b t:T}{u v:Value}{f:Bool->Bool->Bool}(ra:fU P g h a u)(rb:fU P g h b v)(e:kY f a b=some t):Gp P h f t u v:=by
 obtain ⟨xs,ys,e1,e2,e3⟩:=bn e
 obtain ⟨bs,cs,e4,e5,e6⟩:=bn e3
 cases e6
 obtain ⟨l1,rfl,vs,nv,a1,a3,a2⟩:=ra.ls e1
 obtain ⟨l2,rfl,ws,nw,b1,b3,b2⟩:=rb.ls e2
 have hv:=jG a2 e4
 refine ⟨l1,l2,vs,ws,nv,nw,bs,cs,rfl,rfl,a1,b1,by rw [<-hv],by rw [<-jG b2 e5],?_,rfl⟩
 have:=a2.length
 rw [hv,length_map] at this
 rw [this];exact a3
theorem av.zip {e1 e2 elt:Expr}{d1 d2:PE}{x1 x2:Str}{p1 p2 pt p cp:Pos}{kt:Nat}{scope:Scope}{pos:Pos}{f:Bool->Bool->Bool}(hel:qm P scope x1 x2 elt f)(hkind:scope.kind=.function)(hnames:∀x∈scope.names,x.2=.local->scope.names.lookup x.1=some .local)(hnocell:∀x∈scope.names,x.2≠.cell)
  (hnofree:∀x∈scope.names,x.2≠.free)(hx1:scope.names.lookup x1=some .local)(hx2:scope.names.lookup x2=some .local)(hx:x1≠x2)(hz:B.sc.names.lookup (ofString "zip")=some .globalImplicit)(hn1:∀env,starEach [e1,e2] env=(false,eval e1 env)::starEach [e2] env)(hn2:∀env,starEach [e2] env=[(false,eval e2 env)])(h1:av P B C e1 d1 (RX P))(h2:av P B C e2 d2 (RX P)):
  av P B C (.ListComp elt [⟨.Tuple [.Name x1 p1,.Name x2 p2] kt pt,.Call (.Name (ofString "zip") p) [e1,e2] [] cp,[],0⟩] scope pos) (Mine.p2 (kY f) d1 d2) (RV P):=fun n A env g ρ σ s k Q E X hb hq=>by
 show wpAny P.M A (eval _ env) Q E s
 rw [eval_ListComp]
 refine wpAny_comprehension_free (use:=Option.none) rfl (fun _=>rfl) (jE (env:=env) fun y hy=>absurd rfl (hnofree _ hy)) hkind hnames ?_
 refine Call_Name rfl (X.blt hz (by decide) (by decide) (v:=.type "zip") (by decide) ?_)
 refine bH (fun _ q=>by cases q) (cc fun q hq=>?_) (wpAny_items_cons (h1 n A env g ρ σ s _ _ E X hb fun u s₁ g1 a σ₁ ea pb w1 r1=>wpAny_items_cons (h2 n A env g1 ρ σ₁ s₁ _ _ E (X.post pb w1) (fun q=>hb (ea.trans q)) fun v s2 g2 b σ₂ ed pd w2 r2=>wpAny_items_nil ?_) (hn2 env)) (hn1 env))
 .rw [hn1 env,hn2 env] at hq
  cases hq with
  |head=>rfl
  |tail _ h=>cases h with
   |head=>rfl
   |tail _ h=>cases h
 obtain ⟨tz,ez⟩:=cG fun q=>hb (ea.trans (ed.trans q))
 have p12:=pb.trans pd
 obtain ⟨l1,l2,vs,ws,nv,nw,bs,cs,rfl,rfl,a1,b1,hvs,hws,lz1,rfl⟩:=wi (jq.post w1 pd r1).y (jq.y r2) ez
 have fin:∀s' g' x,aQ g2 s2 g' s'->bN P g' s'.heap σ₂->Rp P g' s'.heap (.lst ((zipWith f bs cs).map T.bool)) x->Q x s':=fun s' g' x p w r=>hq x s' g' _ σ₂ (ea.trans (ed.trans (by rw [ez];rfl))) (p12.trans p) w r
 have lx:vs.size=bs.length:=by rw [hvs];simp
 have ly:ws.size=cs.length:=by rw [hws];simp
 have lt1:=Heap.lt_size a1
 have lt2:=Heap.lt_size b1
 refine call_zip_2 ⟨_,a1,rfl,nv,rfl⟩ ⟨_,b1,rfl,nw,rfl⟩ fun he z1 z2 z3 z4 z5 z6 z7=>?_
 refine wpAny_pyIter_zip z1 ?_
 refine wpAny_newList ?_
 have fr:∀{a:Addr},s2.heap.objs.size<=a->s2.heap.get? a=Option.none:=fun {a} ha=>by
  cases e:s2.heap.get? a with
  |none=>rfl
  |some o=>exact absurd (Heap.lt_size e) (Nat.not_lt.mpr ha)
 have hD4:=Heap.get?_push_size he (o:={cls:=.type "list",data:=.seq ([]:List Value).toArray}) rfl
 refine wpAny_newFunctionEnv hnocell (by intro y hy;simp at hy) (fun hg hn5 hsb5=>?_) hkind
 dsimp only at hn5 hsb5 ⊢
 generalize hH4:he.push {cls:=.type "list",data:=.seq ([]:List Value).toArray}=hf at hn5 hsb5 hD4 ⊢
 have hDn:s2.heap.get? he.objs.size=Option.none:=fr (by rw [z6];exact le_add_right _ _)
 have hC4:hf.get? hf.objs.size=Option.none:=aR _
 have k34:∀a o,he.get? a=some o->hf.get? a=some o:=fun a o e=>by rw [<-hH4];exact Heap.get?_push_of_some _ e
 have k45:∀a o,hf.get? a=some o->hg.get? a=some o:=fun a o e=>(hsb5.2 a fun q=>by rw [q,hC4] at e;cases e).trans (Heap.get?_push_of_some _ e)
 have hCn:s2.heap.get? hf.objs.size=Option.none:=by
  cases e:s2.heap.get? hf.objs.size with
  |none=>rfl
  |some o=>rw [k34 _ _ (z7 _ _ e)] at hC4;cases hC4
 have hDC:he.objs.size≠hf.objs.size:=fun q=>by rw [q] at hD4;rw [hC4] at hD4;cases hD4
 have Wk:=WalksT.zip2 (prog:=P.prog) (w:=P.w) (A:=A) X.room.2.2 _ _ _ _ _ l1 l2 (zipApart_new lt1 lt2) vs ws
 have st3:_/\_:=(⟨z1,z2,⟨_,_,z3⟩,z4,z5,⟨_,z7 _ _ a1,rfl,nv,rfl⟩,⟨_,z7 _ _ b1,rfl,nw,rfl⟩⟩:IsZip he _ _ _ Value.none/\IsPair he _ _ _/\(∃a b,IsPair he _ a b)/\he.IsListIter _ l1 0/\he.IsListIter _ l2 0/\he.IsList l1 vs/\he.IsList l2 ws)
 have st5:=Wk.frame 0 he hg st3 fun b _ o e=>k45 b o (k34 b o e)
 have live:∀b∈[s2.heap.objs.size+4,s2.heap.objs.size+2,s2.heap.objs.size+3,s2.heap.objs.size,s2.heap.objs.size+1,l1,l2],∃o,he.get? b=some o:=fun b hb=>by
  simp only [mem_cons,not_mem_nil,or_false] at hb
  rcases hb with rfl |rfl |rfl |rfl |rfl |rfl |rfl
  .exact ⟨_,z1⟩
  .exact ⟨_,z2⟩
  .exact ⟨_,z3⟩
  .exact let ⟨o,e,_⟩:=z4;⟨o,e⟩
  .exact let ⟨o,e,_⟩:=z5;⟨o,e⟩
  .exact ⟨_,z7 _ _ a1⟩
  .exact ⟨_,z7 _ _ b1⟩
 have ck1:(compEnvC scope (fq env scope.names []) hf.objs.size env).kindOf x1=some .local:=lookup_relabel_local hx1
 have ck2:(compEnvC scope (fq env scope.names []) hf.objs.size env).kindOf x2=some .local:=lookup_relabel_local hx2
 have loop:codeAny P.M A (.compLoop (.ListComp elt [⟨.Tuple [.Name x1 p1,.Name x2 p2] kt pt,.Call (.Name (ofString "zip") p) [e1,e2] [] cp,[],0⟩] scope pos) 0 (.ref (s2.heap.objs.size+4)) (.ref he.objs.size) (compEnvC scope (fq env scope.names []) hf.objs.size env))
   (compPost P.M A E Option.none Q (.ref he.objs.size) hf.objs.size) {s2 with heap:=hg,toks:=s2.toks+([]:List (Str×Value)).length}:=by
  refine Az (f:=f) (bs:=fun i=>bs[i]?.getD false) (cs:=fun i=>cs[i]?.getD false) Wk (fun i v hv=>?_) X.room.2.2 (C:=hf.objs.size) rfl hkind ck1 ck2 hx (fun q=>?_) (fun q=>?_) hDC (by rw [lx,ly];lia)
   (fun s m b c Q E hns m1 m2 hq=>hel A (compEnvC scope (fq env scope.names []) hf.objs.size env) s m b c Q E hkind ck1 ck2 hns m1 m2 hq) _ 0 _ #[] _ _ _ rfl (zero_le _) st5 hn5 (k45 _ _ hD4) rfl fun hj tk acc' cnt' m' kf hn' hD' hacc'=>?_
  .obtain ⟨x,y,ex,ey,rfl⟩:=hv
   rw [hvs] at ex
   rw [hws] at ey
   simp only [List.getElem?_toArray,getElem?_map,Option.map_eq_some_iff] at ex ey
   obtain ⟨b,eb,rfl⟩:=ex
   obtain ⟨c,ec,rfl⟩:=ey
   rw [eb,ec];rfl
  .obtain ⟨o,e⟩:=live _ q
   rw [k34 _ _ e] at hC4;cases hC4
  .obtain ⟨o,e⟩:=live _ q
   rw [aR] at e;cases e
  .refine ⟨m',hn',fun hl hs7=>?_⟩
   have hall:∀a o,s2.heap.get? a=some o->hl.get? a=some o:=fun a o e=>by
    have hlt:=Heap.lt_size e
    have haC:a≠hf.objs.size:=fun q=>by rw [q,hCn] at e;cases e
    refine (hs7.2 a haC).trans (kf a o (fun q=>?_) haC (fun q=>by rw [q,hDn] at e;cases e) (k45 a o (k34 a o (z7 a o e))))
    simp only [mem_cons,not_mem_nil,or_false] at q
    rcases q with rfl |rfl |rfl |rfl
    .rw [fr (le_add_right _ _)] at e;cases e
    .rw [fr (le_add_right _ _)] at e;cases e
    .rw [fr (le_refl _)] at e;cases e
    .rw [fr (le_add_right _ _)] at e;cases e
   have hzl:(zipWith f bs cs).length<=lim:=by rw [List.length_zipWith];lia
   have hD7:IsL hl he.objs.size acc' cnt':=(hs7.2 _ hDC).trans hD'
   have hacc:acc'.toList=(zipWith f bs cs).map Value.bool:=by
    rw [hacc',lx,ly,Nat.sub_zero]
    exact wh f bs cs
   have p7:aQ g2 s2 {g2 with F:=fun y=>g2.F y\/y=he.objs.size} {s2 with heap:=hl,toks:=tk}:=.grow tk hall _ (fun _ f=>.inl f) fun a f=>f.imp_right fun e:a=he.objs.size=>e▸hDn
   exact fin _ _ _ p7 (w2.grow hall _ (fun _ f=>.inl f) fun a f=>f.imp_right fun e:a=he.objs.size=>e▸⟨hDn,ay hD7⟩) ⟨_,rfl,.inr rfl,acc',cnt',hD7,by rw [length_map];exact hzl,by rw [hacc];exact qh _⟩
 exact codeAny_compStart_list loop (wpAny_pyIter_zip (k45 _ _ (k34 _ _ z1)) loop)
noncomputable def GY (scope:Scope)(x1 x2:Str):Bool:=scope.kind==.function&&(scope.names.all (fun x=>!(x.2==.local)||scope.names.lookup x.1==some .local)&&(scope.names.all (fun x=>!(x.2==.cell)&&!(x.2==.free))&&((scope.names.lookup x1==some .local)&&((scope.names.lookup x2==some .local)&&!(x1==x2)))))
theorem av.zipC {e1 e2 elt:Expr}{d1 d2:PE}{x1 x2:Str}{p1 p2 pt p cp:Pos}{kt:Nat}{scope:Scope}{pos:Pos}{f:Bool->Bool->Bool}(hel:qm P scope x1 x2 elt f)(hb:GY scope x1 x2=true)(hz:B.sc.names.lookup (ofString "zip")=some .globalImplicit)
  (hn1:∀env,starEach [e1,e2] env=(false,eval e1 env)::starEach [e2] env)(hn2:∀env,starEach [e2] env=[(false,eval e2 env)])(h1:av P B C e1 d1 (RX P))(h2:av P B C e2 d2 (RX P)):
  av P B C (.ListComp elt [⟨.Tuple [.Name x1 p1,.Name x2 p2] kt pt,.Call (.Name (ofString "zip") p) [e1,e2] [] cp,[],0⟩] scope pos) (Mine.p2 (kY f) d1 d2) (RV P):=by
 obtain ⟨b1,hb⟩:=ai hb
 obtain ⟨b2,hb⟩:=ai hb
 obtain ⟨b3,hb⟩:=ai hb
 obtain ⟨b4,hb⟩:=ai hb
 obtain ⟨b5,b6⟩:=ai hb
 have b3:=fun x hx=>ai (aI b3 x hx)
 refine av.zip hel (eq_of_beq b1) (fun x hx e=>?_) (fun x hx e=>?_) (fun x hx e=>?_) (eq_of_beq b4) (eq_of_beq b5) (fun e=>?_) hz hn1 hn2 h1 h2
 .have:=aI b2 x hx
  rw [e] at this;exact eq_of_beq this
 .have:=(b3 x hx).1
  rw [e] at this;cases this
 .have:=(b3 x hx).2
  rw [e] at this;cases this
 .rw [e,beq_self_eq_true] at b6;cases b6
end
end
end Mine
namespace Mine
noncomputable section
open PySem PySem.W PyProof.Rows PySem.SeqAt
noncomputable def qc {α Z:Type}(f:α->Z->Option Z):List α->Z->Option Z
 | [],b=>some b
 |x::r,b=>o1 (f x b) (qc f r)
noncomputable def G6 (ks:List T)(kn o:T)(ds:List (List T)):Option (List (List T)):=o1 (mn ks o) fun i=>o1 i fun j=>o1 ds[j]? fun l=>bif cT (l.length+1) then some (ds.set j (l++[kn])) else none
theorem pY (ks:List T)(kn:T):∀(os:List T) (ds:List (List T)),lk ks kn os ds=qc (G6 ks kn) os ds
 | [],_=>rfl
 |o::os,ds=>by
  show o1 (mn ks o) _=o1 (o1 (mn ks o) _) _
  cases mn ks o with
  |none=>rfl
  |some i=>cases i with
   |none=>rfl
   |some j=>
    show o1 ds[j]? _=o1 (o1 ds[j]? _) _
    cases ds[j]? with
    |none=>rfl
    |some l=>
     show (bif cT (l.length+1) then _ else _)=o1 (bif cT (l.length+1) then _ else _) _
     cases cT (l.length+1) with
     |false=>rfl
     |true=>exact pY ks kn os _
noncomputable def ID (ks:List T)(th kn:T)(ds:List (List T)):Option (List (List T)):=o1 (idxD th kn) fun l=>o1 (gI l) fun os=>lk ks kn os ds
theorem pX (ks:List T)(th:T):∀(ns:List T) (ds:List (List T)),sU ks th ns ds=qc (ID ks th) ns ds
 | [],_=>rfl
 |n::ns,ds=>by
  show o1 (idxD th n) _=o1 (o1 (idxD th n) _) _
  cases idxD th n with
  |none=>rfl
  |some l=>
   show o1 (gI l) _=o1 (o1 (gI l) _) _
   cases gI l with
   |none=>rfl
   |some os=>
    show o1 (lk ks n os ds) _=o1 (lk ks n os ds) _
    cases lk ks n os ds with
    |none=>rfl
    |some d=>exact pX ks th ns d
inductive xw (P:Pg) (env:Env) (g:Gh) (h:Heap) (a:Addr) (as:List Addr) (ks:List T) (ds:List (List T)):Prop
 |mk (q:(a==sysModules)=false) (o:Obj) (es:List DictEntry) (e:h.get? a=some o) (d:IU P.w ks o es) (r:bm P g h ks (es.map (·.key))) (v:es.map (·.val)=as.map Value.ref)
  (nd:as.Nodup) (na:a∉as) (lm:mr g env (a::as)) (l:as.length=ds.length) (c:∀(i:Nat) (x:Addr) (ts:List T),as[i]?=some x->ds[i]?=some ts->iY P g h x (.lst ts))
section
variable {P:Pg} {B:b7} {C:Ct} {n i:Nat} {A:Around} {env:Env} {g g':Gh} {ρ:aW} {σ:Sg} {s s':Shared} {h h':Heap} {a:Addr} {as:List Addr} {ks:List T} {ds:List (List T)} {y:Str} {k:NameKind}
theorem xw.keep (L:xw P env g h a as ks ds)(kf:aZ g h g' h')(kv:∀b∈a::as,∀o,h.get? b=some o->h'.get? b=some o)(lm:mr g' env (a::as)):xw P env g' h' a as ks ds:=by
 obtain ⟨q,o,es,e,d,r,v,nd,na,_,l,c⟩:=L
 exact ⟨q,o,es,kv a mem_cons_self _ e,d,r.mono kf,v,nd,na,lm,l,fun i x ts h1 h2=>(c i x ts h1 h2).mono kf (kv x (mem_cons_of_mem _ (mem_of_getElem? h1)))⟩
theorem xw.vol (L:xw P env g h a as ks ds):mr g env (a::as):=let ⟨_,_,_,_,_,_,_,_,_,lm,_,_⟩:=L;lm
theorem xw.live (L:xw P env g h a as ks ds):∀b∈a::as,h.get? b≠none:=fun b hb=>by
 obtain ⟨q,o,es,e,d,r,v,nd,na,lm,l,c⟩:=L
 rcases az hb with rfl |hb
 .exact ay e
 .obtain ⟨i,hi⟩:=getElem?_of_mem hb
  have:i < ds.length:=l▸(ak hi).1
  exact (c i b _ hi (getElem?_eq_getElem this)).live
structure dJ (P:Pg) (B:b7) (C:Ct) (n:Nat) (A:Around) (env:Env) (σ:Sg) (a:Addr) (as:List Addr) (ks:List T) (g:Gh) (ρ:aW) (s:Shared) (ds:List (List T)):Prop where
 X:At P B C n A env g ρ σ s
 va:dI B env s.heap 1 (.ref a)
 L:xw P env g s.heap a as ks ds
theorem dJ.post (Y:dJ P B C n A env σ a as ks g ρ s ds)(p:aQ g s g' s')(w:bN P g' s'.heap σ):dJ P B C n A env σ a as ks g' ρ s' ds:=
 have v:=Y.L.vol.p Y.L.live p
 ⟨Y.X.post p w,Y.va.move fun b hb o e=>p.keep b o e (Y.X.env.own b hb).2.2.1,Y.L.keep (p.k Y.X.g) v.2 v.1⟩
theorem G2 {W vol:List Addr}(v:mr g env vol)(l:∀a∈vol,s.heap.get? a≠none)(hW:∀a∈vol,a∉W)(p:be [] W g s g' s'):mr g' env vol/\∀a∈vol,∀o,s.heap.get? a=some o->s'.heap.get? a=some o:=
 ⟨fun a ha=>let ⟨f,z,o,w⟩:=v a ha;⟨fun q=>(p.Fn a q).elim f fun q=>q.elim o (l a ha),fun q=>(p.Zn a q).elim z (l a ha),fun q=>(p.On a q).elim o (l a ha),w⟩,fun a ha o e=>let ⟨_,z,q,_⟩:=v a ha;p.keep a o e z q (hW a ha)⟩
theorem dJ.turn {I:Addr}(Y:dJ P B C n A env σ a as ks g ρ s ds)(hv:mr g env [I])(hI:I∉a::as)(hkp:∀b o,s.heap.get? b=some o->b∉[I]->h'.get? b=some o)(tk:Nat):cf [I] [I] g s g {s with heap:=h',toks:=tk}/\dJ P B C n A env σ a as ks g ρ {s with heap:=h',toks:=tk} ds:=by
 obtain ⟨pV,X'⟩:=eE Y.X hv hkp tk
 have iv:=hv I (aE rfl)
 exact ⟨pV,X',Y.va.move fun b hb o e=>hkp b o e fun q=>iv.2.2.2 (ae q▸hb),Y.L.keep (pV.toS.k Y.X.g fun b hb=>(hv b hb).1) (fun b hb o e=>hkp b o e fun q=>hI (ae q▸hb)) Y.L.vol⟩
theorem dJ.store {t:T}{u:Value}{Q:Unit->Shared->Prop}{E:Value->Shared->Prop}(Y:dJ P B C n A env σ a as ks g ρ s ds)(hc:cQ C i false C=true)(ht:B.tab[i]?=some (some (y,k)))(hk:k=.local\/k=.cell)(h1:1≠i)(r:Rp P g s.heap t u)
  (hq:∀s',cf [] (own env) g s g s'->dJ P B C n A env σ a as ks g (ρ.set i (some t)) s' ds->Q () s'):wpAny P.M A (storeName env y u) Q E s:=by
 obtain ⟨hs,ho⟩:=fg hc
 have X2:At P B C n A env g (ρ.set i none) σ s:=⟨Y.X.good,Y.X.call,Y.X.room,Y.X.env.forget hs (.refl g i) fun a ha=>(Y.X.env.own a ha).2.2.2,Y.X.g⟩
 refine jV X2 hs.nu ht hk (by unfold bW;rw [ho];exact .inl r) fun s' p X' hot=>?_
 have p:cf [] (own env) g s g s':=p.weak (fun _ h=>h) dN
 rw [set_set] at X'
 have v:=Y.L.vol.post Y.L.live p.toS
 exact hq s' p ⟨X',hot 1 _ h1 Y.va,Y.L.keep (p.toS.k Y.X.g fun a ha=>(Y.X.env.own a ha).2.1) v.2 v.1⟩
theorem be.mono {V W W':List Addr}(p:be V W g s g' s')(hw:∀a∈W,a∈W'):be V W' g s g' s':={p with keep:=fun a o e z q n=>p.keep a o e z q fun x=>n (hw a x)}
theorem Eh {body:List Stmt}{p:Pos}{f:T->List (List T)->Option (List (List T))}{K:aW->Prop}{I l:Addr}{ts:List T}{vs:Array Value}{m:Nat}{R:Result->Shared->Prop}(hc:cQ C i false C=true)(ht:B.tab[i]?=some (some (y,k)))(hk:k=.local\/k=.cell)(h1:1≠i)(hK:∀ρ t,K ρ->K (ρ.set i (some t))/\bV (ρ.set i (some t)) i=some t)
  (hb:∀t g ρ s ds ds1 (Q:Flow->Shared->Prop) (E:Value->Shared->Prop),f t ds=some ds1->dJ P B C n A env σ a as ks g ρ s ds->K ρ->bV ρ i=some t->(∀s' g' ρ',be [] (as++own env) g s g' s'->dJ P B C n A env σ a as ks g' ρ' s' ds1->K ρ'->Q .next s')->wpAny P.M A (execs body env) Q E s)(hI:I∉a::as):
  ∀(rest:List T) (j:Nat) (g:Gh) (ρ:aW) (s:Shared) (ds ds':List (List T)),j<=ts.length->ts.drop j=rest->dJ P B C n A env σ a as ks g ρ s ds->K ρ->mr g env [I]->(s.heap.IsListIter I l j/\g.F l/\s.heap.get? l=some (bO vs m)/\bm P g s.heap ts vs.toList)->qc f rest ds=some ds'->
   (∀s' g' ρ',be [I] (I::(as++own env)) g s g' s'->dJ P B C n A env σ a as ks g' ρ' s' ds'->K ρ'->R (.ok .next) s')->codeAny P.M A (.forLoop (.Name y p) (.ref I) body [] env) R s:=by
 intro rest
 induction rest with
 |nil=>
  intro j g ρ s ds ds' hle hd Y kr hv st e hq
  cases e
  obtain rfl:j=ts.length:=le_antisymm hle (List.drop_eq_nil_iff.mp hd)
  refine codeAny_of_tree ?_
  show wpAny P.M A ((forTurn (.Name y p) (.ref I) body [] env).onRaise (fun x=>do noteFrame x env;theTreesLotGoes x)) _ _ s
  refine wpAny_noted ?_
  simp only [forTurn]
  refine wpAny_bind (wpAny_standAt (wpAny_bind (wpAny_onRaise ((oY.list (P:=P) Y.X.room.2.2).done g s _ _ st fun h' tk hkp=>wpAny_pure ⟨rfl,codeAny_block (wpAny_execs_nil ?_)⟩))))
  obtain ⟨pV,Y'⟩:=Y.turn hv hI hkp tk
  exact hq _ g ρ (pV.toS.mono fun b hb=>mem_cons.mpr (.inl (ae hb))) Y' kr
 |cons t rest ih=>
  intro j g ρ s ds ds' hle hd Y kr hv st e hq
  obtain ⟨ds1,e1,e2⟩:=aD (show o1 (f t ds) (qc f rest)=some ds' from e)
  have hiv:ts[j]?=some t:=by rw [<-head?_drop,hd];rfl
  have hj:j < ts.length:=(ak hiv).1
  have hd':ts.drop (j+1)=rest:=by rw [<-List.tail_drop,hd];rfl
  refine codeAny_of_tree ?_
  show wpAny P.M A ((forTurn (.Name y p) (.ref I) body [] env).onRaise (fun x=>do noteFrame x env;theTreesLotGoes x)) _ _ s
  refine wpAny_noted ?_
  simp only [forTurn]
  refine wpAny_bind (wpAny_standAt (wpAny_bind (wpAny_onRaise ((oY.list (P:=P) Y.X.room.2.2).item j t g s _ _ hiv st (fun b hb=>(hv b hb).1) fun u h' tk hkp r st'=>?_))))
  obtain ⟨pV,Y'⟩:=Y.turn hv hI hkp tk
  have lI:∀b∈[I],h'.get? b≠none:=fun b hb=>by rw [ae hb];exact let ⟨_,e,_⟩:=st'.1;ay e
  have pV:=fB pV lI
  refine wpAny_bind (wpAny_pure (wpAny_bind (wpAny_assign_Name (Y'.store hc ht hk h1 r fun s3 p3 Y3=>wpAny_bind (hb t g _ s3 ds ds1 _ _ e1 Y3 (hK ρ t kr).1 (hK ρ t kr).2 fun s4 g4 ρ₄ p4 Y4 k4=>wpAny_pure ⟨rfl,?_⟩)))))
  have st3:=(oY.list (P:=P) Y.X.room.2.2).stay _ _ _ _ _ st' (p3.toS.k Y'.X.g fun a ha=>(Y'.X.env.own a ha).2.1) (hv.post (s:={s with heap:=h',toks:=tk}) lI p3.toS).2
  have lI3:∀b∈[I],s3.heap.get? b≠none:=fun b hb=>by rw [ae hb];exact let ⟨_,e,_⟩:=st3.1;ay e
  have iv:=hv I (aE rfl)
  obtain ⟨hv4,kp4⟩:=G2 hv lI3 (fun b hb q=>by
   rw [ae hb] at q
   exact (ah q).elim (fun q=>hI (mem_cons_of_mem _ q)) iv.2.2.2) p4
  have st4:=(oY.list (P:=P) Y.X.room.2.2).stay _ _ _ _ _ st3 (p4.k Y3.X.g fun b hb=>(ah hb).elim (fun q=>(Y3.L.vol b (mem_cons_of_mem _ q)).1) fun q=>(Y3.X.env.own b q).2.1) kp4
  have p04:be [] (I::(as++own env)) g s g4 s4:=(pV.toS.mono fun b hb=>mem_cons.mpr (.inl (ae hb))).trans ((p3.toS.mono fun b hb=>mem_cons_of_mem _ (mem_append_right _ hb)).trans (p4.mono fun b hb=>mem_cons_of_mem _ hb))
  exact ih (j+1) g4 ρ₄ s4 ds1 ds' hj hd' Y4 k4 hv4 st4 e2 fun s' g' ρ' p' Y' k'=>hq s' g' ρ' (p04.trans p') Y' k'
end
section
variable {P:Pg} {B:b7} {C:Ct} {n i:Nat} {A:Around} {env:Env} {g g' ga:Gh} {ρ:aW} {σ:Sg} {s s' s₁:Shared} {h h':Heap} {a:Addr} {as:List Addr} {ks:List T} {ds ds1:List (List T)} {ms:List (Str×Nat)}
theorem qL {v:Option T}:∀{ρ:aW} {i j:Nat},j≠i->bV (ρ.set i v) j=bV ρ j
 | [],_,_,_=>rfl
 |_::_,0,0,h=>(h rfl).elim
 |_::_,0,_+1,_=>rfl
 |_::_,_+1,0,_=>rfl
 |_::ρ,i+1,j+1,h=>qL (ρ:=ρ) fun e=>h (congrArg (·+1) e)
theorem uy {v:Option T}:∀{ρ:aW} {i:Nat},i < ρ.length->bV (ρ.set i v) i=v
 | [],_,h=>(not_lt_zero _ h).elim
 |_::_,0,_=>rfl
 |_::ρ,i+1,h=>uy (ρ:=ρ) (Nat.lt_of_succ_lt_succ h)
theorem be.drop {I:Addr}{W:List Addr}(p:aQ g s ga s₁)(hI:s.heap.get? I=none)(q:be [I] (I::W) ga s₁ g' s'):be [] W g s g' s' where
 st:=St.trans p.st q.st
 keep a o e z o' w:=q.keep a o (p.keep a o e z) (fun x=>(p.Zn a x).elim z (ay e)) (fun ⟨i,x⟩=>o' ⟨i,p.o▸x⟩) fun x=>(az x).elim (fun x=>ay e (x▸hI)) w
 back a _ e:=by
  by_cases x:a=I
  .exact x▸hI
  .exact p.back a (q.back a (fun y=>x (ae y)) e)
 F a f:=q.F a (p.F a f)
 Fn a f:=(q.Fn a f).elim (fun f=>(p.Fn a f).imp_right .inr) fun x=>.inr (x.imp (fun ⟨i,x⟩=>⟨i,p.o▸x⟩) (p.back a))
 Zn a f:=(q.Zn a f).elim (p.Zn a) fun x=>.inr (p.back a x)
 On a f:=(q.On a f).imp (fun ⟨i,x⟩=>⟨i,p.o▸x⟩) (p.back a)
 sp:=q.sp.trans p.sp
 sa:=q.sa.trans p.sa
theorem yR {fo ot kn':Str}{k1 k2 k3:NameKind}{p1 p2 p3 sp ap cp pos:Pos}{kn o:T}{Q:Flow->Shared->Prop}{E:Value->Shared->Prop}(ht1:B.tab[1]?=some (some (fo,k1)))(ht2:B.tab[2]?=some (some (kn',k2)))(ht3:B.tab[3]?=some (some (ot,k3)))(hv2:k9 C 2=true)(hv3:k9 C 3=true)
  (hbase:∀env,attributeBase (.Subscript (.Name fo p1) (.Name ot p2) sp) (ofString "append") env (eval (.Subscript (.Name fo p1) (.Name ot p2) sp) env)=eval (.Subscript (.Name fo p1) (.Name ot p2) sp) env)(hline:(ap.endLine==cp.line)=true)(htrees:∀env,backTo cp (starEach [.Name kn' p3] env)=[(false,eval (.Name kn' p3) env)])
  (hw:∀env,swapsWith (.Call (.Attribute (.Subscript (.Name fo p1) (.Name ot p2) sp) (ofString "append") ap) [.Name kn' p3] [] cp) none pos.line env=pure false)
  (Y:dJ P B C n A env σ a as ks g ρ s ds)(e2:bV ρ 2=some kn)(e3:bV ρ 3=some o)(est:G6 ks kn o ds=some ds1)(hq:∀s',be [] (as++own env) g s g s'->dJ P B C n A env σ a as ks g ρ s' ds1->Q .next s'):
  wpAny P.M A (exec (.Expr (.Call (.Attribute (.Subscript (.Name fo p1) (.Name ot p2) sp) (ofString "append") ap) [.Name kn' p3] [] cp) pos) env) Q E s:=by
 obtain ⟨i,f1,f2⟩:=aD est
 obtain ⟨j,rfl,f3⟩:=aD f2
 obtain ⟨l,f4,f5⟩:=aD f3
 obtain ⟨hf,rfl⟩:=de f5
 have X:=Y.X
 obtain ⟨u3,v3,q3⟩:=X.env.var 3 _ o ht3 e3
 obtain ⟨u2,v2,q2⟩:=X.env.var 2 _ kn ht2 e2
 have r3:=jR hv3 q3
 have r2:=jR hv2 q2
 obtain ⟨κ,hk⟩:=lr f1
 obtain ⟨ad,rfl,hi,_⟩:=n9 hk (.inl r3)
 obtain ⟨q,ob,es,e,d,r,v,nd,na,lm,ll,c⟩:=id Y.L
 obtain ⟨κs,c1,c2,c3⟩:=d.k
 obtain ⟨ep,dd⟩:=d.d
 obtain ⟨xs,g1,g2,g3⟩:=ri es ks κs r c1 c2
 have dh:s.heap.DictOfH (cj P.prog P.w) a xs:=⟨ob,_,ep,e,d.x,dd,g1,g3,by rw [g2];exact c3⟩
 have ff:=kN (by rw [g2];exact c1) f1 hk
 obtain ⟨z,hz,hz'⟩:=mQ ff
 rw [g1,map_map] at v
 have vj:(as.map Value.ref)[j]?=some z.2.2:=by rw [<-v,getElem?_map,hz];rfl
 rw [getElem?_map] at vj
 obtain ⟨x,hx,hxv⟩:=ax vj
 have cl:=c j x l hx f4
 have xm:x∈as:=mem_of_getElem? hx
 rw [exec_Expr env _ pos (by simp [interactive,X.fn]) (hw env)]
 refine wpAny_bind (wpAny_standAt (wpAny_bind (n5 oe hbase hline htrees (Subscript_ (bJ X ht1 Y.va (bJ X ht3 v3 (tail_any dh.typeIs slot_dict_getitem.lookup (wpAny_getItem_heap (vr X.rm.units) hi dh (p:=z.2) (by rw [oP,ff,bind_some,hz];rfl) ?_) rfl)))))))
 rw [<-hxv]
 refine ⟨sX (t:=.lst l) (.inr ⟨x,rfl,cl⟩) rfl,bJ (X.post (.toks g s _) X.g:At P B C n A env g ρ σ {s with toks:=s.toks+(cj P.prog P.w).draws κ}) ht2 v2 ?_⟩
 refine lM A g σ _ x u2 (.lst l) kn (.lst (l++[kn])) _ _ X.rm X.g cl r2 (by show (bif cT (l.length+1) then some _ else Option.none)=_;rw [hf];rfl) fun h' tk hs hy=>wpAny_dropValue ?_
 have vx:mr g env [x]:=fun b hb=>ae hb▸lm x (mem_cons_of_mem _ xm)
 have kk:∀b o,s.heap.get? b=some o->b∉[x]->h'.get? b=some o:=fun b o e hb=>(hs b fun q=>hb (aE q)).trans e
 obtain ⟨pV,X'⟩:=eE X vx kk tk
 have kf:aZ g s.heap g h':=pV.toS.k X.g fun b hb=>(vx b hb).1
 have rx:=hy kf
 have pV:=fB pV fun b hb=>by rw [ae hb];exact rx.live
 refine hq _ (pV.toS.mono fun b hb=>mem_append_left _ (ae hb▸xm)) ⟨X',Y.va.move fun b hb o e=>kk b o e fun q=>(lm x (mem_cons_of_mem _ xm)).2.2.2 (ae q▸hb),q,ob,es,kk a ob e fun q=>na (ae q▸xm),d,r.mono kf,by rw [g1,map_map];exact v,nd,na,lm,by rw [length_set];exact ll,fun i b ts h1 h2=>?_⟩
 by_cases ij:i=j
 .subst ij
  rw [hx] at h1;cases h1
  rw [List.getElem?_set_self (ak f4).1] at h2;cases h2
  exact rx
 .rw [List.getElem?_set_ne (Ne.symm ij)] at h2
  refine (c i b ts h1 h2).mono kf fun o e=>kk b o e fun q=>ij ?_
  rw [ae q] at h1
  exact (List.getElem?_inj (ak h1).1 nd).mp (h1.trans hx.symm)
theorem vL {iter:Expr}{pi:PE}{body:List Stmt}{y:Str}{k:NameKind}{tp pos:Pos}{f:T->List (List T)->Option (List (List T))}{K:aW->Prop}{ts:List T}{Q:Flow->Shared->Prop}{E:Value->Shared->Prop}(hfs:∀env x,foldedSetIterable iter env x=pure x)(hi:av P B C iter pi (RV P))(hc:cQ C i false C=true)(ht:B.tab[i]?=some (some (y,k)))(hk:k=.local\/k=.cell)(h1:1≠i)(hK:∀ρ t,K ρ->K (ρ.set i (some t))/\bV (ρ.set i (some t)) i=some t)
  (hb:∀t g ρ s ds ds1 (Q:Flow->Shared->Prop) (E:Value->Shared->Prop),f t ds=some ds1->dJ P B C n A env σ a as ks g ρ s ds->K ρ->bV ρ i=some t->(∀s' g' ρ',be [] (as++own env) g s g' s'->dJ P B C n A env σ a as ks g' ρ' s' ds1->K ρ'->Q .next s')->wpAny P.M A (execs body env) Q E s)
  (Y:dJ P B C n A env σ a as ks g ρ s ds)(kr:K ρ)(hp:pi (P.cx n) ρ σ (fun t σ=>.ret t σ)=.ret (.lst ts) σ)(e:qc f ts ds=some ds1)(hq:∀s' g' ρ',be [] (as++own env) g s g' s'->dJ P B C n A env σ a as ks g' ρ' s' ds1->K ρ'->Q .next s'):
  wpAny P.M A (exec (.For (.Name y tp) iter body [] pos) env) Q E s:=by
 refine wpAny_For (hi n A env g ρ σ s (fun t σ=>.ret t σ) _ _ Y.X (by rw [hp];exact fun q=>by cases q) fun x s₁ ga t σ₁ e1 p w r=>?_) (hfs env)
 rw [hp] at e1;cases e1
 obtain ⟨l,rfl,fl,vs,m,b1,b3,b2⟩:=r
 refine wpAny_pyIter_list ⟨_,b1,rfl,m,rfl⟩ ?_
 obtain ⟨p',w',v⟩:=qU (X:=wY "list_iterator" l) (tk:=s₁.toks) w p
 have Y1:=Y.post p w
 have pp:aQ ga s₁ ga {s₁ with heap:=s₁.heap.push (wY "list_iterator" l),toks:=s₁.toks}:=.push _ _
 have Y2:=Y1.post pp w'
 have hI:=v s₁.heap.objs.size (aE rfl)
 refine Eh hc ht hk h1 hK hb (fun q=>Y1.L.live _ q (aR _)) ts 0 ga ρ _ ds ds1 (zero_le _) rfl Y2 kr (fun b hb=>?_) ⟨⟨_,ch _,rfl,rfl⟩,fl,cw s₁ _ _ _ b1,b2.mono (pp.k w)⟩ e fun s' g' ρ' q Y' k'=>hq s' g' ρ' (be.drop p' hI.1 q) Y' k'
 rw [ae hb]
 exact ⟨hI.2.1,hI.2.2,fun ⟨j,q⟩=>(Y.X.g.O _ ⟨j,p.o▸q⟩).1 hI.1,fun q=>(Y.X.env.own _ q).1 hI.1⟩
end
structure Aw (h₀ h:Heap) (items:Array Value) (ps:List (Addr×Addr)):Prop where
 nw:∀p∈ps,h₀.get? p.1=none/\h₀.get? p.2=none
 nd:(ps.map (·.2)).Nodup
 at_:∀(i:Nat) (p:Addr×Addr),ps[i]?=some p->∃v m,items[i]?=some v/\h.get? p.1=some (jg #[v,.ref p.2] m)/\h.get? p.2=some (bO #[] 0)
theorem Aw.keep {h₀ h h':Heap}{items:Array Value}{ps:List (Addr×Addr)}(q:Aw h₀ h items ps)(k:∀p∈ps,(∀o,h.get? p.1=some o->h'.get? p.1=some o)/\∀o,h.get? p.2=some o->h'.get? p.2=some o):Aw h₀ h' items ps:=
 ⟨q.nw,q.nd,fun i p e=>let ⟨v,m,h1,h2,h3⟩:=q.at_ i p e;⟨v,m,h1,(k p (mem_of_getElem? e)).1 _ h2,(k p (mem_of_getElem? e)).2 _ h3⟩⟩
theorem Aw.live {h₀ h:Heap}{items:Array Value}{ps:List (Addr×Addr)}(q:Aw h₀ h items ps):∀p∈ps,(∃m v,h.get? p.1=some (jg v m))/\h.get? p.2=some (bO #[] 0):=fun p hp=>by
 obtain ⟨i,hi⟩:=getElem?_of_mem hp
 obtain ⟨v,m,_,h2,h3⟩:=q.at_ i p hi
 exact ⟨⟨m,_,h2⟩,h3⟩
section
variable {P:Pg} {A:Around}
theorem Br {I D l:Addr}{c:Nat}{cenv:Env}{x:Str}{px p1 p2 pt pos:Pos}{kt:Nat}{iter:Expr}{scope:Scope}{items:Array Value}{h₀:Heap}(hh:A.handled=none)(hkd:cenv.scope.kind=.function)(hkn:cenv.kindOf x=some .local)(hd:(x==("__debug__":Str))=false)(hz:items.size<=lim)
  (lI:h₀.get? I≠none)(lD:h₀.get? D≠none)(lL:h₀.get? cenv.locals≠none)(nID:I≠D)(nIL:I≠cenv.locals)(nDL:D≠cenv.locals)(hl:h₀.get? l=some (bO items c))(nl:l≠I/\l≠D/\l≠cenv.locals):
  ∀(k i:Nat) (s:Shared) (acc:Array Value) (cnt:Nat) (m:Str->Option Value) (ps:List (Addr×Addr)) (R:Result->Shared->Prop),items.size - i=k->i<=items.size->(∀b o,b≠I->b≠D->b≠cenv.locals->h₀.get? b=some o->s.heap.get? b=some o)->s.heap.IsListIter I l i->s.heap.Ns cenv.locals m->s.heap.get? D=some (bO acc cnt)->acc.toList=ps.map (fun p=>Value.ref p.1)->ps.length=i->Aw h₀ s.heap items ps->
   (∀h' tk acc' cnt' m' ps',(∀b o,b≠I->b≠D->b≠cenv.locals->h₀.get? b=some o->h'.get? b=some o)->h'.Ns cenv.locals m'->h'.get? D=some (bO acc' cnt')->acc'.toList=ps'.map (fun p=>Value.ref p.1)->ps'.length=items.size->Aw h₀ h' items ps'->R (.ok .next) {s with heap:=h',toks:=tk})->
   codeAny P.M A (.compLoop (.ListComp (.Tuple [.Name x p1,.List [] p2] kt pt) [⟨.Name x px,iter,[],0⟩] scope pos) 0 (.ref I) (.ref D) cenv) R s:=by
 have hp:(cenv.scope.kind==.class||(cenv.scope.kind==.module&&cenv.locals !=cenv.globals))=false:=by rw [hkd];rfl
 have out:∀{b:Addr},h₀.get? b=none->b≠I/\b≠D/\b≠cenv.locals:=fun e=>⟨fun q=>lI (q▸e),fun q=>lD (q▸e),fun q=>lL (q▸e)⟩
 intro k
 induction k with
 |zero=>
  intro i s acc cnt m ps R hk hi kp it hn hD' ea el pr hR
  obtain rfl:i=items.size:=le_antisymm hi (Nat.le_of_sub_eq_zero hk)
  refine codeAny_of_tree ?_
  show wpAny P.M A ((compTurn (.ListComp (.Tuple [.Name x p1,.List [] p2] kt pt) [⟨.Name x px,iter,[],0⟩] scope pos) 0 (.ref I) (.ref D) cenv).onRaise (fun x=>do noteFrame x cenv;theTreesLotGoes x)) _ _ s
  refine wpAny_noted ?_
  rw [compTurn_list]
  refine wpAny_bind (wpAny_standAt (wpAny_bind (wpAny_pyNext_list_end hh it ⟨_,kp _ _ nl.1 nl.2.1 nl.2.2 hl,rfl,c,rfl⟩ (Array.getElem?_eq_none (le_refl _)) fun h' hs=>wpAny_pure ?_)))
  exact hR h' s.toks acc cnt m ps (fun b o n1 n2 n3 e=>hs b o n1 (kp b o n1 n2 n3 e)) (hn.at fun o e=>hs _ o (Ne.symm nIL) e) (hs D _ (Ne.symm nID) hD') ea el (pr.keep fun p hp=>⟨fun o e=>hs _ o (out (pr.nw p hp).1).1 e,fun o e=>hs _ o (out (pr.nw p hp).2).1 e⟩)
 |succ k ih=>
  intro i s acc cnt m ps R hk hi kp it hn hD' ea el pr hR
  have hlt:i < items.size:=Nat.lt_of_sub_eq_succ hk
  refine codeAny_of_tree ?_
  show wpAny P.M A ((compTurn (.ListComp (.Tuple [.Name x p1,.List [] p2] kt pt) [⟨.Name x px,iter,[],0⟩] scope pos) 0 (.ref I) (.ref D) cenv).onRaise (fun x=>do noteFrame x cenv;theTreesLotGoes x)) _ _ s
  refine wpAny_noted ?_
  rw [compTurn_list]
  refine wpAny_bind (wpAny_standAt (wpAny_bind (wpAny_pyNext_list_item it ⟨_,kp _ _ nl.1 nl.2.1 nl.2.2 hl,rfl,c,rfl⟩ (Array.getElem?_eq_getElem hlt) fun ha it1 hs1=>?_)))
  have hn1:ha.Ns cenv.locals m:=hn.at fun o e=>(hs1.2 _ (Ne.symm nIL)).trans e
  refine wpAny_bind (wpAny_pure (wpAny_bind (wpAny_assign_Name (wpAny_storeName_local hkn hn1 (fun hc hn2 hs2=>wpAny_bind (wpAny_tests_nil ?_)) hp))))
  rw [if_pos rfl]
  refine wpAny_bind (wpAny_bind (wpAny_Tuple (wpAny_items_cons (wpAny_Name (wpAny_loadName_local hkd hkn hn2 (if_pos rfl) (wpAny_items_cons (wpAny_List (wpAny_items_nil ⟨zero_le _,wpAny_items_nil ⟨(show 2<=sizeLine by decide),?_⟩⟩)) rfl)) hd) rfl)))
  have k2:∀b o,b≠I->b≠cenv.locals->s.heap.get? b=some o->hc.get? b=some o:=fun b o n1 n2 e=>(hs2.2 b n2).trans ((hs1.2 b n1).trans e)
  have k4:∀b o,hc.get? b=some o->((hc.push (bO #[] 0)).push (jg #[items[i],.ref hc.objs.size] 0)).get? b=some o:=fun b o e=>Heap.get?_push_of_some _ (Heap.get?_push_of_some _ e)
  have n2:hc.get? hc.objs.size=none:=aR _
  have n3:(hc.push (bO #[] 0)).get? (hc.push (bO #[] 0)).objs.size=none:=aR _
  have d2:∀{b:Addr},hc.get? b=none->h₀.get? b=none:=fun {b} e=>by
   cases q:h₀.get? b with
   |none=>rfl
   |some o=>
    by_cases b1:b=I
    .exact (let ⟨_,z,_⟩:=it1;ay ((hs2.2 I nIL).trans z) (b1▸e)).elim
    .by_cases b2:b=cenv.locals
     .exact (let ⟨_,_,_,z,_⟩:=hn2;ay z (b2▸e)).elim
     .by_cases b3:b=D
      .exact (ay (k2 D _ (Ne.symm nID) nDL hD') (b3▸e)).elim
      .exact (ay (k2 b o b1 b2 (kp b o b1 b3 b2 q)) e).elim
  have d3:hc.get? (hc.push (bO #[] 0)).objs.size=none:=cP (fun b o e=>Heap.get?_push_of_some _ e) _ n3
  have pr2:Aw h₀ hc items ps:=pr.keep fun p hp=>⟨fun o e=>k2 _ o (out (pr.nw p hp).1).1 (out (pr.nw p hp).1).2.2 e,fun o e=>k2 _ o (out (pr.nw p hp).2).1 (out (pr.nw p hp).2).2.2 e⟩
  refine wpAny_bind (fw (k4 _ _ (k2 D _ (Ne.symm nID) nDL hD')) (wpAny_pure (wpAny_pure ⟨rfl,?_⟩)) (bD (by have:=congrArg List.length ea;rw [length_map,el,Array.length_toList] at this;lia -abstractProof)))
  have hs5:=Heap.SameBut.update ((hc.push (bO #[] 0)).push (jg #[items[i],.ref hc.objs.size] 0)) D (Obj.mapSeq fun a=>a.push (.ref (hc.push (bO #[] 0)).objs.size))
  have t1:((hc.push (bO #[] 0)).push (jg #[items[i],.ref hc.objs.size] 0)).get? (hc.push (bO #[] 0)).objs.size=some (jg #[items[i],.ref hc.objs.size] 0):=ch _
  have t2:((hc.push (bO #[] 0)).push (jg #[items[i],.ref hc.objs.size] 0)).get? hc.objs.size=some (bO #[] 0):=Heap.get?_push_of_some _ (ch _)
  have o1:=out (d2 d3)
  have o2:=out (d2 n2)
  refine ih (i+1) _ _ _ _ (ps++[((hc.push (bO #[] 0)).objs.size,hc.objs.size)]) R (vg hk) hlt (fun b o n1 n2 n3 e=>(hs5.2 b n2).trans (k4 b o (k2 b o n1 n3 (kp b o n1 n2 n3 e)))) (let ⟨o,z,r⟩:=it1;⟨o,(hs5.2 I nID).trans (k4 I o ((hs2.2 I nIL).trans z)),r⟩) (hn2.at fun o e=>(hs5.2 _ (Ne.symm nDL)).trans (k4 _ o e)) (IsL.update (k4 _ _ (k2 D _ (Ne.symm nID) nDL hD')) _) (by rw [Array.toList_push,ea,map_append];rfl) (by rw [List.length_append,el];rfl) ⟨fun p hp=>?_,?_,fun j p e=>?_⟩ fun h' tk acc' cnt' m' ps'=>hR h' tk acc' cnt' m' ps'
  .rcases ah hp with hp |hp
   .exact pr.nw p hp
   .rw [ae hp];exact ⟨d2 d3,d2 n2⟩
  .rw [map_append,nodup_append]
   refine ⟨pr.nd,pairwise_singleton _ _,fun b hb b' hb' q=>?_⟩
   obtain ⟨p,hp,rfl⟩:=aT hb
   rw [ae (show b'∈[hc.objs.size] from hb')] at q
   have:=(pr2.live p hp).2
   rw [q,n2] at this;cases this
  .by_cases q:j < ps.length
   .rw [getElem?_append_left q] at e
    have hp:=mem_of_getElem? e
    obtain ⟨v,m,h1,h2,h3⟩:=pr2.at_ j p e
    exact ⟨v,m,h1,(hs5.2 _ (out (pr.nw p hp).1).2.1).trans (k4 _ _ h2),(hs5.2 _ (out (pr.nw p hp).2).2.1).trans (k4 _ _ h3)⟩
   .rw [getElem?_append_right (dk q)] at e
    have:=(ak e).1
    rw [List.length_singleton] at this
    rw [show j - ps.length=0 by lia] at e
    cases e
    exact ⟨items[i],0,by rw [show j=i by lia -abstractProof];exact Array.getElem?_eq_getElem hlt,(hs5.2 _ o1.2.1).trans t1,(hs5.2 _ o2.2.1).trans t2⟩
end
section
variable {P:Pg} {B:b7} {C:Ct} {n i:Nat} {A:Around} {env:Env} {g g' g1:Gh} {ρ:aW} {σ:Sg} {s s' s₁:Shared} {h h':Heap} {a:Addr} {as:List Addr} {ks:List T} {ds ds1:List (List T)} {ms:List (Str×Nat)}
inductive LA (P:Pg) (h:Heap) (o:Option jO) (a:Addr):Prop
 |mk (e:jO) (us:Array Value) (m:Nat) (he:o=some e) (hg:h.get? a=some (jg us m)) (hu:us.toList=[.ref e.2.1,e.2.2]) (hk:(cj P.prog P.w).is h e.1 e.2.1)
structure LE (P:Pg) (h:Heap) (vs:List Value) (κs:List Ky) (ps:List (Addr×Addr)) (es:List jO):Prop where
 k:es.map (·.1)=κs
 v:es.map (·.2.2)=ps.map (fun p=>Value.ref p.2)
 e:vs=es.map (fun y=>Value.ref y.2.1)
 a:∀(i:Nat) p,ps[i]?=some p->LA P h es[i]? p.1
theorem sR:∀(ks:List T) (vs:List Value) (κs:List Ky) (ps:List (Addr×Addr)),bm P g h ks vs->gE ks=some κs->ps.length=vs.length->(∀(i:Nat) p v,ps[i]?=some p->vs[i]?=some v->∃m,h.get? p.1=some (jg #[v,.ref p.2] m))->
  ∃es:List jO,LE P h vs κs ps es
 | [],vs,κs,ps,r,e,l,_=>by
  cases r;cases e
  cases List.length_eq_zero_iff.mp l
  exact ⟨[],rfl,rfl,rfl,fun i p q=>by cases q⟩
 |t::ks,_,κs,ps,⟨v,vs,e0,q,r⟩,e,l,c=>by
  subst e0
  obtain ⟨κ,κs',e1,e2,e3⟩:=bn (show o2 (yZ t) (gE ks) _=some κs from e)
  cases e3
  cases ps with
  |nil=>cases l
  |cons p ps=>
   obtain ⟨ad,rfl,hi,_⟩:=n9 e1 (.inl q)
   obtain ⟨m,hm⟩:=c 0 p _ rfl rfl
   obtain ⟨es,h1,h2,h3,h4⟩:=sR ks vs κs' ps r e2 (Nat.succ.inj l) fun i p v q1 q2=>c (i+1) p v q1 q2
   refine ⟨(κ,ad,.ref p.2)::es,by rw [map_cons,h1],by rw [map_cons,h2];rfl,by rw [map_cons,<-h3],fun j p' hj=>?_⟩
   cases j with
   |zero=>cases hj;exact ⟨_,_,m,rfl,hm,rfl,hi⟩
   |succ j=>exact h4 j p' hj
theorem qa:∀{ks us:List T},fM ks us=true->∃κs,gE ks=some κs
 | [],_,_=>⟨[],rfl⟩
 |k::ks,us,e=>by
  rw [oh] at e
  match q:mn us k with
  |some none=>
   rw [q] at e
   obtain ⟨κ,hk⟩:=lr q
   obtain ⟨κs,h⟩:=qa (ks:=ks) e
   exact ⟨κ::κs,by show o2 (yZ k) (gE ks) _=_;rw [hk,h];rfl⟩
  |some (some _)=>rw [q] at e;cases e
  |none=>rw [q] at e;cases e
theorem ou:∀(ks us:List T) (xs es:List jO),fM ks us=true->gE us=some (xs.map (·.1))->gE ks=some (es.map (·.1))->oy es xs=xs++es
 | [],us,xs,es,_,_,e=>by
  cases es with
  |nil=>rw [append_nil];rfl
  |cons=>cases e
 |k::ks,us,xs,es,hf,hu,e=>by
  obtain ⟨κ,κs,e1,e2,e3⟩:=bn (show o2 (yZ k) (gE ks) _=some (es.map (·.1)) from e)
  cases es with
  |nil=>cases e3
  |cons x es=>
   have e3:=Option.some.inj e3
   obtain ⟨rfl,e4⟩:=List.cons.inj e3
   rw [oh] at hf
   match q:mn us k with
   |some none=>
    rw [q] at hf
    have at0:atKey xs x.1=none:=by rw [oP,kN hu q e1];rfl
    have st:storedH xs x.1 x.2.1 x.2.2=xs++[x]:=storedH_new at0 _ _
    have:=ou ks (us++[k]) (xs++[x]) es hf (by rw [map_append];exact uN hu e1) (by rw [e2,e4])
    show oy es (storedH xs x.1 x.2.1 x.2.2)=_
    rw [st,this,List.append_assoc];rfl
   |some (some _)=>rw [q] at hf;cases hf
   |none=>rw [q] at hf;cases hf
theorem xw.new {acc items:Array Value}{cnt:Nat}{D:Addr}{ps:List (Addr×Addr)}{Q:Value->Shared->Prop}{E:Value->Shared->Prop}(G:t3 P)(rm:Rm A)(w:bN P g s₁.heap σ)(r:bm P g s₁.heap ks items.toList)(hl:ks.length<=lim)(hf:fM ks []=true)(hD:s₁.heap.get? D=some (bO acc cnt))(ea:acc.toList=ps.map fun p=>Value.ref p.1)(el:ps.length=items.size)(pr:Aw h s₁.heap items ps)
  (hn:∀p∈ps,¬g.F p.2/\¬g.Z p.2)(ho:∀b,h.get? b=none->¬g.O b/\b∉own env)(hw:∀b∈own env,s₁.heap.get? b≠none)
  (hq:∀S s',aQ g s₁ g s'->bN P g s'.heap σ->xw P env g s'.heap S (ps.map (·.2)) ks (ks.map fun _=>[])->s₁.heap.get? S=none->Q (.ref S) s'):wpAny P.M A (call (.type "dict") [.ref D]) Q E s₁:=by
 obtain ⟨κs,hk⟩:=qa hf
 obtain ⟨es,h1,h2,h3,h4⟩:=sR ks _ κs ps r hk (by rw [el];rfl) fun i p v q1 q2=>by
  obtain ⟨v',m,z1,z2,_⟩:=pr.at_ i p q1
  rw [Array.getElem?_toList,z1] at q2
  cases q2;exact ⟨m,z2⟩
 have hz:acc.size=ps.length:=by have:=congrArg List.length ea;rw [length_map] at this;exact this
 have le:es.length=ps.length:=by have:=congrArg List.length h2;rw [length_map,length_map] at this;exact this
 have li:=r.length
 refine ic (es:=es) (by have:=rm.units;lia -abstractProof) rm.handled hD (by rw [le,hz]) (by rw [hz,el];rw [Array.length_toList] at li;rw [li];exact hl) (fun i v hv=>?_) fun h' tk dd kp=>?_
 .rw [<-Array.getElem?_toList,ea,getElem?_map] at hv
  obtain ⟨p,hp,rfl⟩:=ax hv
  obtain ⟨e,us,m,z1,z2,z3,z4⟩:=h4 i p hp
  exact ⟨p.1,e,us,m,rfl,z1,z2,z3,z4⟩
 have ef:=ou ks [] [] es hf rfl (by rw [h1];exact hk)
 rw [List.nil_append] at ef
 rw [ef] at dd
 obtain ⟨o,es',ep,e,x,d,q1,q3,q4⟩:=dd
 have pp:aQ g s₁ g {s₁ with heap:=h',toks:=tk}:=.grow tk kp g.F (fun _ f=>f) fun _ f=>.inl f
 have dn:=aR s₁.heap
 have lps:∀b∈ps.map (·.2),s₁.heap.get? b=some (bO #[] 0)/\h.get? b=none/\¬g.F b/\¬g.Z b:=fun b hb=>by
  obtain ⟨p,hp,rfl⟩:=aT hb
  exact ⟨(pr.live p hp).2,(pr.nw p hp).2,hn p hp⟩
 refine hq _ _ pp (w.grow kp g.F (fun _ f=>f) fun _ f=>.inl f) ⟨qv G w,o,es'.toList,e,⟨x,⟨ep,d⟩,⟨κs,hk,?_,?_⟩,hl⟩,?_,?_,pr.nd,fun q=>?_,fun b hb=>?_,?_,fun i b ts b1 b2=>?_⟩ dn
 .rw [q1,map_map,<-h1,map_map];rfl
 .rw [<-h1];exact q4
 .rw [q1,map_map]
  show bm P g h' ks (es.map fun y=>Value.ref y.2.1)
  rw [<-h3];exact r.mono (pp.k w)
 .rw [q1,map_map,map_map]
  exact h2
 .have:=(lps _ q).1
  rw [dn] at this;cases this
 .rcases az hb with rfl |hb
  .obtain ⟨z1,z2,z3⟩:=eB w
   exact ⟨z1,z2,z3,fun q=>hw _ q dn⟩
  .obtain ⟨_,z1,z2,z3⟩:=lps b hb
   exact ⟨z2,z3,(ho b z1).1,(ho b z1).2⟩
 .rw [length_map,length_map,el];rw [Array.length_toList] at li;exact li
 .rw [getElem?_map] at b2
  obtain ⟨_,_,rfl⟩:=ax b2
  exact ⟨#[],0,kp _ _ (lps b (mem_of_getElem? b1)).1,zero_le _,rfl⟩
end
noncomputable def IM (scope:Scope)(x:Str):Bool:=scope.kind==.function&&(scope.names.all (fun x=>!(x.2==.local)||scope.names.lookup x.1==some .local)&&(scope.names.all (fun x=>!(x.2==.cell)&&!(x.2==.free))&&((scope.names.lookup x==some .local)&&!(x==("__debug__":Str)))))
section
variable {P:Pg} {B:b7} {C C':Ct} {n i:Nat} {A:Around} {env:Env} {g g' g1:Gh} {ρ:aW} {σ:Sg} {s s' s₁:Shared} {h h':Heap} {a:Addr} {as:List Addr} {ks:List T} {ds ds1:List (List T)} {ms:List (Str×Nat)}
theorem tP {c j:Nat}{w t:T}(e0:bV ρ 0=some w)(hk:kO c j w=some t):p1 (kO c j) (pV 0) (P.cx n) ρ σ (fun t σ=>.ret t σ)=.ret t σ:=by
 show up (bV ρ 0) σ (fun a σ=>up (kO c j a) σ fun t σ=>.ret t σ)=_
 rw [e0]
 show up (kO c j w) σ _=_
 rw [hk];rfl
theorem yS {x wn:Str}{k0:NameKind}{px p1 p2 pt ap np pos:Pos}{kt:Nat}{scope:Scope}{w:T}{Q:Value->Shared->Prop}{E:Value->Shared->Prop}(O:bP P 10 ms)(hB:IM scope x=true)(hv0:k9 C 0=true)(ht0:B.tab[0]?=some (some (wn,k0)))(X:At P B C n A env g ρ σ s)(e0:bV ρ 0=some w)(hk:kO 10 4 w=some (.lst ks))
  (hq:∀D acc cnt items ps s' g',aQ g s g' s'->bN P g' s'.heap σ->bm P g' s'.heap ks (items:Array Value).toList->ks.length<=lim->s'.heap.get? D=some (bO acc cnt)->acc.toList=ps.map (fun p:Addr×Addr=>Value.ref p.1)->ps.length=items.size->Aw s.heap s'.heap items ps->(∀p∈ps,¬g'.F p.2/\¬g'.Z p.2)->Q (.ref D) s'):
  wpAny P.M A (eval (.ListComp (.Tuple [.Name x p1,.List [] p2] kt pt) [⟨.Name x px,.Attribute (.Name wn np) (ofString "knots") ap,[],0⟩] scope pos) env) Q E s:=by
 obtain ⟨b1,hB⟩:=ai hB
 obtain ⟨b2,hB⟩:=ai hB
 obtain ⟨b3,hB⟩:=ai hB
 obtain ⟨b4,b5⟩:=ai hB
 have b3:=fun y hy=>ai (aI b3 y hy)
 have hkind:scope.kind=.function:=eq_of_beq b1
 have hx:scope.names.lookup x=some .local:=eq_of_beq b4
 rw [eval_ListComp]
 refine wpAny_comprehension_free (use:=none) rfl (fun _=>rfl) (jE (env:=env) fun y hy=>?_) hkind (fun y hy e=>?_) ?_
 .have:=(b3 _ hy).2;cases this
 .have:=aI b2 y hy
  rw [e] at this;exact eq_of_beq this
 have hp:=tP (P:=P) (n:=n) (σ:=σ) e0 hk
 refine av.attr O rfl (fun _=>rfl) (fun _ _=>rfl) (av.var hv0 ht0) n A env g ρ σ s (fun t σ=>.ret t σ) _ _ X (by rw [hp];exact fun q=>by cases q) fun u s₁ g1 t σ₁ e1 pa w1 r1=>?_
 rw [hp] at e1;cases e1
 obtain ⟨l,rfl,fl,items,c,c1,c3,c2⟩:=r1
 refine wpAny_pyIter_list ⟨_,c1,rfl,c,rfl⟩ (wpAny_newList (wpAny_newFunctionEnv (fun y hy e=>?_) (fun y hy=>by cases hy) (fun h5 hn5 hsb5=>?_) hkind))
 .have:=(b3 y hy).1;rw [e] at this;cases this
 dsimp only at hn5 hsb5 ⊢
 have nI:s₁.heap.get? s₁.heap.objs.size=none:=aR _
 have tI:=ch (h:=s₁.heap) (wY "list_iterator" l)
 have k3:∀b o,s₁.heap.get? b=some o->(s₁.heap.push (wY "list_iterator" l)).get? b=some o:=cw s₁ _
 show codeAny _ _ _ _ _
 generalize s₁.heap.push (wY "list_iterator" l)=h3 at *
 have nD:h3.get? h3.objs.size=none:=aR _
 have tD:=ch (h:=h3) (bO #[] 0)
 have k4:∀b o,h3.get? b=some o->(h3.push (bO #[] 0)).get? b=some o:=fun b o e=>Heap.get?_push_of_some _ e
 have hsb5:Heap.SameBut (h3.push (bO #[] 0)).objs.size ((h3.push (bO #[] 0)).push {cls:=.type "dict",data:=.dict #[]}) h5:=hsb5
 have hn5:h5.Ns (h3.push (bO #[] 0)).objs.size (fun _=>none):=hn5
 have nL:(h3.push (bO #[] 0)).get? (h3.push (bO #[] 0)).objs.size=none:=aR _
 generalize h3.push (bO #[] 0)=h4 at *
 have k5:∀b o,h4.get? b=some o->h5.get? b=some o:=fun b o e=>(hsb5.2 b fun q=>ay e (q▸nL)).trans (Heap.get?_push_of_some _ e)
 generalize h4.objs.size=L at *
 generalize h3.objs.size=D at *
 generalize s₁.heap.objs.size=I at *
 have eI:=k5 _ _ (k4 _ _ tI)
 have eD:=k5 _ _ tD
 have k1:∀b o,s₁.heap.get? b=some o->h5.get? b=some o:=fun b o e=>k5 b o (k4 b o (k3 b o e))
 have nID:I≠D:=fun q=>ay tI (q▸nD)
 have nIL:I≠L:=fun q=>ay (k4 _ _ tI) (q▸nL)
 have nDL:D≠L:=fun q=>ay tD (q▸nL)
 have nD1:s₁.heap.get? D=none:=cP k3 _ nD
 have nL1:s₁.heap.get? L=none:=cP k3 _ (cP k4 _ nL)
 have ne1:∀{b:Addr} {o:Obj},s₁.heap.get? b=some o->b≠I/\b≠D/\b≠L:=fun e=>⟨fun q=>ay e (q▸nI),fun q=>ay e (q▸nD1),fun q=>ay e (q▸nL1)⟩
 have lL:h5.get? L≠none:=let ⟨_,_,_,z,_⟩:=hn5;ay z
 have hkn:(compEnvC scope (fq env scope.names []) L env).kindOf x=some .local:=lookup_relabel_local hx
 have loop:codeAny P.M A (.compLoop (.ListComp (.Tuple [.Name x p1,.List [] p2] kt pt) [⟨.Name x px,.Attribute (.Name wn np) (ofString "knots") ap,[],0⟩] scope pos) 0 (.ref I) (.ref D) (compEnvC scope (fq env scope.names []) L env)) (compPost P.M A E none Q (.ref D) L) {s₁ with heap:=h5,toks:=s₁.toks+([]:List (Str×Value)).length}:=by
  refine Br (h₀:=h5) X.room.2.2 hkind hkn ((not_eq_true' _).mp b5) (by have:=c2.length;rw [Array.length_toList] at this;rw [this];exact c3) (ay eI) (ay eD) lL nID nIL nDL (k1 _ _ c1) (ne1 c1) _ 0 _ #[] 0 _ [] _ rfl (zero_le _) (fun b o _ _ _ e=>e) ⟨_,eI,rfl,rfl⟩ hn5 eD rfl rfl ⟨(fun p hp=>by cases hp),.nil,fun i p e=>by cases e⟩ fun h' tk acc' cnt' m' ps' kp hn' hD' ea el pr=>⟨m',hn',fun h7 hs7=>?_⟩
  have k7:∀b o,s₁.heap.get? b=some o->h7.get? b=some o:=fun b o e=>(hs7.2 b (ne1 e).2.2).trans (kp b o (ne1 e).1 (ne1 e).2.1 (ne1 e).2.2 (k1 b o e))
  have p7:aQ g1 s₁ g1 {s₁ with heap:=h7,toks:=tk}:=.grow tk k7 g1.F (fun _ f=>f) fun _ f=>.inl f
  have d1:∀{b:Addr},h5.get? b=none->s₁.heap.get? b=none:=fun e=>cP k1 _ e
  refine hq D acc' cnt' items ps' _ g1 (pa.trans p7) (w1.grow k7 g1.F (fun _ f=>f) fun _ f=>.inl f) (c2.mono (p7.k w1)) c3 ((hs7.2 D nDL).trans hD') ea el ⟨fun p hp=>⟨pa.back _ (d1 (pr.nw p hp).1),pa.back _ (d1 (pr.nw p hp).2)⟩,pr.nd,fun i p e=>?_⟩ fun p hp=>⟨fun f=>w1.F _ f (d1 (pr.nw p hp).2),fun z=>(w1.Z _ z).1 (d1 (pr.nw p hp).2)⟩
  have hp:=mem_of_getElem? e
  obtain ⟨v,m,q1,q2,q3⟩:=pr.at_ i p e
  exact ⟨v,m,q1,(hs7.2 _ fun q=>lL (q▸(pr.nw p hp).1)).trans q2,(hs7.2 _ fun q=>lL (q▸(pr.nw p hp).2)).trans q3⟩
 exact codeAny_compStart_list loop (wpAny_pyIter_listiter ⟨_,eI,rfl,rfl⟩ loop)
theorem At.one {w:T}(X:At P B C n A env g ρ σ s)(e0:bV ρ 0=some w)(h0:0∉C.U):At P B C n A env g [some w,none,none,none] σ s:=
 have k:∀{i:Nat} {t:T},bV [some w,none,none,none] i=some t->i=0/\t=w:=fun {i t} e=>by
  match i,e with
  | 0,e=>cases e;exact ⟨rfl,rfl⟩
  | 1,e=>cases e
  | 2,e=>cases e
  | 3,e=>cases e
  |_+4,e=>cases e
 ⟨X.good,X.call,X.room,{X.env with
  var:=fun i y t ht hv=>let ⟨h1,h2⟩:=k hv;X.env.var i y t ht (by rw [h1,h2];exact e0)
  un:=fun i hi=>by
   cases e:bV [some w,none,none,none] i with
   |none=>rfl
   |some t=>exact (h0 ((k e).1▸hi)).elim},X.g⟩
theorem bN.freezeL {l:List Addr}(w:bN P g h σ)(hl:∀b∈l,h.get? b≠none/\¬g.Z b/\¬g.O b):bN P {g with F:=fun y=>g.F y\/y∈l} h σ:=by
 have kf:aZ g h {g with F:=fun y=>g.F y\/y∈l} h:=⟨fun b f=>⟨.inl f,fun _ e=>e⟩,rfl⟩
 exact ⟨fun b o e=>⟨.inl (w.base b o e).1,(w.base b o e).2⟩,fun b f=>f.elim (w.F b) fun q=>(hl b q).1,fun b q=>⟨(w.Z b q).1,fun f=>f.elim (w.Z b q).2 fun e=>(hl b e).2.1 q⟩,
  fun b q=>⟨(w.O b q).1,fun f=>f.elim (w.O b q).2.1 fun e=>(hl b e).2.2 q,(w.O b q).2.2⟩,w.oo,w.spot,fun c ts e=>(w.self c ts e).mono kf (fun _ q=>⟨q,fun _ e=>e⟩) rfl⟩
theorem xw.rp (L:xw P env g h a as ks ds):Rp P {g with F:=fun y=>g.F y\/y∈a::as} h (.dct ks (ds.map .lst)) (.ref a):=by
 have kf:aZ g h {g with F:=fun y=>g.F y\/y∈a::as} h:=⟨fun b f=>⟨.inl f,fun _ e=>e⟩,rfl⟩
 obtain ⟨q,o,es,e,d,r,v,nd,na,lm,l,c⟩:=L
 refine ⟨a,rfl,.inr mem_cons_self,q,o,es,e,d,r.mono kf,?_⟩
 rw [v]
 refine bm.of (by rw [length_map,length_map];exact l) fun i u t h1 h2=>?_
 rw [getElem?_map] at h1 h2
 obtain ⟨x,hx,rfl⟩:=ax h1
 obtain ⟨ts,ht,rfl⟩:=ax h2
 exact ((c i x ts hx ht).mono kf fun _ e=>e).rp (.inr (mem_cons_of_mem _ (mem_of_getElem? hx)))
theorem DP {wn fo kn' ot x:Str}{k0 k1 k2 k3:NameKind}{q1 q2 q3 q4 px p1 p2 pt ap np cpos tp np2 ap2 fpos tp2 np3 ap3 sp3 kp3 fpos2 f1 f2 f3 fs fa fc fe rp rr:Pos}{kt:Nat}{scope:Scope}(O:bP P 10 ms)(hB:IM scope x=true)(h0:C.U.all (fun i=>Nat.ble 1 i)=true)(hv:(k9 C 0&&(k9 C 2&&k9 C 3))=true)(hc:(cQ C 1 false C&&(cQ C 2 false C&&cQ C 3 false C))=true)
  (ht0:B.tab[0]?=some (some (wn,k0)))(ht1:B.tab[1]?=some (some (fo,k1)))(ht2:B.tab[2]?=some (some (kn',k2)))(ht3:B.tab[3]?=some (some (ot,k3)))(hk1:k1=.local\/k1=.cell)(hk2:k2=.local\/k2=.cell)(hk3:k3=.local\/k3=.cell)
  (hx:B.sc.names.lookup (ofString "dict")=some .globalImplicit)(hw1:xA (.Call (.Name (ofString "dict") q2) [.ListComp (.Tuple [.Name x p1,.List [] p2] kt pt) [⟨.Name x px,.Attribute (.Name wn np) (ofString "knots") ap,[],0⟩] scope cpos] [] q3) fo q1 q4.line B.sc=false)
  (hbase:∀env,attributeBase (.Subscript (.Name fo f1) (.Name ot f2) fs) (ofString "append") env (eval (.Subscript (.Name fo f1) (.Name ot f2) fs) env)=eval (.Subscript (.Name fo f1) (.Name ot f2) fs) env)(hline:(fa.endLine==fc.line)=true)
  (hw:∀env,swapsWith (.Call (.Attribute (.Subscript (.Name fo f1) (.Name ot f2) fs) (ofString "append") fa) [.Name kn' f3] [] fc) none fe.line env=pure false):
  iX P B C false C' [.Assign [.Name fo q1] (.Call (.Name (ofString "dict") q2) [.ListComp (.Tuple [.Name x p1,.List [] p2] kt pt) [⟨.Name x px,.Attribute (.Name wn np) (ofString "knots") ap,[],0⟩] scope cpos] [] q3) q4,
   .For (.Name kn' tp) (.Attribute (.Name wn np2) (ofString "knots") ap2) [.For (.Name ot tp2) (.Subscript (.Attribute (.Name wn np3) (ofString "threads") ap3) (.Name kn' kp3) sp3) [.Expr (.Call (.Attribute (.Subscript (.Name fo f1) (.Name ot f2) fs) (ofString "append") fa) [.Name kn' f3] [] fc) fe] [] fpos2] [] fpos,
   .Return (some (.Name fo rp)) rr] rQ:=fun n A env g ρ σ s k Q E X hb hq hr=>by
 obtain ⟨hv0,hv⟩:=ai hv
 obtain ⟨hv2,hv3⟩:=ai hv
 obtain ⟨hc1,hc⟩:=ai hc
 obtain ⟨hc2,hc3⟩:=ai hc
 unfold rQ at hb hr
 cases e0:bV ρ 0 with
 |none=>rw [e0] at hb;exact absurd rfl hb
 |some w=>
  cases el:sS w with
  |none=>simp only [e0,el] at hb;exact absurd rfl hb
  |some t=>
   simp only [e0,el] at hr
   obtain ⟨kl,a1,a2⟩:=aD el
   obtain ⟨ks,a3,a4⟩:=aD a2
   obtain ⟨th,a5,a6⟩:=aD a4
   obtain ⟨a7,a8⟩:=rG a6
   obtain ⟨ds,a9,a10⟩:=aD a8
   cases a10
   cases fT a3
   obtain ⟨_,hf⟩:=ai a7
   rw [pX] at a9
   have X:=X.one e0 fun q=>by cases le_of_ble_eq_true (aI h0 0 q)
   refine wpAny_execs_cons (wpAny_Assign_Name (Call_Name rfl (X.blt hx (by decide) (by decide) (v:=.type "dict") (by decide) (bH (fun _ q=>by cases q) (cc fun q hq=>?_) (wpAny_items_cons (yS O hB hv0 ht0 X rfl a1 fun D acc cnt items ps s₁ g1 pa w1 r1 l1 hD ea eq pr hn=>wpAny_items_nil ?_) rfl)))) (by rw [lc X.env.sc,hw1]))
   .cases hq with
    |head=>rfl
    |tail _ h=>cases h
   refine xw.new (env:=env) X.good X.rm w1 r1 l1 hf hD ea eq pr hn (fun b hb=>⟨fun ⟨i,q⟩=>(X.g.O b ⟨i,pa.o▸q⟩).1 hb,fun q=>(X.env.own b q).1 hb⟩) (fun b hb=>pa.live (X.env.own b hb).1) fun S s2 pb w2 L nS=>?_
   have p02:=pa.trans pb
   refine pK (o:=none) (X.post p02 w2) (fg hc1).1.nu ht1 hk1 (fun _ e=>nomatch e) fun s3 p3 X3 va _=>?_
   have p3:cf [] (own env) g1 s2 g1 s3:=p3.weak (fun _ h=>h) dN
   have v3:=L.vol.post L.live p3.toS
   have Y:dJ P B C n A env σ S (ps.map (·.2)) ks g1 [some w,none,none,none] s3 (ks.map fun _=>[]):=⟨X3,va,L.keep (p3.toS.k w2 fun b hb=>((X.post p02 w2).env.own b hb).2.1) v3.2 v3.1⟩
   have p03:be [] (own env) g s g1 s3:=p02.toS.trans p3.toS
   refine wpAny_execs_cons (vL (i:=2) (f:=ID ks th) (K:=fun ρ=>bV ρ 0=some w/\ρ.length=4) (fun _ _=>rfl) (av.attr O rfl (fun _=>rfl) (fun _ _=>rfl) (av.var hv0 ht0)) hc2 ht2 hk2 (by decide) (fun ρ t h=>⟨⟨(qL (by decide)).trans h.1,by rw [length_set];exact h.2⟩,uy (by rw [h.2];decide)⟩) (fun t g ρ s ds ds1 Q E e Y kr et hq=>?_) Y ⟨rfl,rfl⟩ (tP rfl a1) a9 fun s5 g5 ρ₅ q Y5 ka=>?_)
   .obtain ⟨lv,f1,f2⟩:=aD e
    obtain ⟨os,f3,f4⟩:=aD f2
    cases fT f3
    rw [pY] at f4
    refine wpAny_execs_cons (vL (i:=3) (f:=G6 ks t) (K:=fun ρ=>(bV ρ 0=some w/\ρ.length=4)/\bV ρ 2=some t) (fun _ _=>rfl) (av.idxD (fun _ _=>rfl) (ee.vx (av.attr O (i:=6) rfl (fun _=>rfl) (fun _ _=>rfl) (av.var hv0 ht0))) (ee.vx (av.var hv2 ht2))) hc3 ht3 hk3 (by decide) (fun ρ t h=>⟨⟨⟨(qL (by decide)).trans h.1.1,by rw [length_set];exact h.1.2⟩,(qL (by decide)).trans h.2⟩,uy (by rw [h.1.2];decide)⟩) (fun o g ρ s ds ds1 Q E e Y kr eo hq=>?_) Y ⟨kr,et⟩ (ts:=os) ?_ f4 fun s' g' ρ' q Y' k'=>wpAny_execs_nil (hq s' g' ρ' q Y' k'.1))
    .exact wpAny_execs_cons (yR ht1 ht2 ht3 hv2 hv3 hbase hline (fun _=>rfl) hw Y kr.2 eo e fun s' q Y'=>wpAny_execs_nil (hq s' g ρ q Y' kr))
    .show up (bV ρ 0) σ (fun a σ=>up (kO 10 6 a) σ fun t σ=>up (bV ρ 2) σ fun b σ=>up (idxD t b) σ fun t σ=>.ret t σ)=_
     simp only [kr.1,up,a5,et,f1]
   .have dd:∀b∈S::ps.map (·.2),s.heap.get? b=none:=fun b hb=>by
     rcases az hb with rfl |hb
     .exact pa.back _ nS
     .obtain ⟨p,hp,rfl⟩:=aT hb
      exact (pr.nw p hp).2
    have wF:=Y5.X.g.freezeL (l:=S::ps.map (·.2)) fun b hb=>⟨Y5.L.live b hb,(Y5.L.vol b hb).2.1,(Y5.L.vol b hb).2.2.1⟩
    refine wpAny_execs_cons (wpAny_Return_some (bJ Y5.X ht1 Y5.va (hr _ s5 _ _ σ rfl ?_ wF Y5.L.rp)))
    exact ⟨St.trans p03.st q.st,fun b o e z o' w=>q.keep b o (p03.keep b o e z o' w) (fun x=>(p03.Zn b x).elim z (ay e)) (fun x=>(p03.On b x).elim o' (ay e)) fun x=>(ah x).elim (fun x=>ay e (dd b (mem_cons_of_mem _ x))) w,fun b _ e=>p03.b b (q.b b e),fun b f=>.inl (q.F b (p03.F b f)),
     fun b f=>f.elim (fun f=>(q.Fn b f).elim (p03.Fn b) fun x=>.inr (x.elim (p03.On b) fun x=>.inr (p03.b b x))) fun x=>.inr (.inr (dd b x)),fun b f=>(q.Zn b f).elim (p03.Zn b) fun x=>.inr (p03.b b x),fun b f=>(q.On b f).elim (p03.On b) fun x=>.inr (p03.b b x),q.sp.trans p03.sp,q.sa.trans p03.sa⟩
end
end
end Mine
namespace Mine
noncomputable section
open PySem PyProof.Rows PySem.SeqAt MeetsSeq MeetsSeq2 MeetsSeq3 SeqRoads2
section
variable {P:Pg} {B:b7} {C:Ct} {g:Gh} {h:Heap}
theorem BD:xE .list (ofString "count") "list.count":=⟨F.slot_list_count,F.type_list_count⟩
theorem zG:rJ P (EY P "list.count") lB (RV P):=fun A env g σ s x x' t t' y Q E rm w q q' e hq=>by
 obtain ⟨xs,e1,e2⟩:=aD e
 obtain ⟨d,ds,h1,h2,e3⟩:=bn e2
 cases e3
 obtain ⟨l,rfl,vs,n,a1,a3,a2⟩:=q.ls e1
 obtain ⟨⟨as,r1⟩,c1,l1⟩:=cL cB t' x' d h1 q'
 obtain ⟨⟨bs,r2⟩,c2,l2⟩:=ej (fun t x d e r=>cL cB t x d e (.inl r)) xs _ ds h2 a2
 have hmap:=readsAll_map ds vs.toList bs c2 r2
 refine call_meets F.slot_list_count ⟨_,a1,rfl⟩ F.entry_list_count (F.args_list_count_2 _ _) (list_countAt l vs n Option.none #[] x' (fun v=>PyData.eqv (readOf s.heap v) d)) ⟨a1,items_eqAt r2 r1 c2 c1 (lt_of_le_of_lt (by lia -abstractProof) (oz (b:=d.depth) rm l2)),?_⟩
 rw [show vs.toList.countP (fun v=>PyData.eqv (readOf s.heap v) d)=ds.countP (fun y=>PyData.eqv y d) by rw [<-hmap,List.countP_map];rfl]
 exact dg w hq
theorem py (l:Addr)(items:Array Value)(n:Nat)(dd:Option Addr)(sl:Array (Option Value))(x:Value)(e:Value->Bool)(i j:Nat)(tk:Tok)(hij:i<=j)(hj:j < items.size)(hsmall:(j:Int) < 2 ^ 63 - 1)
  (hit:e items[j]=true)(hno:∀m (hm:m < items.size),i<=m->m < j->e items[m]=false):
  Meets (Builtin.«list.index» ⟨[.ref l,x,.int i tk],[]⟩)
   (fun A R s=>s.heap.get? l=some {cls:=.type "list",dict:=dd,data:=.seq items n,slots:=sl}/\(∀y,y∈items->EqAt A.in1 s y x (e y))/\R (.ok (.ret (.int j s.toks))) {s with toks:=s.toks+1}):=by
 intro prog w A R s h
 obtain ⟨hp,g,d,tk,os⟩:=s;obtain ⟨hl,he,h⟩:=h
 wp_walk using wpAny_loadPart' hl
 have a1:((fun i:Int=>if i < 0 then max 0 (i+(items.size:Int)) else i) ((some (i:Int)).getD 0))=((i:Nat):Int):=if_neg (not_lt.mpr (natCast_nonneg i))
 have a2:((fun i:Int=>if i < 0 then max 0 (i+(items.size:Int)) else i) ((none:Option Int).getD (2 ^ 63 - 1)))=2 ^ 63 - 1:=rfl
 rw [a1,a2]
 exact ⟨plainId_quiet plain_index_loop _,codeAny_builtin entry_index_loop (by
  rw [Around.under_plainId plain_index_loop _]
  exact index_loopAt l items n dd sl x e (2 ^ 63 - 1) j hj hsmall hit _ i rfl hij hno prog w A R _ ⟨hl,he,h⟩)⟩
theorem DN {A:Around}{env:Env}{s:Shared}{o e f:Expr}{name:Str}{apos pos:Pos}{id:String}{K:MK}{Q:Value->Shared->Prop}{E:Value->Shared->Prop}(i:xE K name id)(hbase:∀env,attributeBase o name env (eval o env)=eval o env)(hline:(apos.endLine==pos.line)=true)(htrees:∀env,backTo pos (starEach [e,f] env)=[(false,eval e env),(false,eval f env)])
  (h:wpAny P.M A (eval o env) (fun x s₁=>EW K s₁ x/\wpAny P.M A (eval e env) (fun y s2=>wpAny P.M A (eval f env) (fun z s3=>wpAny P.M A (PySem.call (.builtin id) [x,y,z]) Q E s3) E s2) E s₁) E s):wpAny P.M A (eval (.Call (.Attribute o name apos) [e,f] [] pos) env) Q E s:=
 wpAny_Call_method2_late (hbase env) hline (htrees env) (wpAny_mono h (fun x s₁ ⟨k,ha⟩=>⟨K.id,id,K.plain,i.slot,i.ty,k.1,k.2,bH (fun _ q=>by cases q) (fun p hp=>by
  rcases az hp with rfl |hp
  .rfl
  .rw [ae hp]) (Calls.spliced_cons (wpAny_mono ha (fun _ _ hc=>Calls.spliced_cons (wpAny_mono hc (fun _ _ hd=>Calls.spliced_nil hd) fun _ _ h=>h)) fun _ _ h=>h))⟩) fun _ _ h=>h)
theorem B7 {α:Type}{b:Bool}{x:Option α}{y:α}(h:(bif b then x else none)=some y):b=true/\x=some y:=by
 cases b
 .cases h
 .exact ⟨rfl,h⟩
theorem w7 {A:Around}{σ:Sg}{s:Shared}{x x' x'':Value}{t t' t'' y:T}{Q:Value->Shared->Prop}{E:Value->Shared->Prop}(rm:Rm A)(w:bN P g s.heap σ)(q:fU P g s.heap t x)(q':fU P g s.heap t' x')(q'':fU P g s.heap t'' x'')(e:gW t t' t''=some y)
  (hq:∀u s' g',aQ g s g' s'->bN P g' s'.heap σ->RV P s.heap g' s'.heap y u->Q u s'):wpAny P.M A (PySem.call (.builtin "list.index") [x,x',x'']) Q E s:=by
 obtain ⟨xs,i,e1,ei,e2⟩:=bn e
 obtain ⟨hb,e2⟩:=B7 e2
 obtain ⟨d,ds,h1,h2,e3⟩:=bn e2
 obtain ⟨j,h3,e4⟩:=aD e3
 cases e4
 obtain ⟨i,rfl⟩:∃k:Nat,i=(k:Int):=⟨i.toNat,(Int.toNat_of_nonneg (of_decide_eq_true (df hb))).symm⟩
 obtain ⟨tk,rfl⟩:=q''.i ei
 obtain ⟨l,rfl,vs,n,a1,a3,a2⟩:=q.ls e1
 obtain ⟨⟨as,r1⟩,c1,l1⟩:=cL cB t' x' d h1 q'
 obtain ⟨⟨bs,r2⟩,c2,l2⟩:=ej (fun t x d e r=>cL cB t x d e (.inl r)) xs _ ds h2 a2
 have hmap:=readsAll_map ds vs.toList bs c2 r2
 rw [Int.toNat_natCast] at h3
 obtain ⟨hj,hj1,hj2⟩:=List.findIdx?_eq_some_iff_getElem.mp h3
 have hlen:ds.length=vs.size:=by rw [<-hmap,length_map];rfl
 have at':∀(k:Nat) (h:k < vs.size) (h':k < ds.length),readOf s.heap vs[k]=ds[k]:=fun k h h'=>by
  have:ds[k]=(vs.toList.map (readOf s.heap))[k]'(by rw [length_map];exact h):=by simp only [hmap]
  rw [this,List.getElem_map];rfl
 have hij:i+j < ds.length:=by rw [length_drop] at hj;exact Nat.add_lt_of_lt_sub' hj
 refine call_meets F.slot_list_index ⟨_,a1,rfl⟩ F.entry_list_index (F.args_list_index_3 _ _ _)
  (py l vs n Option.none #[] x' (fun v=>PyData.eqv (readOf s.heap v) d) i (i+j) tk (le_add_right _ _) (hlen▸hij) (by have:=a2.size;have:lim=1000000:=rfl;lia -abstractProof) (by rw [at' (i+j) (hlen▸hij) hij,<-List.getElem_drop (h:=hj)];exact hj1) fun k hk hik hkj=>?_)
  ⟨a1,items_eqAt r2 r1 c2 c1 (lt_of_le_of_lt (by lia -abstractProof) (oz (b:=d.depth) rm l2)),?_⟩
 .have:=hj2 (k - i) (by lia)
  rw [List.getElem_drop] at this
  rw [at' k hk (hlen▸hk)]
  simpa [Nat.add_sub_cancel' hik] using this
 .exact dg w hq
theorem av.idx3 {o e f:Expr}{name:Str}{apos pos:Pos}{po pe pf:PE}(hy:(name==ofString "index")=true)(hbase:∀env,attributeBase o name env (eval o env)=eval o env)(hline:(apos.endLine==pos.line)=true)
  (htrees:∀env,backTo pos (starEach [e,f] env)=[(false,eval e env),(false,eval f env)])(h1:av P B C o po (RX P))(h2:av P B C e pe (RX P))(h3:av P B C f pf (RX P)):av P B C (.Call (.Attribute o name apos) [e,f] [] pos) (GA .list gW po pe pf) (RV P):=
 (h1.bind (N:=fun A env x Q E s=>EW .list s x/\wpAny P.M A (eval e env) (fun y s2=>wpAny P.M A (eval f env) (fun z s3=>wpAny P.M A (PySem.call (.builtin "list.index") [x,y,z]) Q E s3) E s2) E s) (F:=fun c ρ k a σ=>gd (kT .list a) (pe c ρ σ fun b σ=>pf c ρ σ fun x σ=>up (gW a b x) σ k)) lA fun n A env g g1 ρ σ s s₁ x t kk Q E p X r hb hq=>by
  have hk:=ku hb
  rw [hk] at hb hq
  refine ⟨sX (jq.y r) hk,h2 n A env g1 ρ σ s₁ _ _ E X hb fun x' s2 g2 t' σ₂ ea p2 w2 ra=>?_⟩
  have X2:=X.post p2 w2
  refine h3 n A env g2 ρ σ₂ s2 _ _ E X2 (fun q=>hb (ea.trans q)) fun x'' s3 g3 t'' σ₃ eb p3 w3 r3=>?_
  obtain ⟨y,e'⟩:=cG fun q=>hb (ea.trans (eb.trans q))
  exact w7 X.rm w3 (jq.post X2.g p3 (jq.post X.g p2 r)).y (jq.post X2.g p3 ra).y (jq.y r3) e' fun u s' g' p w r=>hq u s' g' y σ₃ (ea.trans (eb.trans (by rw [e'];rfl))) (p2.trans (p3.trans p)) w r).map fun A env Q E s h=>DN (K:=.list) (by rw [eq_of_beq hy];exact vU) hbase hline htrees h
theorem zM:jN P .Is IN:=fun A g σ s x x' t t' b Q E rm w q q' e k=>by
 obtain ⟨c,d,e1,e2,e3⟩:=bn e
 cases e3
 rw [q'.b e2]
 cases t with
 |none=>
  cases e1
  rw [show x=_ from q.v fun _ h=>h]
  exact wpAny_is_plain (by cases d<;>rfl) (by cases d<;>exact k s.toks)
 |bool v=>
  cases e1
  rw [show x=_ from q.v fun _ h=>h]
  exact wpAny_is_plain (by cases d<;>cases v<;>rfl) (by cases d<;>cases v<;>exact k s.toks)
 |_=>cases e1
theorem xi:jN P .IsNot y5:=fun A g σ s x x' t t' b Q E rm w q q' e k=>by
 obtain ⟨c,e1,rfl⟩:=ax e
 exact s9 (zM A g σ s x x' t t' c _ E rm w q q' e1 fun tk=>⟨rfl,k tk⟩)
end
end
end Mine
end
section
namespace Mine
open PySem
noncomputable abbrev Tb:=List (Option (Str×NameKind))
noncomputable abbrev lo (x:String):Option (Str×NameKind):=some (ofString x,.local)
noncomputable abbrev ce (x:String):Option (Str×NameKind):=some (ofString x,.cell)
universe u v w
theorem rf {α:Sort u}{z:Sort v}{f:α->z}(a:α):f a=f a:=rfl
theorem Jp {α:Sort u}{z:Sort v}{γ:Sort w}{f:α->z->γ}(a:α)(b:z):f a b=f a b:=rfl
theorem ew.badZ {P:Pg}{B:b7}{C C':Ct}{fr:Bool}{ss:List Stmt}:iX P B C fr C' ss eS:=fun n A env g ρ σ s k Q E X hb hq hr=>absurd rfl hb
end Mine
end
section
set_option tactic.hygienic false
namespace Mine
noncomputable section
open PySem PyProof.Rows
noncomputable abbrev Mo (α:Type):=Nat->Option (α×Nat)
section
variable {α w γ:Type}
noncomputable def mR (a:α):Mo α:=fun s=>some (a,s)
noncomputable def mF:Mo α:=fun _=>none
noncomputable def mB (x:Mo α)(f:α->Mo w):Mo w:=fun s=>Option.rec none (fun q=>Prod.rec f q) (x s)
noncomputable def mN (f:Nat->Mo α):Mo α:=fun s=>f (s % 100000) (s / 100000)
noncomputable def kX (b:Bool)(f:b=true->α)(d:α):α:=Bool.rec (motive:=fun b=>(b=true->α)->α) (fun _=>d) (fun f=>f rfl) b f
noncomputable def mG (b:Bool)(f:b=true->Mo α):Mo α:=kX b f mF
noncomputable def m2 (a b:Mo α):Mo α:=mN fun d=>bif Nat.beq d 0 then a else b
noncomputable def mU {S:w->Prop}(x:Mo {p:w // S p})(f:∀p,S p->Mo α):Mo α:=mB x fun a=>Subtype.rec f a
noncomputable def eW {α:List γ->Type}(l:List γ)(n:Mo (α []))(f:∀x r,Mo (α (x::r))):Mo (α l):=List.rec (motive:=fun l=>Mo (α l)) n (fun x r _=>f x r) l
noncomputable def jt {α:List γ->Type}(l:List γ)(n:Mo (α [])):Mo (α l):=eW l n fun _ _=>mF
noncomputable def rU {α:List γ->Type}(l:List γ)(f:∀x,Mo (α [x])):Mo (α l):=eW l mF fun x r=>jt (α:=fun r=>α (x::r)) r (f x)
noncomputable def AD {α:List γ->Type}(l:List γ)(f:∀x y,Mo (α [x,y])):Mo (α l):=eW l mF fun x r=>rU (α:=fun r=>α (x::r)) r (f x)
end
theorem tf {b:Bool}(h:(!b)=true):b=false:=(not_eq_true' b).mp h
theorem sb {γ:Type} [BEq γ] [LawfulBEq γ] {α:γ->Prop}{y z:γ}(h:(y==z)=true)(a:α z):α y:=(eq_of_beq h)▸a
noncomputable def vQ (k:Nat)(e:Expr):Bool:=Nat.beq e.ctorIdx k
noncomputable def i7 (e:Expr):Bool:=!vQ 22 e&&(!vQ 26 e&&!vQ 7 e)
noncomputable def Iy (e:Expr):Bool:=!vQ 0 e&&(!vQ 3 e&&(!vQ 5 e&&!vQ 15 e))
structure Pl (e:Expr):Prop where
 star:∀es env,starEach (e::es) env=(false,eval e env)::starEach es env
 subs:∀x y,subscripted e false x y=operate [x,y] (getItem x y)
 fold:∀env x,foldedSetIterable e env x=pure x
 beh:∀op,behindInMarks op e=false
 base:vQ 16 e=false->∀name env,attributeBase e name env (eval e env)=eval e env
 tv:Iy e=true->∀env whole,isTrue e env whole=(do let v <-whole;standAt e.pos;holding [v] (truthy v))
 sws:∀a i p l env,swapsWith e (some (.Subscript a i p)) l env=pure false
 swa:∀a x p l env,swapsWith e (some (.Attribute a x p)) l env=pure false
theorem pl {e:Expr}(h:i7 e=true):Pl e:=by
 cases e<;>first |exact ⟨fun _ _=>rfl,fun _ _=>rfl,fun _ _=>rfl,fun _=>rfl,fun _ _ _=>rfl,fun _ _ _=>rfl,fun _ _ _ _ _=>rfl,fun _ _ _ _ _=>rfl⟩ |exact ⟨fun _ _=>rfl,fun _ _=>rfl,fun _ _=>rfl,fun _=>rfl,fun _ _ _=>rfl,(fun h=>nomatch h),fun _ _ _ _ _=>rfl,fun _ _ _ _ _=>rfl⟩ |exact ⟨fun _ _=>rfl,fun _ _=>rfl,fun _ _=>rfl,fun _=>rfl,(fun h=>nomatch h),fun _ _ _=>rfl,fun _ _ _ _ _=>rfl,fun _ _ _ _ _=>rfl⟩ |cases h
theorem bt {e:Expr}(h:i7 e=true)(pos:Pos)(env:Env):backTo pos (starEach [e] env)=[(false,eval e env)]:=by rw [(pl h).star];rfl
theorem IK {o1 o2:CmpOp}{m r:Expr}(h:i7 r=true)(env:Env):markedEach [o1,o2] [m,r] (evalEach [m,r] env)=[eval m env,eval r env]:=by
 show [eval m env,markedBehindIn o2 r (eval r env)]=_
 unfold markedBehindIn;rw [(pl h).beh o2]
section
variable {α:Expr->Type} (e:Expr)
noncomputable def vC {k:Nat}(d:Mo (α e))(f:e.ctorIdx=k->Mo (α e)):Mo (α e):=kX (vQ k e) (fun h=>f (eq_of_beq_eq_true h)) d
noncomputable def cu (d:Mo (α e))(f:∀y p,Mo (α (.Name y p))):Mo (α e):=vC e d fun h=>Expr.Name.elim (motive_1:=fun e=>Mo (α e)) e h f
noncomputable def m4 (d:Mo (α e))(f:∀o x p,Mo (α (.Attribute o x p))):Mo (α e):=vC e d fun h=>Expr.Attribute.elim (motive_1:=fun e=>Mo (α e)) e h f
noncomputable def lQ (d:Mo (α e))(f:∀g es p,Mo (α (.Call g es [] p))):Mo (α e):=vC e d fun h=>Expr.Call.elim (motive_1:=fun e=>Mo (α e)) e h fun g es ks p=>jt (α:=fun ks=>α (.Call g es ks p)) ks (f g es p)
noncomputable def Dd (d:Mo (α e))(f:∀es k p,Mo (α (.Tuple es k p))):Mo (α e):=vC e d fun h=>Expr.Tuple.elim (motive_1:=fun e=>Mo (α e)) e h f
noncomputable def AE (f:∀i k p,Mo (α (.Constant (.int i) k p))):Mo (α e):=vC e mF fun h=>Expr.Constant.elim (motive_1:=fun e=>Mo (α e)) e h fun c k p=>kX (Nat.beq c.ctorIdx 2) (fun h=>Const.int.elim (motive:=fun c=>Mo (α (.Constant c k p))) c (eq_of_beq_eq_true h) fun i=>f i k p) mF
noncomputable def Cp (d:Mo (α e))(f:∀elt t i fs s p,Mo (α (.ListComp elt [⟨t,i,fs,0⟩] s p))):Mo (α e):=vC e d fun h=>Expr.ListComp.elim (motive_1:=fun e=>Mo (α e)) e h fun elt gs s p=>rU (α:=fun gs=>α (.ListComp elt gs s p)) gs fun g=>Comprehension.casesOn (motive_3:=fun g=>Mo (α (.ListComp elt [g] s p))) g fun t i fs a=>kX (a==0) (fun h=>Eq.rec (motive:=fun a _=>Mo (α (.ListComp elt [⟨t,i,fs,a⟩] s p))) (f elt t i fs s p) (eq_of_beq h).symm) mF
noncomputable def De (d:Mo (α e))(f:∀a b c p,Mo (α (.Slice a b c p))):Mo (α e):=vC e d fun h=>Expr.Slice.elim (motive_1:=fun e=>Mo (α e)) e h f
noncomputable def IW (f:∀op e p,Mo (α (.UnaryOp op e p))):Mo (α e):=vC e mF fun h=>Expr.UnaryOp.elim (motive_1:=fun e=>Mo (α e)) e h f
end
noncomputable abbrev LT:=List (Str×Nat)×List (Str×Nat)×List (Str×Nat)×List (Str×T)
noncomputable def LT.ms (L:LT)(b:Bool):List (Str×Nat):=bif b then L.2.1 else L.2.2.1
noncomputable def ua (b:Bool):Nat:=bif b then 0 else 10
structure hH (P:Pg) (L:LT):Prop where
 fn:∀p∈L.1,∃F,P.Ψ p.2=some F/\P.gl p.2=true/\(P.fd p.2).name=p.1
 o:∀b,bP P (ua b) (L.ms b)
 me:∀b,∀p∈L.ms b,∃F,P.Ψ p.2=some F
 g:∀b,P.mg (bif b then ofString "Machine" else ofString "Web")=some (.ref (P.cls (ua b)))
 cs:∀p∈L.2.2.2,∃u,P.mg p.1=some u/\∀g h,Rp P g h p.2 u
theorem pv {α:Type}{y:Str}{t:α}{l:List (Str×α)}(h:l.lookup y=some t):(y,t)∈l:=let ⟨_,_,e,_⟩:=List.lookup_eq_some_iff.mp h;e▸mem_append_right _ mem_cons_self
noncomputable def mO {α w:Type}(l:List (Str×w))(y:Str)(d:Mo α)(f:∀t,(y,t)∈l->Mo α):Mo α:=Option.rec (motive:=fun o=>(∀t,o=some t->Mo α)->Mo α) (fun _=>d) (fun t f=>f t rfl) (l.lookup y) fun t h=>f t (pv h)
noncomputable def KR (P:Pg)(k:Option Bool):RR Value T:=Option.rec (RX P) (fun b=>Bool.rec (RV P) (RN P) b) k
noncomputable abbrev RE (P:Pg)(B:b7)(C:Ct)(e:Expr):=(k:Option Bool)×{p:PE // av P B C e p (KR P k)}
noncomputable abbrev FE (P:Pg):=∀(B:b7) (C:Ct) (e:Expr),Mo (RE P B C e)
noncomputable abbrev FT (P:Pg):=∀(B:b7) (C:Ct) (e:Expr),Mo {p:PT // cW P B C e p}
noncomputable abbrev Gi (B:b7)(y:Str):Bool:=(B.sc.names.lookup y==some .globalImplicit)&&!(y==("__debug__":Str))
theorem gi {B:b7}{y:Str}(h:Gi B y=true):B.sc.names.lookup y=some .globalImplicit:=eq_of_beq (df h)
theorem H4 {B:b7}{y:Str}(h:Gi B y=true):(y==("__debug__":Str))=false:=tf (dB h)
theorem Av {B:b7}{y z:Str}(q:(y==z)=true)(h:Gi B y=true):B.sc.names.lookup z=some .globalImplicit:=eq_of_beq q▸gi h
noncomputable def slot (l:Tb)(y:Str):Nat:=l.findIdx fun o=>Option.rec false (fun q=>q.1==y) o
noncomputable def knd (l:Tb)(i:Nat):NameKind:=((l[i]?.getD none).getD (ofString "",.local)).2
noncomputable def zx (C:Ct)(i:Nat):Ct:=⟨C.O.filter fun j=>!Nat.beq j i,C.U,C.m⟩
noncomputable def EE (C:Ct)(i:Nat):Ct:=⟨C.O.filter (fun j=>Nat.blt j i)++i::C.O.filter (fun j=>Nat.blt i j),C.U,C.m⟩
noncomputable def F5 (C:Ct)(i:Nat):Ct:=⟨C.O,C.U.filter fun j=>!Nat.beq j i,C.m⟩
section
variable {P:Pg} {L:LT} (D:hH P L) (E:FE P) (Tr:FT P) (B:b7) (C:Ct) {w:Type}
section
variable {e:Expr}
noncomputable def rv (p:PE)(h:av P B C e p (RV P)):Mo (RE P B C e):=mR ⟨some false,p,h⟩
noncomputable def rn (p:PE)(h:av P B C e p (RN P)):Mo (RE P B C e):=mR ⟨some true,p,h⟩
noncomputable def rx (p:PE)(h:av P B C e p (RX P)):Mo (RE P B C e):=mR ⟨none,p,h⟩
end
section
variable (e:Expr)
noncomputable def mV (f:∀p,av P B C e p (RV P)->Mo w):Mo w:=mB (E B C e) fun r=>Option.rec (motive:=fun k=>{p:PE // av P B C e p (KR P k)}->Mo w) (fun _=>mF) (fun b=>Bool.rec (motive:=fun b=>{p:PE // av P B C e p (KR P (some b))}->Mo w) (fun a=>Subtype.rec f a) (fun a=>Subtype.rec (fun p h=>f p (ee.nv h)) a) b) r.1 r.2
noncomputable def mX (f:∀p,av P B C e p (RX P)->Mo w):Mo w:=mB (E B C e) fun r=>Option.rec (motive:=fun k=>{p:PE // av P B C e p (KR P k)}->Mo w) (fun a=>Subtype.rec f a) (fun b=>Bool.rec (motive:=fun b=>{p:PE // av P B C e p (KR P (some b))}->Mo w) (fun a=>Subtype.rec (fun p h=>f p (ee.vx h)) a) (fun a=>Subtype.rec (fun p h=>f p (ee.nx h)) a) b) r.1 r.2
noncomputable def mW (f:∀p,av P B C e p (RN P)->Mo w):Mo w:=mB (E B C e) fun r=>Option.rec (motive:=fun k=>{p:PE // av P B C e p (KR P k)}->Mo w) (fun _=>mF) (fun b=>Bool.rec (motive:=fun b=>{p:PE // av P B C e p (KR P (some b))}->Mo w) (fun _=>mF) (fun a=>Subtype.rec f a) b) r.1 r.2
end
noncomputable def yN (y:Str)(d:Mo w)(f:∀(i:Nat) (k:NameKind),B.tab[i]?=some (some (y,k))->Mo w):Mo w:=kX (B.tab[slot B.tab y]?==some (some (y,knd B.tab (slot B.tab y)))) (fun h=>f _ _ (eq_of_beq h)) d
noncomputable def GD (y:Str)(d:Mo w)(f:∀k,B.tab[0]?=some (some (y,k))->Mo w):Mo w:=kX (C.m&&(B.tab[0]?==some (some (y,knd B.tab 0)))) (fun h=>f _ (eq_of_beq (dB h))) d
noncomputable def mA (x:Str)(f:∀(c i:Nat) ms,bP P c ms->(cE c)[i]?=some x->Mo w):Mo w:=
 (fun b=>kX ((cE (ua b))[(cE (ua b)).findIdx (·==x)]?==some x) (fun h=>f (ua b) _ _ (D.o b) (eq_of_beq h)) mF) ((cE 0).contains x)
noncomputable def wm {α:Expr->Type}(e:Expr)(d:∀e,Mo (α e))(f:∀y np x ap (c i:Nat) ms k,bP P c ms->(cE c)[i]?=some x->B.tab[0]?=some (some (y,k))->Mo (α (.Attribute (.Name y np) x ap))):Mo (α e):=
 m4 e (d e) fun o x ap=>cu (α:=fun o=>α (.Attribute o x ap)) o (d _) fun y np=>GD B C y (d _) fun k ht=>bif (cE 10).contains x then mA D x fun c i ms O hn=>bif iI c i then f y np x ap c i ms k O hn ht else d _ else d _
noncomputable def Cu (es:List Expr):Mo {p:PL // ig P B C es p}:=List.rec (motive:=fun es=>Mo {p:PL // ig P B C es p}) (mR ⟨ao,.nil⟩) (fun e es ih=>mG (i7 e) fun h=>mV E B C e fun p hp=>mU ih fun r hr=>mR ⟨aa p r,.cons ((pl h).star es) hp hr⟩) es
noncomputable def Em (c:Const)(k:Nat)(pos:Pos):Mo (RE P B C (.Constant c k pos)):=
 Const.casesOn (motive:=fun c=>Mo (RE P B C (.Constant c k pos))) c (rv B C (pC .none) .none) (fun b=>rv B C (pC (.bool b)) .bool) (fun i=>rv B C (pC (.int i)) .int) (fun _=>mF) (fun _ _=>mF) (fun y=>mG (PyData.strOk y&&decide (y.length<=lim)) fun h=>rv B C (pC (.str y)) (.str h)) (fun _=>mF) mF
noncomputable def FV (y:Str)(pos:Pos):Mo (RE P B C (.Name y pos)):=
 yN B y (mG (Gi B y) fun hg=>mO L.2.2.2 y mF fun t h=>rv B C (pC t) (.gconst (gi hg) (H4 hg) (D.cs _ h)))
  fun i k ht=>kX (bL C i) (fun ho=>rx B C (pV i) (.own ho ht)) (mG (k9 C i) fun hv=>rv B C (pV i) (.var hv ht))
noncomputable def H8 (l:Expr)(op:Operator)(r:Expr)(pos:Pos):Mo (RE P B C (.BinOp l op r pos)):=
 mX E B C l fun a ha=>mX E B C r fun b hb=>Operator.casesOn (motive:=fun op=>Mo (RE P B C (.BinOp l op r pos))) op
  (rv B C (p2 bc a b) (.bin lA Fq ha hb)) (rv B C (p2 d5 a b) (.bin lA Fk ha hb))
  (bif vQ 24 l then rn B C (p2 ma a b) (.bin F2 Fl ha hb) else rv B C (p2 iK a b) (.bin lA Fm ha hb))
  mF mF (rv B C (p2 bM a b) (.bin lA Fo ha hb)) mF mF mF mF mF mF (rv B C (p2 d7 a b) (.bin lA Fp ha hb))
noncomputable def Je (op:UnaryOp)(e:Expr)(pos:Pos):Mo (RE P B C (.UnaryOp op e pos)):=mX E B C e fun a ha=>
 UnaryOp.casesOn (motive:=fun op=>Mo (RE P B C (.UnaryOp op e pos))) op mF (rv B C (jC a) (.not ha)) mF (rv B C (p1 eQ a) (.neg ha))
noncomputable def FZ (o:Expr)(name:Str)(pos:Pos):Mo (RE P B C (.Attribute o name pos)):=
 cu (α:=fun o=>RE P B C (.Attribute o name pos)) o mF fun y np=>mA D name fun c i ms O hn=>
  GD B C y (mV E B C (.Name y np) fun p h=>rv B C (p1 (kO c i) p) (.attr O hn (fun _=>rfl) (fun _ _=>rfl) h))
   fun k ht=>mG (!bL C 0) fun ho=>rv B C (fX c i) (.rat O hn (tf ho) ht)
noncomputable def v7 (P:Pg)(op:CmpOp):Mo {F:T->T->Option Bool // jN P op F}:=
 CmpOp.casesOn (motive:=fun op=>Mo {F:T->T->Option Bool // jN P op F}) op (mR ⟨ck,Gc⟩) (mR ⟨o8,F6⟩) (mR ⟨vI,F7⟩) (mR ⟨Bs,F8⟩) (mR ⟨Au,Ga⟩) (mR ⟨IO,Gb⟩) (m2 (mR ⟨_,CZ⟩) (mR ⟨_,zM⟩)) (m2 (mR ⟨_,zL⟩) (mR ⟨_,xi⟩))
  (m2 (mR ⟨lX,F9⟩) (m2 (mR ⟨CR,zN⟩) (mR ⟨GM,Ep⟩))) (m2 (mR ⟨eP,zJ⟩) (mR ⟨fK,xh⟩))
noncomputable def H7 (l:Expr)(ops:List CmpOp)(rs:List Expr)(pos:Pos):Mo (RE P B C (.Compare l ops rs pos)):=
 eW (α:=fun ops=>RE P B C (.Compare l ops rs pos)) ops mF fun op os=>eW (α:=fun rs=>RE P B C (.Compare l (op::os) rs pos)) rs mF fun r rs=>mU (v7 P op) fun F hF=>mX E B C l fun a ha=>mX E B C r fun b hb=>
  eW (α:=fun os=>RE P B C (.Compare l (op::os) (r::rs) pos)) os
   (jt (α:=fun rs=>RE P B C (.Compare l [op] (r::rs) pos)) rs (mG (i7 r) fun h=>rv B C (pB (p2 F a b)) (.cmp hF ((pl h).beh op) ha hb)))
   fun o2 os=>jt (α:=fun os=>RE P B C (.Compare l (op::o2::os) (r::rs) pos)) os (rU (α:=fun rs=>RE P B C (.Compare l [op,o2] (r::rs) pos)) rs fun q=>mG (i7 q) fun h=>mU (v7 P o2) fun G hG=>mX E B C q fun c hc=>rv B C (pB (nQ F G a b c)) (.cmp2 hF hG (IK h) ha hb hc))
noncomputable def IX (op:BoolOp)(es:List Expr):Mo {p:PE // jK P B C op es p}:=List.rec (motive:=fun es=>Mo {p:PE // jK P B C op es p}) mF
 (fun e es ih=>mV E B C e fun a ha=>List.rec (motive:=fun es=>Mo {p:PE // jK P B C op es p}->Mo {p:PE // jK P B C op (e::es) p}) (fun _=>mR ⟨a,.one ha⟩) (fun e' es _ ih=>mU ih fun r hr=>
  BoolOp.casesOn (motive:=fun op=>jK P B C op (e'::es) r->Mo {p:PE // jK P B C op (e::e'::es) p}) op (fun hr=>mR ⟨jj a r,.and ha hr⟩) (fun hr=>mR ⟨xB a r,.or ha hr⟩) hr) es ih) es
noncomputable def Iz (e:Option Expr):Mo {p:PO // tW P B C e p}:=Option.rec (motive:=fun e=>Mo {p:PO // tW P B C e p}) (mR ⟨jB,.none⟩) (fun e=>mX E B C e fun a ha=>mR ⟨p1 cN a,.some ha⟩) e
noncomputable def FW (i:Expr)(pos:Pos)(a:Expr):Mo (RE P B C (.Subscript a i pos)):=mG (i7 i) fun h=>mN fun d=>mX E B C a fun x hx=>mX E B C i fun y hy=>bif Nat.beq d 0 then rv B C (p2 au x y) (.idx (pl h).subs hx hy) else rv B C (p2 idxD x y) (.idxD (pl h).subs hx hy)
noncomputable def FU (a i:Expr)(pos:Pos):Mo (RE P B C (.Subscript a i pos)):=
 De (α:=fun i=>RE P B C (.Subscript a i pos)) i
  (cu (α:=fun a=>RE P B C (.Subscript a i pos)) a
   (wm D B C (α:=fun a=>RE P B C (.Subscript a i pos)) a (FW E B C i pos) fun y np x ap c j ms k O hn ht=>mG (i7 i) fun h=>mN fun d=>mV E B C i fun q hq=>
    bif Nat.beq d 0 then rv B C (CA c j au q) (.f2 O hn ht (yk (pl h).subs) hq) else rv B C (CA c j idxD q) (.f2 O hn ht (yj (pl h).subs) hq))
   fun y np=>kX (y==("_law_spot":Str))
    (fun _=>AE (α:=fun i=>RE P B C (.Subscript (.Name y np) i pos)) i fun j kk cp=>mG (j==0) fun hj=>yN B y mF fun n k ht=>mG (k9 C n) fun hv=>rv B C (pQ n) (sb (α:=fun j=>av P B C (.Subscript (.Name y np) (.Constant (.int j) kk cp) pos) (pQ n) (RV P)) hj (.spot hv ht)))
    (FW E B C i pos (.Name y np)))
  fun lo hi st p=>mX E B C a fun x hx=>Option.rec (motive:=fun st=>Mo (RE P B C (.Subscript a (.Slice lo hi st p) pos)))
   (mU (Iz E B C lo) fun l hl=>mU (Iz E B C hi) fun h hh=>rv B C (p3 ci x l h) (.slc hx hl hh))
   (fun st=>Option.rec (motive:=fun lo=>Mo (RE P B C (.Subscript a (.Slice lo hi (some st) p) pos))) (Option.rec (motive:=fun hi=>Mo (RE P B C (.Subscript a (.Slice none hi (some st) p) pos)))
    (IW (α:=fun st=>RE P B C (.Subscript a (.Slice none none (some st) p) pos)) st fun op e pu=>AE (α:=fun e=>RE P B C (.Subscript a (.Slice none none (some (.UnaryOp op e pu)) p) pos)) e fun j kc pc=>mG (j==1) fun hj=>mG (op==.USub) fun ho=>rv B C (p1 uk x) (sb (α:=fun j=>av P B C (.Subscript a (.Slice none none (some (.UnaryOp op (.Constant (.int j) kc pc) pu)) p) pos) (p1 uk x) (RV P)) hj (sb (α:=fun op=>av P B C (.Subscript a (.Slice none none (some (.UnaryOp op (.Constant (.int 1) kc pc) pu)) p) pos) (p1 uk x) (RV P)) ho (.rev hx)))) (fun _=>mF) hi) (fun _=>mF) lo) st
end
end
end Mine
end
section
set_option tactic.hygienic false
namespace Mine
noncomputable section
open PySem PyProof.Rows
noncomputable def Et (y:Str):BT:=bif y==BT.nm .list then .list else bif y==BT.nm .bool then .bool else bif y==BT.nm .int then .int else bif y==BT.nm .str then .str else .tuple
section
variable {P:Pg} {B:b7} {C:Ct} {e o:Expr} {p pe po:PE} {y z name:Str} {pn qn apos pos np:Pos}
theorem HY (X:BT)(hy:(y==ofString "isinstance")=true)(hT:(z==X.nm)=true)(hx:Gi B y=true)(hz:Gi B z=true)(hp:i7 e=true)(h:av P B C e p (RX P)):av P B C (.Call (.Name y pn) [e,.Name z qn] [] pos) (p1 (gq X) p) (RV P):=
 sb (α:=fun y=>av P B C (.Call (.Name y pn) [e,.Name z qn] [] pos) (p1 (gq X) p) (RV P)) hy (sb (α:=fun z=>av P B C (.Call (.Name (ofString "isinstance") pn) [e,.Name z qn] [] pos) (p1 (gq X) p) (RV P)) hT (.isi X (Av hy hx) (Av hT hz) (fun env=>((pl hp).star _ env).trans rfl) h))
noncomputable abbrev Jn (P:Pg)(x:String)(F:T->Option T)(R:RR Value T):Prop:=∀{B:b7} {C:Ct} {e:Expr} {p:PE} {pn pos:Pos},EX B x->(∀env,starEach [e] env=[(false,eval e env)])->av P B C e p (RX P)->av P B C (.Call (.Name (ofString x) pn) [e] [] pos) (p1 F p) R
theorem ES {x:String}{F:T->Option T}{R:RR Value T}(k:Jn P x F R)(hx:Gi B y=true)(hp:i7 e=true)(h:av P B C e p (RX P))(hy:(y==ofString x)=true):av P B C (.Call (.Name y pn) [e] [] pos) (p1 F p) R:=
 sb (α:=fun y=>av P B C (.Call (.Name y pn) [e] [] pos) (p1 F p) R) hy (k (Av hy hx) ((pl hp).star []) h)
theorem GE {x id:String}{K:MK}{F:T->T->Option T}(i:xE K (ofString x) id)(k:rJ P (EY P id) F (RV P))(hk:i7 o=true)(ho:(!vQ 16 o)=true)(hl:(apos.endLine==pos.line)=true)(hp:i7 e=true)(h1:av P B C o po (RX P))(h2:av P B C e pe (RX P))(hy:(name==ofString x)=true):av P B C (.Call (.Attribute o name apos) [e] [] pos) (uw K F po pe) (RV P):=
 sb (α:=fun name=>av P B C (.Call (.Attribute o name apos) [e] [] pos) (uw K F po pe) (RV P)) hy (.m1 i lA k ((pl hk).base (tf ho) _) hl (bt hp pos) h1 h2)
end
section
variable {P:Pg} {L:LT} (D:hH P L) (E:FE P) (Tr:FT P) (B:b7) (C:Ct)
section
variable (y:Str) (pn:Pos) (pos:Pos)
noncomputable def Jh (e:Expr):Mo (RE P B C (.Call (.Name y pn) [e] [] pos)):=mG (Gi B y) fun hx=>mG (i7 e) fun hp=>mX E B C e fun a ha=>
 kX (y==ofString "len") (fun hy=>rv B C (p1 ba a) (ES .len hx hp ha hy))
 (kX (y==ofString "list") (fun hy=>rn B C (p1 jo a) (ES .listOf hx hp ha hy))
 (kX (y==ofString "any") (fun hy=>rv B C (p1 u9 a) (ES .anyOf hx hp ha hy))
 (kX (y==ofString "all") (fun hy=>rv B C (p1 kU a) (ES .allOf hx hp ha hy))
 (kX (y==ofString "int") (fun hy=>rv B C (p1 ta a) (ES .intOf hx hp ha hy))
 (kX (y==ofString "dict") (fun hy=>rn B C (p1 ti a) (ES .dictOf hx hp ha hy)) mF)))))
noncomputable def En (es:List Expr):Mo (RE P B C (.Call (.Name y pn) es [] pos)):=mG (Gi B y) fun hx=>
 mO L.1 y
  (eW (α:=fun es=>RE P B C (.Call (.Name y pn) es [] pos)) es mF fun e es=>(fun b=>kX (y==(bif b then ofString "Machine" else ofString "Web"))
    (fun hy=>mO (L.ms b) (ofString "__init__") mF fun f hi=>mG (t9 f&&!kW f) fun hf=>mG (i7 e) fun hp=>mU (Cu E B C (e::es)) fun r hr=>rv B C (uv (ua b) f r) (sb (α:=fun y=>av P B C (.Call (.Name y pn) (e::es) [] pos) (uv (ua b) f r) (RV P)) hy (.new (D.o b) hi hf (D.g b) (Av hy hx) (by cases b<;>decide) ((pl hp).star es) hr)))
    (eW (α:=fun es=>RE P B C (.Call (.Name y pn) (e::es) [] pos)) es
     (wm D B C (α:=fun e=>RE P B C (.Call (.Name y pn) [e] [] pos)) e (Jh E B C y pn pos) fun z np x ap c i ms k O hn ht=>mG (y==ofString "len") fun hy=>rv B C (p1 ba (o7 c i)) (sb (α:=fun y=>av P B C (.Call (.Name y pn) [.Attribute (.Name z np) x ap] [] pos) (p1 ba (o7 c i)) (RV P)) hy (.lenF O hn ht (Av hy hx) fun _=>rfl)))
     fun t es=>jt (α:=fun es=>RE P B C (.Call (.Name y pn) (e::t::es) [] pos)) es (cu (α:=fun t=>RE P B C (.Call (.Name y pn) [e,t] [] pos)) t mF fun z qn=>mG (y==ofString "isinstance") fun hy=>mG (z==(Et z).nm) fun hT=>mG (Gi B z) fun hz=>mG (i7 e) fun hp=>mX E B C e fun a ha=>rv B C (p1 (gq (Et z)) a) (HY (Et z) hy hT hx hz hp ha))))
   (y==ofString "Machine"))
  fun f hf=>mG (!t9 f) fun hm=>mU (Cu E B C es) fun r hr=>
   kX (kW f) (fun h=>rn B C (aw f r) (let ⟨_,h1,h2⟩:=D.fn _ hf;av.callN h1 h2 (tf hm) h (gi hx) (H4 hx) hr)) (mG (!kW f) fun h=>rv B C (aw f r) (let ⟨_,h1,h2⟩:=D.fn _ hf;av.call h1 h2 (tf hm) (tf h) (gi hx) (H4 hx) hr))
end
section
variable (o:Expr) (name:Str) (apos:Pos) (pos:Pos)
noncomputable def Jg (e:Expr):Mo (RE P B C (.Call (.Attribute o name apos) [e] [] pos)):=
 mG (i7 o) fun hk=>mG (!vQ 16 o) fun ho=>mG (apos.endLine==pos.line) fun hl=>mG (i7 e) fun hp=>mX E B C o fun a ha=>mX E B C e fun b hb=>
  kX (name==ofString "join") (fun hy=>rv B C (uw .str vO a b) (GE Ef y3 hk ho hl hp ha hb hy))
  (kX (name==ofString "split") (fun hy=>rv B C (uw .str qs a b) (GE BC wq hk ho hl hp ha hb hy))
  (kX (name==ofString "index") (fun hy=>rv B C (uw .list jD a b) (GE vU zc hk ho hl hp ha hb hy))
  (kX (name==ofString "count") (fun hy=>rv B C (uw .list lB a b) (GE BD zG hk ho hl hp ha hb hy)) mF)))
noncomputable def Jf (e f:Expr):Mo (RE P B C (.Call (.Attribute o name apos) [e,f] [] pos)):=
 mG (i7 o) fun hk=>mG (!vQ 16 o) fun ho=>mG (apos.endLine==pos.line) fun hl=>mG (i7 e) fun hp=>mG (i7 f) fun hq=>mX E B C o fun a ha=>mX E B C e fun b hb=>mX E B C f fun c hc=>
  mG (name==ofString "index") fun hy=>rv B C (GA .list gW a b c) (.idx3 hy ((pl hk).base (tf ho) _) hl (fun env=>by rw [(pl hp).star,(pl hq).star];rfl) ha hb hc)
noncomputable def CV (b:Bool)(es:List Expr)(d:Mo (RE P B C (.Call (.Attribute o name apos) es [] pos))):Mo (RE P B C (.Call (.Attribute o name apos) es [] pos)):=mO (L.ms b) name d fun f hm=>
 mG (GC (ua b) f name apos pos es.length) fun hb=>
  cu (α:=fun o=>RE P B C (.Call (.Attribute o name apos) es [] pos)) o (mG (i7 o) fun hk=>mG (!vQ 16 o) fun ho=>mV E B C o fun a ha=>mU (Cu E B C es) fun r hr=>rv B C (rN (ua b) f a r) (let ⟨_,h⟩:=D.me b _ hm;.meth (D.o b) hm h hb ((pl hk).base (tf ho) _) ha hr))
  fun y np=>GD B C y
   (mV E B C (.Name y np) fun a ha=>mU (Cu E B C es) fun r hr=>rv B C (rN (ua b) f a r) (let ⟨_,h⟩:=D.me b _ hm;.meth (D.o b) hm h hb (fun _=>rfl) ha hr))
   fun k ht=>mU (Cu E B C es) fun r hr=>rv B C (sG (ua b) f r) (let ⟨_,h⟩:=D.me b _ hm;.rmeth (D.o b) hm h hb ht hr)
end
noncomputable def FY (g:Expr)(es:List Expr)(pos:Pos):Mo (RE P B C (.Call g es [] pos)):=
 cu (α:=fun g=>RE P B C (.Call g es [] pos)) g (m4 (α:=fun g=>RE P B C (.Call g es [] pos)) g mF fun o name apos=>CV D E B C o name apos pos true es (CV D E B C o name apos pos false es (eW (α:=fun es=>RE P B C (.Call (.Attribute o name apos) es [] pos)) es mF fun e es=>eW (α:=fun es=>RE P B C (.Call (.Attribute o name apos) (e::es) [] pos)) es (Jg E B C o name apos pos e) fun f es=>jt (α:=fun es=>RE P B C (.Call (.Attribute o name apos) (e::f::es) [] pos)) es (Jf E B C o name apos pos e f))))
 fun y pn=>En D E B C y pn pos es
noncomputable def Ia (B:b7)(sc:Scope)(i:Nat)(x:Str)(k:NameKind):Tb:=(List.range i).map (fun j=>Option.rec none (fun q=>bif sc.names.contains (q.1,.free) then some (q.1,.cell) else none) (B.tab[j]?.getD none))++[some (x,k)]
noncomputable def G1 (c:Bool)(x:Str):Option Str:=bif c then some x else none
noncomputable def HW (c:Bool):NameKind:=bif c then .cell else .local
theorem Gf {P:Pg}{Bc:b7}{C Ci:Ct}{i:Nat}{x:Str}{tp:Pos}{c:Bool}(hc:cQ C i false Ci=true)(ht:(Bc.tab[i]?==some (some (x,HW c)))=true):jM P (Ao P Bc C Ci (.Name x tp) (bj i) (m6 (G1 c x))):=by
 cases c
 .exact bindL hc (eq_of_beq ht)
 .exact bindC hc (eq_of_beq ht)
noncomputable def mK {α:Expr->Type}(target:Expr)(scope:Scope)(f:∀x tp i xc Bc Ci,eV B Bc scope i xc->C.U.any (Nat.beq i)=true->cQ C i false Ci=true->jM P (Ao P Bc C Ci (.Name x tp) (bj i) (m6 xc))->Mo (α (.Name x tp))):Mo (α target):=
 cu target mF fun x tp=>mN fun i=>(fun c=>(fun tab=>mG (CY B tab scope i (G1 c x)) fun hK=>mG (C.U.any (Nat.beq i)) fun hi=>mG (cQ C i false (F5 C i)) fun hc=>mG (tab[i]?==some (some (x,HW c))) fun ht=>f x tp i (G1 c x) ⟨ix scope B.sc,tab⟩ (F5 C i) (.of hK) hi hc (Gf hc ht)) (Ia B scope i x (HW c))) (scope.names.lookup x==some .cell)
noncomputable def E6 (ifs:List Expr):Mo {p:PT // eA P B C ifs p}:=eW (α:=fun ifs=>{p:PT // eA P B C ifs p}) ifs (mR ⟨aJ,.nil⟩) fun c r=>jt (α:=fun r=>{p:PT // eA P B C (c::r) p}) r (mU (Tr B C c) fun a ha=>mR ⟨a,.one ha⟩)
section
variable {mk:Around->Addr->List T->List Addr->List Addr->(Nat->Gh->Heap->Prop)->Prop} (hb:jM P mk)
noncomputable def Dh (it:Expr):Mo {p:PL // gu P B C it mk p}:=mN fun d=>mV E B C it fun a ha=>bif Nat.beq d 0 then mR ⟨bv a,.seq hb ha⟩ else mR ⟨p1 BZ a,.str hb ha⟩
noncomputable def IA (it:Expr):Mo {p:PL // gu P B C it mk p}:=
 lQ (α:=fun it=>{p:PL // gu P B C it mk p}) it (Dh E B C hb it) fun g es pos=>cu (α:=fun g=>{p:PL // gu P B C (.Call g es [] pos) mk p}) g (Dh E B C hb (.Call g es [] pos)) fun y p=>
  kX (y==ofString "range") (fun hy=>mG (Gi B y) fun hx=>mN fun d=>mU (Cu E B C es) fun r hr=>bif Nat.beq d 0 then mR ⟨cn r,sb (α:=fun y=>gu P B C (.Call (.Name y p) es [] pos) mk (cn r)) hy (.range hb (Av hy hx) hr)⟩ else mR ⟨FN r,sb (α:=fun y=>gu P B C (.Call (.Name y p) es [] pos) mk (FN r)) hy (.down hb (Av hy hx) hr)⟩)
  (Dh E B C hb (.Call (.Name y p) es [] pos))
end
noncomputable def mC {α:Expr->Type}(elt target iter:Expr)(ifs:List Expr)(scope:Scope)(f:∀x tp i xc Bc Ci pi pc pe,eV B Bc scope i xc->C.U.any (Nat.beq i)=true->cQ C i false Ci=true->gu P B C iter (Ao P Bc C Ci (.Name x tp) (bj i) (m6 xc)) pi->eA P Bc Ci ifs pc->av P Bc Ci elt pe (RV P)->(∀env x,foldedSetIterable iter env x=pure x)->Mo (α (.Name x tp))):Mo (α target):=
 mK (P:=P) B C target scope fun x tp i xc Bc Ci K hi hc hb=>mG (i7 iter) fun hp=>mU (IA E B C hb iter) fun pi hI=>mU (E6 Tr Bc Ci ifs) fun pc hcond=>mV E Bc Ci elt fun pe hel=>f x tp i xc Bc Ci pi pc pe K hi hc hI hcond hel (pl hp).fold
noncomputable def zv (elt target:Expr)(ifs:List Expr)(scope:Scope)(pos:Pos)(iter:Expr):Mo (RE P B C (.ListComp elt [⟨target,iter,ifs,0⟩] scope pos)):=mC E Tr B C (α:=fun target=>RE P B C (.ListComp elt [⟨target,iter,ifs,0⟩] scope pos)) elt target iter ifs scope fun x tp i xc Bc Ci pi pc pe K hi hc hI hcond hel hs=>rn B C (aV pi (bj i) pc pe) (.comp K hi hc hI hcond hel hs)
theorem GX {e1 e2:Expr}{d1 d2:PE}{x1 x2 z1 z2 y:Str}{q1 q2 r1 r2 ep pt p cp pos:Pos}{op:BoolOp}{kt:Nat}{scope:Scope}(h1:(z1==x1)=true)(h2:(z2==x2)=true)(hd:(!(x1==("__debug__":Str))&&!(x2==("__debug__":Str)))=true)(hb:GY scope x1 x2=true)(hz:Gi B y=true)(hy:(y==ofString "zip")=true)(hp1:i7 e1=true)(hp2:i7 e2=true)(k1:av P B C e1 d1 (RX P))(k2:av P B C e2 d2 (RX P)):
  av P B C (.ListComp (.BoolOp op [.Name z1 r1,.Name z2 r2] ep) [⟨.Tuple [.Name x1 q1,.Name x2 q2] kt pt,.Call (.Name y p) [e1,e2] [] cp,[],0⟩] scope pos) (p2 (kY (BoolOp.rec (·&&·) (·||·) op)) d1 d2) (RV P):=by
 have hd:=ai hd
 rw [eq_of_beq h1,eq_of_beq h2,eq_of_beq hy]
 cases op
 .exact .zipC (.and (tf hd.1) (tf hd.2)) hb (Av hy hz) ((pl hp1).star _) ((pl hp2).star _) k1 k2
 .exact .zipC (.or (tf hd.1) (tf hd.2)) hb (Av hy hz) ((pl hp1).star _) ((pl hp2).star _) k1 k2
noncomputable def H6 (elt t1 t2:Expr)(kt:Nat)(pt:Pos)(iter:Expr)(scope:Scope)(pos:Pos):Mo (RE P B C (.ListComp elt [⟨.Tuple [t1,t2] kt pt,iter,[],0⟩] scope pos)):=
 cu (α:=fun t1=>RE P B C (.ListComp elt [⟨.Tuple [t1,t2] kt pt,iter,[],0⟩] scope pos)) t1 mF fun x1 q1=>cu (α:=fun t2=>RE P B C (.ListComp elt [⟨.Tuple [.Name x1 q1,t2] kt pt,iter,[],0⟩] scope pos)) t2 mF fun x2 q2=>
 lQ (α:=fun iter=>RE P B C (.ListComp elt [⟨.Tuple [.Name x1 q1,.Name x2 q2] kt pt,iter,[],0⟩] scope pos)) iter mF fun g es cp=>cu (α:=fun g=>RE P B C (.ListComp elt [⟨.Tuple [.Name x1 q1,.Name x2 q2] kt pt,.Call g es [] cp,[],0⟩] scope pos)) g mF fun y p=>AD (α:=fun es=>RE P B C (.ListComp elt [⟨.Tuple [.Name x1 q1,.Name x2 q2] kt pt,.Call (.Name y p) es [] cp,[],0⟩] scope pos)) es fun e1 e2=>
 mG (!(x1==("__debug__":Str))&&!(x2==("__debug__":Str))) fun hd=>mG (GY scope x1 x2) fun hb=>mG (Gi B y) fun hz=>mG (y==ofString "zip") fun hy=>mG (i7 e1) fun hp1=>mG (i7 e2) fun hp2=>mX E B C e1 fun a ha=>mX E B C e2 fun b hb'=>
  (fun α:Expr->Type=>fun k:(∀op z1 r1 z2 r2 ep,(z1==x1)=true->(z2==x2)=true->Mo (α (.BoolOp op [.Name z1 r1,.Name z2 r2] ep)))=>(vC (α:=α) elt mF fun h=>Expr.BoolOp.elim (motive_1:=fun e=>Mo (α e)) elt h fun op es ep=>AD (α:=fun es=>α (.BoolOp op es ep)) es fun a b=>cu (α:=fun a=>α (.BoolOp op [a,b] ep)) a mF fun z1 r1=>cu (α:=fun b=>α (.BoolOp op [.Name z1 r1,b] ep)) b mF fun z2 r2=>mG (z1==x1) fun h1=>mG (z2==x2) fun h2=>k op z1 r1 z2 r2 ep h1 h2:Mo (α elt)))
   (fun elt=>RE P B C (.ListComp elt [⟨.Tuple [.Name x1 q1,.Name x2 q2] kt pt,.Call (.Name y p) [e1,e2] [] cp,[],0⟩] scope pos)) fun op z1 r1 z2 r2 ep h1 h2=>rv B C _ (GX B C h1 h2 hd hb hz hy hp1 hp2 ha hb')
noncomputable def FX (elt target iter:Expr)(ifs:List Expr)(scope:Scope)(pos:Pos):Mo (RE P B C (.ListComp elt [⟨target,iter,ifs,0⟩] scope pos)):=eW (α:=fun ifs=>RE P B C (.ListComp elt [⟨target,iter,ifs,0⟩] scope pos)) ifs
 (Dd (α:=fun target=>RE P B C (.ListComp elt [⟨target,iter,[],0⟩] scope pos)) target
   (wm D B C (α:=fun iter=>RE P B C (.ListComp elt [⟨target,iter,[],0⟩] scope pos)) iter (zv E Tr B C elt target [] scope pos) fun y np x ap c j ms k O hn ht=>
    mK (P:=P) B C (α:=fun target=>RE P B C (.ListComp elt [⟨target,.Attribute (.Name y np) x ap,[],0⟩] scope pos)) target scope fun x tp i xc Bc Ci K hi hc hb=>mV E Bc Ci elt fun pe hel=>rn B C (nP c j (bj i) pe) (.compF O hn ht K hi hc hb hel fun _ _=>rfl))
   fun es k p=>AD (α:=fun es=>RE P B C (.ListComp elt [⟨.Tuple es k p,iter,[],0⟩] scope pos)) es fun t1 t2=>H6 E B C elt t1 t2 k p iter scope pos)
 fun c cs=>zv E Tr B C elt target (c::cs) scope pos iter
noncomputable def H9 (e:Expr):Mo (RE P B C e):=
 cu e (vC e (m4 e (lQ e (vC e (vC e (vC e (vC e (vC e (vC e (vC e (vC e (Cp e (vC e mF
  fun h=>Expr.Dict.elim (motive_1:=fun e=>Mo (RE P B C e)) e h fun ks vs pos=>jt (α:=fun ks=>RE P B C (.Dict ks vs pos)) ks (jt (α:=fun vs=>RE P B C (.Dict [] vs pos)) vs (rn B C ux .dic)))
  fun elt t i fs s pos=>FX D E Tr B C elt t i fs s pos)
  fun h=>Expr.Subscript.elim (motive_1:=fun e=>Mo (RE P B C e)) e h fun a i pos=>FU D E B C a i pos)
  fun h=>Expr.List.elim (motive_1:=fun e=>Mo (RE P B C e)) e h fun es pos=>mU (Cu E B C es) fun r hr=>rn B C (bX r) (.list hr))
  fun h=>Expr.Tuple.elim (motive_1:=fun e=>Mo (RE P B C e)) e h fun es k pos=>mU (Cu E B C es) fun r hr=>rv B C (aM r) (.tup hr))
  fun h=>Expr.IfExp.elim (motive_1:=fun e=>Mo (RE P B C e)) e h fun t a b pos=>mU (Tr B C t) fun t ht=>mV E B C a fun a ha=>mV E B C b fun b hb=>rv B C (Fi t a b) (.ifExp lA ht ha hb))
  fun h=>Expr.BoolOp.elim (motive_1:=fun e=>Mo (RE P B C e)) e h fun op es pos=>mU (IX E B C op es) fun r hr=>rv B C r (.boolOp hr))
  fun h=>Expr.Compare.elim (motive_1:=fun e=>Mo (RE P B C e)) e h fun l ops rs pos=>H7 E B C l ops rs pos)
  fun h=>Expr.UnaryOp.elim (motive_1:=fun e=>Mo (RE P B C e)) e h fun op e pos=>Je E B C op e pos)
  fun h=>Expr.BinOp.elim (motive_1:=fun e=>Mo (RE P B C e)) e h fun l op r pos=>H8 E B C l op r pos)
  fun g es pos=>FY D E B C g es pos)
  fun o x pos=>FZ D E B C o x pos)
  fun h=>Expr.Constant.elim (motive_1:=fun e=>Mo (RE P B C e)) e h fun c k pos=>Em B C c k pos)
  fun y pos=>FV D B C y pos
noncomputable def IY (op:BoolOp)(es:List Expr):Mo {p:PT // jl P B C op es p}:=List.rec (motive:=fun es=>Mo {p:PT // jl P B C op es p})
 (BoolOp.casesOn (motive:=fun op=>Mo {p:PT // jl P B C op [] p}) op (mR ⟨aJ,.andNil⟩) (mR ⟨cS,.orNil⟩))
 (fun e es ih=>mU (Tr B C e) fun a ha=>mU ih fun r hr=>BoolOp.casesOn (motive:=fun op=>jl P B C op es r->Mo {p:PT // jl P B C op (e::es) p}) op (fun hr=>mR ⟨er a r,.and ha hr⟩) (fun hr=>mR ⟨hJ a r,.or ha hr⟩) hr) es
noncomputable def G4 (l:Expr)(ops:List CmpOp)(rs:List Expr)(pos:Pos):Mo {p:PT // cW P B C (.Compare l ops rs pos) p}:=
 eW (α:=fun ops=>{p:PT // cW P B C (.Compare l ops rs pos) p}) ops mF fun op os=>eW (α:=fun rs=>{p:PT // cW P B C (.Compare l (op::os) rs pos) p}) rs mF fun r rs=>mU (v7 P op) fun F hF=>mX E B C l fun a ha=>
  eW (α:=fun os=>{p:PT // cW P B C (.Compare l (op::os) (r::rs) pos) p}) os
   (jt (α:=fun rs=>{p:PT // cW P B C (.Compare l [op] (r::rs) pos) p}) rs (wm D B C (α:=fun r=>{p:PT // cW P B C (.Compare l [op] [r] pos) p}) r (fun r=>mG (i7 r) fun h=>mX E B C r fun b hb=>mR ⟨p2 F a b,.cmp hF ((pl h).beh op) ha hb⟩)
    fun y np x ap c i ms k O hn ht=>mR ⟨p2 F a (o7 c i),.cmpY hF rfl ha (.fld O hn ht)⟩))
   fun o2 os=>jt (α:=fun os=>{p:PT // cW P B C (.Compare l (op::o2::os) (r::rs) pos) p}) os (rU (α:=fun rs=>{p:PT // cW P B C (.Compare l [op,o2] (r::rs) pos) p}) rs fun q=>mG (i7 q) fun h=>mX E B C r fun b hb=>mU (v7 P o2) fun G hG=>mX E B C q fun c hc=>mR ⟨nQ F G a b c,.cmp2 hF hG (IK h) ha hb hc⟩)
noncomputable def G5 (e:Expr):Mo {p:PT // cW P B C e p}:=
 vC (α:=fun e=>{p:PT // cW P B C e p}) e (vC (α:=fun e=>{p:PT // cW P B C e p}) e (vC (α:=fun e=>{p:PT // cW P B C e p}) e (mG (i7 e) fun hp=>mG (Iy e) fun h=>mX E B C e fun a ha=>mR ⟨qE a,.val ha ((pl hp).tv h)⟩)
  fun h=>Expr.Compare.elim (motive_1:=fun e=>Mo {p:PT // cW P B C e p}) e h fun l ops rs pos=>G4 D E B C l ops rs pos)
  fun h=>Expr.BoolOp.elim (motive_1:=fun e=>Mo {p:PT // cW P B C e p}) e h fun op es pos=>mU (IY Tr B C op es) fun r hr=>mR ⟨r,.boolOp hr⟩)
  fun h=>Expr.UnaryOp.elim (motive_1:=fun e=>Mo {p:PT // cW P B C e p}) e h fun op e pos=>mG (op==.Not) fun ho=>mU (Tr B C e) fun a ha=>mR ⟨dK a,sb (α:=fun op=>cW P B C (.UnaryOp op e pos) (dK a)) ho (.not ha)⟩
end
noncomputable def IB {P:Pg}{L:LT}(D:hH P L)(n:Nat):FE P×FT P:=Nat.rec ⟨fun _ _ _=>mF,fun _ _ _=>mF⟩ (fun _ r=>⟨fun B C=>H9 D r.1 r.2 B C,fun B C=>G5 D r.1 r.2 B C⟩) n
end
end Mine
end
section
set_option tactic.hygienic false
namespace Mine
noncomputable section
open PySem PyProof.Rows
noncomputable def KS (P:Pg)(B:b7)(C:Ct)(fr:Bool)(W:WP Flow)(p:PS)(o:Option Ct):Prop:=Option.rec (∀C',ew P B C fr C' W p) (fun C'=>ew P B C fr C' W p) o
noncomputable abbrev RS (P:Pg)(B:b7)(C:Ct)(fr:Bool)(W:WP Flow):=(o:Option Ct)×{p:PS // KS P B C fr W p o}
noncomputable abbrev dq (P:Pg)(B:b7)(C:Ct)(fr:Bool)(st:Stmt):=RS P B C fr (P.W fun env=>exec st env)
noncomputable abbrev RZ (P:Pg)(B:b7)(C:Ct)(fr:Bool)(ss:List Stmt):=RS P B C fr (P.W fun env=>execs ss env)
noncomputable abbrev FS (P:Pg):=∀(B:b7) (C:Ct) (fr:Bool) (ss:List Stmt),Mo (RZ P B C fr ss)
noncomputable def IQ (a b:Ct):Bool:=a.O==b.O&&(a.U==b.U&&a.m==b.m)
theorem Eo {a b:Ct}(h:IQ a b=true):a=b:=
 have ⟨h1,h2⟩:=ai h
 have ⟨h2,h3⟩:=ai h2
 show (⟨a.O,a.U,a.m⟩:Ct)=⟨b.O,b.U,b.m⟩ by rw [eq_of_beq h1,eq_of_beq h2,eq_of_beq h3]
section
variable {P:Pg} {B:b7} {C:Ct} {fr:Bool} {W:WP Flow} {u:Type}
noncomputable def ra (C':Ct)(p:PS)(h:ew P B C fr C' W p):Mo (RS P B C fr W):=mR ⟨some C',p,h⟩
noncomputable def rl (p:PS)(h:∀C',ew P B C fr C' W p):Mo (RS P B C fr W):=mR ⟨none,p,h⟩
noncomputable def mS (x:Mo (RS P B C fr W))(fa:∀C' p,ew P B C fr C' W p->Mo u)(fl:∀p,(∀C',ew P B C fr C' W p)->Mo u):Mo u:=mB x fun r=>Option.rec (motive:=fun o=>{p:PS // KS P B C fr W p o}->Mo u) (fun a=>Subtype.rec fl a) (fun C' a=>Subtype.rec (fa C') a) r.1 r.2
noncomputable def mT (C':Ct)(x:Mo (RS P B C fr W))(f:∀p,ew P B C fr C' W p->Mo u):Mo u:=mS x (fun C1 p h=>mG (IQ C1 C') fun e=>f p (Eo e▸h)) fun p h=>f p (h C')
end
theorem FM {k:NameKind}(h:(k==.local||k==.cell)=true):k=.local\/k=.cell:=(or_eq_true_iff.mp h).imp eq_of_beq eq_of_beq
theorem aX.unp {P:Pg}{B:b7}{C:Ct}{fr:Bool}{e:Expr}{p:PE}{zs:List jf}{kt:Nat}{pt pos:Pos}(hz:CF B C zs=true)(hs:∀env,swapsWithSole [.Tuple (zs.map jf.e) kt pt] e pos.line env=pure false)(hw:∀env,swappedStores [.Tuple (zs.map jf.e) kt pt] e env=pure none)(h:av P B C e p (RV P)):aX P B C fr C (.Assign [.Tuple (zs.map jf.e) kt pt] e pos) (lP (zs.map (·.i)) p):=fun n A env g ρ σ s k Q E X hb hq hr=>by
 refine Assign_Tuple (h n A env g ρ σ s _ _ E X hb fun x s₁ g1 t σ₁ e1 pa w1 r1=>?_) (hs env) (hw env)
 have hb1:=fun q=>hb (e1.trans q)
 obtain ⟨ρ',e2⟩:=cG hb1
 obtain ⟨ts,e3,e4⟩:=aD e2
 cases lK e3
 obtain ⟨a,rfl,f,us,m,b1,_,rb⟩:=r1
 exact jI hz e4 (X.post pa w1) b1 rb fun s' p' X'=>hq s' g1 ρ' σ₁ (e1.trans (by rw [e2];rfl)) (pa.toS.trans p'.toS) X'
noncomputable def I4 (B:b7)(es:List Expr):Mo {zs:List jf // es=zs.map jf.e}:=List.rec (motive:=fun es=>Mo {zs:List jf // es=zs.map jf.e}) (mR ⟨[],rfl⟩)
 (fun e es ih=>cu (α:=fun e=>{zs:List jf // e::es=zs.map jf.e}) e mF fun y p=>mU ih fun r hr=>mR ⟨⟨slot B.tab y,y,knd B.tab (slot B.tab y),p⟩::r,congrArg (Expr.Name y p::·) hr⟩) es
section
variable {P:Pg} {L:LT} (D:hH P L) (E:FE P) (Tr:FT P) (S:FS P) (B:b7) (C:Ct) (fr:Bool)
noncomputable def Fc (y:Str)(px:Pos)(e:Expr)(pos:Pos):Mo (dq P B C fr (.Assign [.Name y px] e pos)):=yN B y mF fun i k ht=>mN fun m=>mG (k==.local||k==.cell) fun hk=>
 bif Nat.ble m 1 then mG (!xA e y px pos.line B.sc) fun hw=>bif Nat.beq m 0 then mG (cQ C i false (zx C i)) fun hc=>mV E B C e fun a ha=>ra (zx C i) (aG i a) (aX.set hc ht (FM hk) (tf hw) ha)
   else mG (cQ C i true (EE C i)) fun hc=>mW E B C e fun a ha=>ra (EE C i) (aG i a) (aX.setN hc ht (FM hk) (tf hw) ha)
 else bif Nat.beq m 2 then Cp (α:=fun e=>dq P B C fr (.Assign [.Name y px] e pos)) e mF fun elt t it fs s p=>mN fun o=>(fun C'=>mG (cQ C i (Nat.beq o 1) C') fun hc=>mG (k==.local) fun hl=>
   mC E Tr B C (α:=fun t=>dq P B C fr (.Assign [.Name y px] (.ListComp elt [⟨t,it,fs,0⟩] s p) pos)) elt t it fs s fun x tp j xc Bc Ci pi pc pe K hi hj hI hcond hel hs=>mG (xA (.ListComp elt [⟨.Name x tp,it,fs,0⟩] s p) y px pos.line B.sc) fun hw=>
    ra C' (aG i (aV pi (bj j) pc pe)) (aX.setCompG (Nat.beq o 1) hc (eq_of_beq hl▸ht) hw K hi hj hI hcond hel hs)) (bif Nat.beq o 1 then EE C i else zx C i)
 else lQ (α:=fun e=>dq P B C fr (.Assign [.Name y px] e pos)) e mF fun g es cpos=>m4 (α:=fun g=>dq P B C fr (.Assign [.Name y px] (.Call g es [] cpos) pos)) g mF fun o name apos=>cu (α:=fun o=>dq P B C fr (.Assign [.Name y px] (.Call (.Attribute o name apos) es [] cpos) pos)) o mF fun z np=>rU (α:=fun es=>dq P B C fr (.Assign [.Name y px] (.Call (.Attribute (.Name z np) name apos) es [] cpos) pos)) es fun x=>AE (α:=fun x=>dq P B C fr (.Assign [.Name y px] (.Call (.Attribute (.Name z np) name apos) [x] [] cpos) pos)) x fun n kk cp=>
  yN B z mF fun j k' hz=>mG (bL C j) fun hv=>mG (cQ C i false C) fun hc=>mG (apos.endLine==cpos.line) fun hl=>mG (n==0) fun hn=>mG (name==ofString "pop") fun hy=>mG (!xA (.Call (.Attribute (.Name z np) (ofString "pop") apos) [.Constant (.int 0) kk cp] [] cpos) y px pos.line B.sc) fun hw=>
   ra C (nM j i) (sb (α:=fun name=>aX P B C fr C (.Assign [.Name y px] (.Call (.Attribute (.Name z np) name apos) [.Constant (.int n) kk cp] [] cpos) pos) (nM j i)) hy (sb (α:=fun n=>aX P B C fr C (.Assign [.Name y px] (.Call (.Attribute (.Name z np) (ofString "pop") apos) [.Constant (.int n) kk cp] [] cpos) pos) (nM j i)) hn (aX.pop0 hv hz hc ht (FM hk) (tf hw) (fun _=>rfl) hl fun _=>rfl)))
noncomputable def Fd (o:Expr)(name:Str)(apos:Pos)(e:Expr)(pos:Pos):Mo (dq P B C fr (.Assign [.Attribute o name apos] e pos)):=
 cu (α:=fun o=>dq P B C fr (.Assign [.Attribute o name apos] e pos)) o mF fun y np=>mA D name fun c i ms O hn=>GD B C y mF fun k ht=>mG (i7 e) fun hp=>
  kX (iI c i) (fun ho=>mW E B C e fun a ha=>ra C (t8 c i a) (aX.saN O hn ho ht ((pl hp).swa _ _ _ _) ha)) (mG (!iI c i) fun ho=>mV E B C e fun a ha=>ra C (t8 c i a) (aX.sa O hn (tf ho) ht ((pl hp).swa _ _ _ _) ha))
noncomputable def G9 (es:List Expr)(kt:Nat)(pt:Pos)(e:Expr)(pos:Pos):Mo (dq P B C fr (.Assign [.Tuple es kt pt] e pos)):=mU (I4 B es) fun zs he=>mG (CF B C zs) fun hz=>
 m2 (lQ (α:=fun e=>dq P B C fr (.Assign [.Tuple es kt pt] e pos)) e mF fun g as cpos=>m4 (α:=fun g=>dq P B C fr (.Assign [.Tuple es kt pt] (.Call g as [] cpos) pos)) g mF fun o name apos=>cu (α:=fun o=>dq P B C fr (.Assign [.Tuple es kt pt] (.Call (.Attribute o name apos) as [] cpos) pos)) o mF fun y np=>jt (α:=fun as=>dq P B C fr (.Assign [.Tuple es kt pt] (.Call (.Attribute (.Name y np) name apos) as [] cpos) pos)) as
  (yN B y mF fun j k ht=>mG (bL C j) fun hv=>mG (apos.endLine==cpos.line) fun hl=>mG (name==ofString "pop") fun hy=>ra C (wC j (zs.map (·.i))) (sb (α:=fun name=>aX P B C fr C (.Assign [.Tuple es kt pt] (.Call (.Attribute (.Name y np) name apos) [] [] cpos) pos) (wC j (zs.map (·.i)))) hy (he▸aX.pop hz hv ht (fun _=>rfl) (fun _=>rfl) (fun _=>rfl) hl))))
 ((fun k:∀e,(∀l env,swapsWithSole [.Tuple (zs.map jf.e) kt pt] e l env=pure false)->(∀env,swappedStores [.Tuple (zs.map jf.e) kt pt] e env=pure none)->Mo (dq P B C fr (.Assign [.Tuple es kt pt] e pos))=>
   cu (α:=fun e=>dq P B C fr (.Assign [.Tuple es kt pt] e pos)) e (lQ (α:=fun e=>dq P B C fr (.Assign [.Tuple es kt pt] e pos)) e (vC (α:=fun e=>dq P B C fr (.Assign [.Tuple es kt pt] e pos)) e mF
    fun h=>Expr.Subscript.elim (motive_1:=fun e=>Mo (dq P B C fr (.Assign [.Tuple es kt pt] e pos))) e h fun a i p=>k (.Subscript a i p) (fun _ _=>rfl) fun _=>rfl)
    fun g es p=>k (.Call g es [] p) (fun _ _=>rfl) fun _=>rfl)
    fun y p=>k (.Name y p) (fun _ _=>rfl) fun _=>rfl)
  fun e hs hw=>mV E B C e fun a ha=>ra C (lP (zs.map (·.i)) a) (he▸aX.unp hz (hs _) hw ha))
noncomputable def Ha (a i:Expr)(ps:Pos)(e:Expr)(pos:Pos):Mo (dq P B C fr (.Assign [.Subscript a i ps] e pos)):=mG (i7 e) fun hp=>mV E B C e fun v hv=>
 cu (α:=fun a=>dq P B C fr (.Assign [.Subscript a i ps] e pos)) a
  (wm D B C (α:=fun a=>dq P B C fr (.Assign [.Subscript a i ps] e pos)) a (fun _=>mF) fun y np x ap c j ms k O hn ht=>mV E B C i fun q hq=>ra C (pR c j q v) (aX.fput O hn ht ((pl hp).sws _ _ _ _) hq hv))
 fun y np=>yN B y mF fun j k ht=>kX (bL C j)
  (fun ho=>mN fun d=>mX E B C i fun q hq=>bif Nat.beq d 0 then ra C (ud j ur q v) (aX.put yc ho ht ((pl hp).sws _ _ _ _) hq hv) else ra C (ud j eG q v) (aX.put vy ho ht ((pl hp).sws _ _ _ _) hq hv))
  (AE (α:=fun i=>dq P B C fr (.Assign [.Subscript (.Name y np) i ps] e pos)) i fun n kk cp=>mG (k9 C j) fun ho=>mG (n==0) fun hn=>ra C (j7 j v) (sb (α:=fun n=>aX P B C fr C (.Assign [.Subscript (.Name y np) (.Constant (.int n) kk cp) ps] e pos) (j7 j v)) hn (aX.spot ho ht ((pl hp).sws _ _ _ _) hv)))
noncomputable def Hb (e:Expr)(pos:Pos):Mo (dq P B C fr (.Return (some e) pos)):=Bool.rec (motive:=fun fr=>Mo (dq P B C fr (.Return (some e) pos)))
 (mV E B C e fun a ha=>rl (aH a) fun _=>aX.ret ha)
 (cu (α:=fun e=>dq P B C true (.Return (some e) pos)) e (mW E B C e fun a ha=>rl (aH a) fun _=>aX.retN ha) fun y p=>yN B y mF fun i k ht=>mG (bL C i) fun hv=>rl (aH (pV i)) fun _=>aX.retO hv ht) fr
noncomputable def Hd (e:Expr)(pos:Pos):Mo (dq P B C fr (.Expr e pos)):=lQ (α:=fun e=>dq P B C fr (.Expr e pos)) e mF fun g es cpos=>m2 (mX E B C (.Call g es [] cpos) fun a ha=>ra C (jQ a) (aX.expr (fun _=>rfl) ha))
 (m4 (α:=fun g=>dq P B C fr (.Expr (.Call g es [] cpos) pos)) g mF fun o name apos=>rU (α:=fun es=>dq P B C fr (.Expr (.Call (.Attribute o name apos) es [] cpos) pos)) es fun x=>mG (apos.endLine==cpos.line) fun hl=>mG (i7 x) fun hp=>
   cu (α:=fun o=>dq P B C fr (.Expr (.Call (.Attribute o name apos) [x] [] cpos) pos)) o
    (wm D B C (α:=fun o=>dq P B C fr (.Expr (.Call (.Attribute o name apos) [x] [] cpos) pos)) o (fun _=>mF) fun y np at' ap' c i ms k O hn ht=>mG (name==ofString "append") fun hy=>mV E B C x fun a ha=>ra C (qK c i a) (sb (α:=fun name=>aX P B C fr C (.Expr (.Call (.Attribute (.Attribute (.Name y np) at' ap') name apos) [x] [] cpos) pos) (qK c i a)) hy (aX.fap O hn ht (fun _=>rfl) hl (bt hp _) (fun _=>rfl) ha)))
   fun y np=>yN B y mF fun i k ht=>mG (bL C i) fun hv=>
    kX (name==ofString "append") (fun hy=>mV E B C x fun a ha=>ra C (ii i d9 a) (sb (α:=fun name=>aX P B C fr C (.Expr (.Call (.Attribute (.Name y np) name apos) [x] [] cpos) pos) (ii i d9 a)) hy (aX.app hv ht hl (fun _=>rfl) (bt hp _) (fun _=>rfl) ha)))
    (mG (name==ofString "extend") fun hy=>mX E B C x fun a ha=>ra C (ii i jk a) (sb (α:=fun name=>aX P B C fr C (.Expr (.Call (.Attribute (.Name y np) name apos) [x] [] cpos) pos) (ii i jk a)) hy (aX.ext hv ht hl (fun _=>rfl) (bt hp _) (fun _=>rfl) ha))))
noncomputable def Hc (target iter:Expr)(body:List Stmt)(pos:Pos):Mo (dq P B C fr (.For target iter body [] pos)):=
 cu (α:=fun target=>dq P B C fr (.For target iter body [] pos)) target
  (Dd (α:=fun target=>dq P B C fr (.For target iter body [] pos)) target mF fun es kt pt=>AD (α:=fun es=>dq P B C fr (.For (.Tuple es kt pt) iter body [] pos)) es fun t1 t2=>cu (α:=fun t1=>dq P B C fr (.For (.Tuple [t1,t2] kt pt) iter body [] pos)) t1 mF fun x1 p1=>cu (α:=fun t2=>dq P B C fr (.For (.Tuple [.Name x1 p1,t2] kt pt) iter body [] pos)) t2 mF fun x2 p2=>
   lQ (α:=fun iter=>dq P B C fr (.For (.Tuple [.Name x1 p1,.Name x2 p2] kt pt) iter body [] pos)) iter mF fun g as cp=>cu (α:=fun g=>dq P B C fr (.For (.Tuple [.Name x1 p1,.Name x2 p2] kt pt) (.Call g as [] cp) body [] pos)) g mF fun y p=>rU (α:=fun as=>dq P B C fr (.For (.Tuple [.Name x1 p1,.Name x2 p2] kt pt) (.Call (.Name y p) as [] cp) body [] pos)) as fun x=>
    yN B x1 mF fun i1 k1 _=>yN B x2 mF fun i2 k2 _=>mG (CF B C [⟨i1,x1,k1,p1⟩,⟨i2,x2,k2,p2⟩]) fun hz=>mG (Gi B y) fun hx=>mG (y==ofString "enumerate") fun hy=>mG (i7 x) fun hp=>mV E B C x fun a ha=>mT C (S B C fr body) fun b hb=>
     ra C (cU (sZ a) (AA i1 i2) b) (sb (α:=fun y=>aX P B C fr C (.For (.Tuple [.Name x1 p1,.Name x2 p2] kt pt) (.Call (.Name y p) [x] [] cp) body [] pos) (cU (sZ a) (AA i1 i2) b)) hy (aX.for (fun _ _=>rfl) (gu.enum (z1:=⟨i1,x1,k1,p1⟩) (z2:=⟨i2,x2,k2,p2⟩) hz (Av hy hx) ((pl hp).star []) ha) hb)))
 fun y p=>yN B y mF fun i k ht=>mG (cQ C i false C) fun hc=>mG (k==.local||k==.cell) fun hk=>mG (i7 iter) fun hp=>mU (IA E B C (jM.one hc ht (FM hk)) iter) fun it hi=>mT C (S B C fr body) fun b hb=>
  ra C (cU it (bj i) b) (aX.for (pl hp).fold hi hb)
noncomputable def I1 (t:Expr)(a b:List Stmt)(pos:Pos):Mo (dq P B C fr (.If t a b pos)):=mU (Tr B C t) fun t ht=>mS (S B C fr a)
 (fun C1 p h=>mT C1 (S B C fr b) fun q k=>ra C1 (bK t p q) (aX.if ht h k))
 fun p h=>mS (S B C fr b) (fun C1 q k=>ra C1 (bK t p q) (aX.if ht (h C1) k)) fun q k=>rl (bK t p q) fun C'=>aX.if ht (h C') (k C')
noncomputable def vS {α:Stmt->Type}{k:Nat}(st:Stmt)(d:Mo (α st))(f:st.ctorIdx=k->Mo (α st)):Mo (α st):=kX (Nat.beq st.ctorIdx k) (fun h=>f (eq_of_beq_eq_true h)) d
noncomputable def He (st:Stmt):Mo (dq P B C fr st):=
 vS (α:=fun st=>dq P B C fr st) st (vS (α:=fun st=>dq P B C fr st) st (vS (α:=fun st=>dq P B C fr st) st (vS (α:=fun st=>dq P B C fr st) st (vS (α:=fun st=>dq P B C fr st) st (vS (α:=fun st=>dq P B C fr st) st (vS (α:=fun st=>dq P B C fr st) st mF
  fun h=>Stmt.Raise.elim (motive_2:=fun st=>Mo (dq P B C fr st)) st h fun e c pos=>rl eS fun _=>aX.bad)
  fun h=>Stmt.Expr.elim (motive_2:=fun st=>Mo (dq P B C fr st)) st h fun e pos=>Hd D E B C fr e pos)
  fun h=>Stmt.While.elim (motive_2:=fun st=>Mo (dq P B C fr st)) st h fun t b o pos=>jt (α:=fun o=>dq P B C fr (.While t b o pos)) o (mN fun m=>mU (Tr B C t) fun t ht=>mT C (S B C fr b) fun b hb=>ra C (eR m t b) (aX.while m ht hb)))
  fun h=>Stmt.For.elim (motive_2:=fun st=>Mo (dq P B C fr st)) st h fun t i b o pos=>jt (α:=fun o=>dq P B C fr (.For t i b o pos)) o (Hc E S B C fr t i b pos))
  fun h=>Stmt.If.elim (motive_2:=fun st=>Mo (dq P B C fr st)) st h fun t a b pos=>I1 Tr S B C fr t a b pos)
  fun h=>Stmt.Return.elim (motive_2:=fun st=>Mo (dq P B C fr st)) st h fun e pos=>Option.rec (motive:=fun e=>Mo (dq P B C fr (.Return e pos))) mF (fun e=>Hb E B C fr e pos) e)
  fun h=>Stmt.Assign.elim (motive_2:=fun st=>Mo (dq P B C fr st)) st h fun ts e pos=>rU (α:=fun ts=>dq P B C fr (.Assign ts e pos)) ts fun t=>
   cu (α:=fun t=>dq P B C fr (.Assign [t] e pos)) t (m4 (α:=fun t=>dq P B C fr (.Assign [t] e pos)) t (Dd (α:=fun t=>dq P B C fr (.Assign [t] e pos)) t (vC (α:=fun t=>dq P B C fr (.Assign [t] e pos)) t mF
    fun h=>Expr.Subscript.elim (motive_1:=fun t=>Mo (dq P B C fr (.Assign [t] e pos))) t h fun a i ps=>Ha D E B C fr a i ps e pos) fun es k p=>G9 E B C fr es k p e pos) fun o x p=>Fd D E B C fr o x p e pos) fun y px=>Fc E Tr B C fr y px e pos
noncomputable def G0 (ss:List Stmt):Mo (RZ P B C fr ss):=mN fun m=>Nat.rec
 (eW (α:=fun ss=>RZ P B C fr ss) ss (ra C an ew.nil) fun st ss=>mS (He D E Tr S B C fr st)
  (fun C1 p h=>mS (S B C1 fr ss) (fun C2 q k=>ra C2 (af p q) (ew.cons h k)) fun q k=>rl (af p q) fun C'=>ew.cons h (k C'))
  fun p h=>jt (α:=fun ss=>RZ P B C fr (st::ss)) ss (rl (af p an) fun C'=>ew.cons (h C') ew.nil))
 (fun i _=>mG (bL C i) fun hv=>mG (cQ C i false (zx C i)) fun hc=>mG (B.tab[i]?==some (some ((B.tab[i]?.getD none).getD (ofString "",.local)))) fun ht=>
  mS (S B (zx C i) fr ss) (fun C' p h=>ra C' p (ew.fz hv hc (eq_of_beq ht) h)) fun p h=>rl p fun C'=>ew.fz hv hc (eq_of_beq ht) (h C')) m
end
noncomputable def E5 {P:Pg}{L:LT}(D:hH P L)(n:Nat):FS P:=Nat.rec (fun _ _ _ _=>mF) (fun _ r B C fr ss=>G0 D (IB D 20).1 (IB D 20).2 r B C fr ss) n
theorem Cr {P:Pg}{L:LT}{D:hH P L}{B:b7}{C:Ct}{fr:Bool}{ss:List Stmt}{p:PS}{n s:Nat}(h:(E5 D n B C fr ss s).map (·.1.2.1)=some p):∃C',iX P B C fr C' ss p:=
 let ⟨r,_,h⟩:=ax h
 h▸Option.rec (motive:=fun o=>∀a:{p:PS // KS P B C fr (P.W fun env=>execs ss env) p o},∃C',iX P B C fr C' ss a.1) (fun a=>⟨C,a.2 C⟩) (fun C' a=>⟨C',a.2⟩) r.1.1 r.1.2
theorem BJ {P:Pg}{f:Nat}{F:gK}{mN:Str->Option Value}{gl:Bool}{nm:Str}{sc:Scope}{bd:List Stmt}{ps:List Str}{tab:List (Option (Str×NameKind))}{U:List Nat}(x:oZ P.h₀ P.mg mN gl nm sc bd ps (P.fnA f) (P.fd f))(h:GN sc tab ps U F.np=true)(sim:∃C',iX P ⟨sc,tab⟩ ⟨[],U,t9 f⟩ (kW f) C' bd F.body):xx P f F:=let ⟨_,q⟩:=sim;BK x h q
end
end Mine
end
section
set_option tactic.hygienic false
namespace Mine
noncomputable section
open PySem PySem.W PyProof.Rows
noncomputable def uO {γ:Type}(s:Stmt)(d:γ)(f:Arguments->List Stmt->Scope->γ):γ:=kX (Nat.beq s.ctorIdx 0) (fun h=>Stmt.FunctionDef.elim (motive_2:=fun _=>γ) s (eq_of_beq_eq_true h) fun _ a b _ _ _ sc _ _ _=>f a b sc) d
noncomputable def bU (q:Program)(k:Nat):Stmt:=(q.main.body[k]?).getD (.Pass default)
noncomputable def qT (q:Program)(k j:Nat):Stmt:=kX (Nat.beq (bU q k).ctorIdx 2) (fun h=>Stmt.ClassDef.elim (motive_2:=fun _=>Stmt) (bU q k) (eq_of_beq_eq_true h) fun _ _ _ b _ _ _ _ _ _ _=>(b[j]?).getD (.Pass default)) (.Pass default)
noncomputable abbrev FI:=Nat×Stmt×Str×Bool×Tb×List Nat×Nat
section
variable (I:List FI) (Ψ:Nat->Option gK) (L:LT) (f:Nat)
noncomputable def iO:Stmt×Str×Bool×Tb×List Nat×Nat:=((I.find? fun r=>Nat.beq r.1 f).map (·.2)).getD (.Pass default,ofString "",true,[],[],0)
noncomputable def lf:Str:=(iO I f).2.1
noncomputable def mi:Bool:=(iO I f).2.2.1
noncomputable def jm:Tb:=(iO I f).2.2.2.1
noncomputable def m5:List Nat:=(iO I f).2.2.2.2.1
noncomputable def H3:Nat:=(iO I f).2.2.2.2.2
noncomputable def u4:List Stmt:=uO (iO I f).1 [] fun _ b _=>b
noncomputable def t7:Scope:=uO (iO I f).1 default fun _ _ s=>s
noncomputable def Fh:Arguments:=uO (iO I f).1 default fun a _ _=>a
noncomputable def yv:Nat:=((Ψ f).map gK.np).getD 0
noncomputable def jh:List Str:=((jm I f).take (yv Ψ f)).filterMap (·.map (·.1))
noncomputable def wR:Bool:=L.2.1.any fun p=>Nat.beq p.2 f
end
noncomputable def Ge (b:Bool):Str:=bif b then ofString "Machine" else ofString "Web"
noncomputable def Cz (q:Program)(I:List FI)(L:LT)(f:Nat):Option (Scope×List Stmt×Arguments):=bif mi I f then vX q (lf I f) else (oE q (looseW q []) (Ge (wR L f))).bind (yJ · (lf I f))
noncomputable def C4 (I:List FI)(Ψ:Nat->Option gK)(qual:Str)(pm cd doc:Value)(vs:List Value)(f:Nat):Option (Sem (List (Str×Value))×Sem (List (Str×Value))):=bif Nat.beq vs.length (jh I Ψ f).length then some (bindArgs (Calls.docDef (lf I f) (Fh I f) (u4 I f) (t7 I f) pm cd doc) ⟨vs,[]⟩,bindArgs (methDef (lf I f) qual (Fh I f) (u4 I f) (t7 I f) pm cd doc) ⟨vs,[]⟩) else none
noncomputable def C3 (I:List FI)(Ψ:Nat->Option gK)(vs:List Value)(f:Nat):Option (Sem (List (Str×Value))×Sem (List (Str×Value))):=bif Nat.beq vs.length (jh I Ψ f).length then some (pure ((jh I Ψ f).zip vs),pure ((jh I Ψ f).zip vs)) else none
structure rK (q:Program) (Ψ:Nat->Option gK) (ks:List Nat) (I:List FI) (L:LT):Prop where
 r:ks.map (Cz q I L)=ks.map fun f=>some (t7 I f,u4 I f,Fh I f)
 b1:∀u pm cd doc a,ks.map (C4 I Ψ u pm cd doc [a])=ks.map (C3 I Ψ [a])
 b2:∀u pm cd doc a b,ks.map (C4 I Ψ u pm cd doc [a,b])=ks.map (C3 I Ψ [a,b])
 b3:∀u pm cd doc a b c,ks.map (C4 I Ψ u pm cd doc [a,b,c])=ks.map (C3 I Ψ [a,b,c])
 b4:∀u pm cd doc a b c d,ks.map (C4 I Ψ u pm cd doc [a,b,c,d])=ks.map (C3 I Ψ [a,b,c,d])
 b5:∀u pm cd doc a b c d e,ks.map (C4 I Ψ u pm cd doc [a,b,c,d,e])=ks.map (C3 I Ψ [a,b,c,d,e])
 p:ks.all (fun f=>(Nat.ble 1 (jh I Ψ f).length&&Nat.ble (jh I Ψ f).length 5)&&GN (t7 I f) (jm I f) (jh I Ψ f) (m5 I f) (yv Ψ f))=true
 m:∀b,(L.ms b).all (fun p=>(Ψ p.2).isSome&&(!mi I p.2&&((lf I p.2==p.1)&&(wR L p.2==b))))=true
 f:L.1.all (fun p=>(Ψ p.2).isSome&&(mi I p.2&&lf I p.2==p.1))=true
 a:∀b,(oE q (looseW q []) (Ge b)).map (fun c=>(cE (ua b)).all (c.statics.contains ·))=some true
 o:∀b,(L.ms b).map (fun p=>(fastLookup "object" p.1).isSome)=(L.ms b).map fun _=>true
 n:jH.all (vW q (looseW q []))=true
theorem Ex:∀b,(cE (ua b)).map (fastLookup "object")=(cE (ua b)).map fun _=>some none
 |true=>by kernel_rfl
 |false=>by kernel_rfl
theorem all_cons {α:Type}{p:α->Prop}{a:α}{l:List α}(h:p a)(hl:∀r∈l,p r):∀r∈a::l,p r:=fun r hr=>(az hr).elim (fun e=>e▸h) (hl r)
theorem I0 {α:Type}{p:Bool->α->Prop}(h:∀b,∃x,p b x):∃f:Bool->α,∀b,p b (f b):=⟨fun b=>(h b).choose,fun b=>(h b).choose_spec⟩
theorem Ae {a b:Bool}(h:(a&&b)=true):a=true/\b=true:=ai h
theorem A7 {α z:Type}{f g:α->z}{l:List α}(h:l.map f=l.map g){a:α}(ha:a∈l):f a=g a:=List.map_inj_left.mp h a ha
theorem l5 {α:Type}{p:List α->Prop}(h1:∀a,p [a])(h2:∀a b,p [a,b])(h3:∀a b c,p [a,b,c])(h4:∀a b c d,p [a,b,c,d])(h5:∀a b c d e,p [a,b,c,d,e])(l:List α):Nat.ble 1 l.length=true->Nat.ble l.length 5=true->p l:=
 List.rec (motive:=fun l=>Nat.ble 1 l.length=true->Nat.ble l.length 5=true->p l) (fun h=>nomatch h) (fun a l _ _=>List.rec (motive:=fun l=>Nat.ble (a::l).length 5=true->p (a::l)) (fun _=>h1 a) (fun b l _=>List.rec (motive:=fun l=>Nat.ble (a::b::l).length 5=true->p (a::b::l)) (fun _=>h2 a b)
  (fun c l _=>List.rec (motive:=fun l=>Nat.ble (a::b::c::l).length 5=true->p (a::b::c::l)) (fun _=>h3 a b c) (fun d l _=>List.rec (motive:=fun l=>Nat.ble (a::b::c::d::l).length 5=true->p (a::b::c::d::l)) (fun _=>h4 a b c d) (fun e l _=>List.rec (motive:=fun l=>Nat.ble (a::b::c::d::e::l).length 5=true->p (a::b::c::d::e::l)) (fun _=>h5 a b c d e) (fun _ _ _ h=>nomatch h) l) l) l) l) l) l
structure Cn (q:Program) (mg:Str->Option Value) (h:Heap) (b:Bool) (x:ClsRec×Addr×Addr×(Str->Option Value)):Prop where
 c:oE q (looseW q []) (Ge b)=some x.1
 g:mg (Ge b)=some (.ref x.2.1)
 A:PlainAt h x.1.withCmp x.2.1 x.2.2.1 x.2.2.2
section
variable {q:Program} {Ψ:Nat->Option gK} {ks:List Nat} {I:List FI} {L:LT} (X:rK q Ψ ks I L)
include X
theorem rK.bind {f:Nat}(hf:f∈ks)(u:Str)(pm cd doc:Value)(vs:List Value)(hv:vs.length=(jh I Ψ f).length):C4 I Ψ u pm cd doc vs f=C3 I Ψ vs f:=by
 have h:=(Ae (Ae (aI X.p f hf)).1)
 rw [<-hv] at h
 exact l5 (p:=fun vs=>C4 I Ψ u pm cd doc vs f=C3 I Ψ vs f) (fun a=>A7 (X.b1 u pm cd doc a) hf) (fun a b=>A7 (X.b2 u pm cd doc a b) hf) (fun a b c=>A7 (X.b3 u pm cd doc a b c) hf) (fun a b c d=>A7 (X.b4 u pm cd doc a b c d) hf) (fun a b c d e=>A7 (X.b5 u pm cd doc a b c d e) hf) vs h.1 h.2
theorem rK.bnd {f:Nat}(hf:f∈ks)(u:Str)(pm cd doc:Value)(vs:List Value)(hv:vs.length=(jh I Ψ f).length):bindArgs (Calls.docDef (lf I f) (Fh I f) (u4 I f) (t7 I f) pm cd doc) ⟨vs,[]⟩=pure ((jh I Ψ f).zip vs)/\bindArgs (methDef (lf I f) u (Fh I f) (u4 I f) (t7 I f) pm cd doc) ⟨vs,[]⟩=pure ((jh I Ψ f).zip vs):=by
 have h:=X.bind hf u pm cd doc vs hv
 unfold C4 C3 at h
 rw [show Nat.beq vs.length (jh I Ψ f).length=true from hv▸beq_refl _] at h
 exact Prod.mk.inj (Option.some.inj h)
theorem rK.fnAt {mean:ExcName->Option Value}{mg mb:Str->Option Value}{h:Heap}(T:Top q (looseW q []) mean mg mb h){κ:Bool->ClsRec×Addr×Addr×(Str->Option Value)}(K:∀b,Cn q mg h b (κ b)){f:Nat}(hf:f∈ks):
  ∃a d,oZ h mg (κ (wR L f)).2.2.2 (mi I f) (lf I f) (t7 I f) (u4 I f) (jh I Ψ f) a d:=by
 have r:=A7 X.r hf
 unfold Cz at r
 cases hg:mi I f with
 |true=>rw [hg] at r;exact BM T _ r fun pm cd doc vs hv=>(X.bnd hf (ofString "") pm cd doc vs hv).1
 |false=>rw [hg] at r;exact Bd (K _).A _ (by rw [(K (wR L f)).c] at r;exact r) fun u pm cd doc vs hv=>(X.bnd hf u pm cd doc vs hv).2
end
theorem yq {x:Str}{y:Option Value}(h:fastLookup "object" x=some y):typeLookup (.type "object") x=pure y:=by rw [typeLookup_type,builtinLookup_eq_fast,h]
theorem rK.laid {q:Program}{ks:List Nat}{I:List FI}{L:LT}{P:Pg}(X:rK q P.Ψ ks I L){κ:Bool->ClsRec×Addr×Addr×(Str->Option Value)}(K:∀b,Cn q P.mg P.h₀ b (κ b))(hcl:∀b,P.cls (ua b)=(κ b).2.1)(hgl:P.gl=mi I)(cs:∀p∈L.2.2.2,∃u,P.mg p.1=some u/\∀g h,Rp P g h p.2 u)
  (hF:∀(f:Nat) (F:gK),P.Ψ f=some F->oZ P.h₀ P.mg (κ (wR L f)).2.2.2 (mi I f) (lf I f) (t7 I f) (u4 I f) (jh I P.Ψ f) (P.fnA f) (P.fd f)):hH P L where
 fn:=fun p hp=>by
  obtain ⟨h1,h2⟩:=Ae (aI X.f p hp)
  obtain ⟨F,h1⟩:=aO h1
  exact ⟨F,h1,by rw [hgl];exact (Ae h2).1,(hF _ F h1).name.trans (eq_of_beq (Ae h2).2)⟩
 o:=fun b=>wJ (K b).A (hcl b) (by have:=X.a b;rw [(K b).c] at this;exact Option.some.inj this) (fun x hx=>yq (A7 (Ex b) hx)) (fun p hp=>by
  obtain ⟨h1,h2⟩:=Ae (aI (X.m b) p hp)
  obtain ⟨F,h1⟩:=aO h1
  obtain ⟨h2,h3⟩:=Ae h2
  obtain ⟨h3,h4⟩:=Ae h3
  have y:=(hF _ F h1).asMeth (tf h2)
  rw [eq_of_beq h3,eq_of_beq h4] at y
  exact y) fun p hp=>let ⟨y,h⟩:=aO (A7 (X.o b) hp);⟨y,yq h⟩
 me:=fun b p hp=>aO (Ae (aI (X.m b) p hp)).1
 g:=fun b=>(hcl b)▸(K b).g
 cs:=cs
noncomputable abbrev An (P:Pg)(I:List FI)(f:Nat)(p:PS):Prop:=∃C',iX P ⟨t7 I f,jm I f⟩ ⟨[],m5 I f,t9 f⟩ (kW f) C' (u4 I f) p
noncomputable def E7 {P:Pg}{L:LT}(D:hH P L)(I:List FI)(f:Nat):Option PS:=bif Nat.beq f 35||Nat.beq f 999 then none else (E5 D 60 ⟨t7 I f,jm I f⟩ ⟨[],m5 I f,t9 f⟩ (kW f) (u4 I f) (H3 I f)).map (·.1.2.1)
noncomputable def Ff (Ψ:Nat->Option gK)(f:Nat):Option PS:=bif Nat.beq f 35||Nat.beq f 999 then none else (Ψ f).map gK.body
theorem G7 {P:Pg}{L:LT}{D:hH P L}{I:List FI}{ks:List Nat}(h:ks.map (E7 D I)=ks.map (Ff P.Ψ))(h35:∀F,P.Ψ 35=some F->An P I 35 F.body)(h9:∀F,P.Ψ 999=some F->F.body=eS){f:Nat}{F:gK}(hf:f∈ks)(e:P.Ψ f=some F):An P I f F.body:=by
 have h:=A7 h hf
 unfold E7 Ff at h
 cases q5:Nat.beq f 35 with
 |true=>cases eq_of_beq_eq_true q5;exact h35 F e
 |false=>
  cases q9:Nat.beq f 999 with
  |true=>cases eq_of_beq_eq_true q9;rw [h9 F e];exact ⟨⟨[],[],false⟩,ew.badZ⟩
  |false=>rw [q5,q9,e] at h;exact Cr h
theorem Ea {rows:List (Nat×gK)}{f:Nat}{F:gK}(e:(rows.find? fun r=>Nat.beq r.1 f).map (·.2)=some F):f∈rows.map (·.1):=
 let ⟨_,h1,_⟩:=ax e
 eq_of_beq_eq_true (find?_some (p:=fun r:Nat×gK=>Nat.beq r.1 f) h1)▸List.mem_map_of_mem (List.mem_of_find?_eq_some h1)
section
variable {q:Program} {mean:ExcName->Option Value} {ks:List Nat} {I:List FI} {L:LT} {A:Around} {n m:Nat} {F:gK} {bd:List Stmt} {y:Str} {k:NameKind} {s0:Int} {kk:Nat} {q1 q2 q3 q4:Pos} {p:PS} {fa l:Addr} {vs:List Value} {ns:List Int} {σ:Sg} {hint:Nat} {s:Shared}
theorem DW {P:Pg}(X:rK q P.Ψ ks I L)(hk:∀f F,P.Ψ f=some F->f∈ks)(T:Top q (looseW q []) mean P.mg P.mb P.h₀){κ:Bool->ClsRec×Addr×Addr×(Str->Option Value)}(K:∀b,Cn q P.mg P.h₀ b (κ b))(hcl:∀b,P.cls (ua b)=(κ b).2.1)(hg:P.gl=mi I)(cs:∀p∈L.2.2.2,∃u,P.mg p.1=some u/\∀g h,Rp P g h p.2 u)
  (hF:∀(f:Nat) (F:gK),P.Ψ f=some F->oZ P.h₀ P.mg (κ (wR L f)).2.2.2 (mi I f) (lf I f) (t7 I f) (u4 I f) (jh I P.Ψ f) (P.fnA f) (P.fd f))
  (sm:∀D:hH P L,ks.map (E7 D I)=ks.map (Ff P.Ψ))(h35:hH P L->∀F,P.Ψ 35=some F->An P I 35 F.body)(hL:P.Ψ 999=some F)(h9:F.body=eS)
  (hb:u4 I 999=.Assign [.Name y q1] (.List [.Constant (.int s0) kk q2] q3) q4::bd)(ht:(jm I 999)[1]?=some (some (y,k)))(hk':(k==.local||k==.cell)=true)(hw:xA (.List [.Constant (.int s0) kk q2] q3) y q1 q4.line (t7 I 999)=false)(hc:cQ ⟨[],m5 I 999,false⟩ 1 false ⟨[],m5 I 999,false⟩=true)(hnp:yv P.Ψ 999=1)(hgl:mi I 999=true)
  (hlaw:∀D:hH P L,(E5 D 60 ⟨t7 I 999,jm I 999⟩ ⟨[],m5 I 999,false⟩ false bd hint).map (·.1.2.1)=some p)(room:oX A (n+1))(hmg:P.mg (lf I 999)=some (.ref fa))(hs:P.h₀=s.heap)(hl:s.heap.IsList l vs.toArray)(hi:IntsAre vs ns)(hn:ns.length<=63)(hp:p (P.cx n) (frame [.scr ns,.spot] m) ⟨s0,none⟩ (fun _ σ=>.ret .none σ)=.ret (.bool true) σ):
  wpAny P.M A (PySem.call (.ref fa) [.ref l]) (fun v s'=>v=.bool true/\∃h' tk,s'={s with heap:=h',toks:=tk}/\∀a o,s.heap.get? a=some o->h'.get? a=some o) (fun _ _=>False) s:=by
 have D:hH P L:=X.laid K hcl hg cs hF
 have xl:=hF 999 F hL
 have h9':∀F,P.Ψ 999=some F->F.body=eS:=fun F' e=>by rw [hL] at e;cases e;exact h9
 have hok:∀f F,P.Ψ f=some F->xx P f F:=fun f F e=>BJ (hF f F e) (by have:=(Ae (aI X.p f (hk f F e))).2;unfold yv at this;rw [e] at this;exact this) (G7 (sm D) (h35 D) h9' (hk f F e) e)
 obtain ⟨C',sl⟩:=Cr (hlaw D)
 have kl:Gv P 999 1 (jm I 999) (jh I P.Ψ 999) (u4 I 999) (m5 I 999):=zq xl (by have:=(Ae (aI X.p 999 (hk 999 F hL))).2;rw [hnp] at this;exact this)
 rw [hb] at kl
 have hfa:P.fnA 999=fa:=Value.ref.inj (Option.some.inj ((xl.ns hgl).symm.trans hmg))
 rw [<-hfa]
 exact yY (BE T X.n fun f F e=>⟨_,_,_,_,_,hg▸hF f F e⟩) hok hL kl ht (FM hk') (by rw [xl.sc];exact hw) hc (by rw [xl.sc];exact sl) hs room hl hi hn hp
theorem yX {pg:Program}{w:World}{mg mb:Str->Option Value}{Ψ:Nat->Option gK}
  (X:rK q Ψ ks I L)(hk:∀f F,Ψ f=some F->f∈ks)(T:Top q (looseW q []) mean mg mb s.heap)(TE:TopE q (looseW q []) mg s.heap)(cs:∀P:Pg,∀p∈L.2.2.2,∃u,mg p.1=some u/\∀g h,Rp P g h p.2 u)
  (sm:∀P:Pg,∀D:hH P L,ks.map (E7 D I)=ks.map (Ff Ψ))(h35:∀P:Pg,hH P L->∀F,Ψ 35=some F->An P I 35 F.body)(hL:Ψ 999=some F)(h9:F.body=eS)
  (hb:u4 I 999=.Assign [.Name y q1] (.List [.Constant (.int s0) kk q2] q3) q4::bd)(ht:(jm I 999)[1]?=some (some (y,k)))(hk':(k==.local||k==.cell)=true)(hw:xA (.List [.Constant (.int s0) kk q2] q3) y q1 q4.line (t7 I 999)=false)(hc:cQ ⟨[],m5 I 999,false⟩ 1 false ⟨[],m5 I 999,false⟩=true)(hnp:yv Ψ 999=1)(hgl:mi I 999=true)
  (hlaw:∀P:Pg,∀D:hH P L,(E5 D 60 ⟨t7 I 999,jm I 999⟩ ⟨[],m5 I 999,false⟩ false bd hint).map (·.1.2.1)=some p)(room:oX A (n+1))(hmg:mg (lf I 999)=some (.ref fa))(hl:s.heap.IsList l vs.toArray)(hi:IntsAre vs ns)(hn:ns.length<=63)(hp:p ⟨aj Ψ n⟩ (frame [.scr ns,.spot] m) ⟨s0,none⟩ (fun _ σ=>.ret .none σ)=.ret (.bool true) σ):
  wpAny (model pg w) A (PySem.call (.ref fa) [.ref l]) (fun v s'=>v=.bool true/\∃h' tk,s'={s with heap:=h',toks:=tk}/\∀a o,s.heap.get? a=some o->h'.get? a=some o) (fun _ _=>False) s:=by
 obtain ⟨κ,K⟩:=I0 (p:=Cn q mg s.heap) fun b=>by
  obtain ⟨c,C,N,mN,h1,h2,h3⟩:=Er (x:=Ge b) TE (by have:=congrArg Option.isSome (X.a b);rw [Option.isSome_map] at this;exact this)
  exact ⟨(c,C,N,mN),h1,h2,h3⟩
 obtain ⟨fA,fD,hF⟩:=Dm (fun f F e=>X.fnAt T K (hk f F e)) hL
 exact DW (P:=⟨pg,w,s.heap,fun c=>(κ (Nat.beq c 0)).2.1,Ψ,fA,fD,mi I,mg,mb⟩) X hk T K (fun b=>by cases b<;>rfl) rfl (cs _) hF (sm _) (h35 _) hL h9 hb ht hk' hw hc hnp hgl (hlaw _) room hmg rfl hl hi hn hp
end
end
end Mine
end
section
set_option maxRecDepth 100000
namespace Mine.L08
noncomputable section
open PySem
@[reducible] noncomputable def gz:PS:=
  (af (bK (hJ (dK (qE (p1 (gq .str) (pV 0)))) (hJ (p2 Au (p1 ba (pV 0)) (pC (.int 6))) cS))
  (af (aH (pC (.bool false)))
  an)
  an)
  (af (aH (p1 kU (aV (p1 BZ (pV 0)) (bj 1) aJ (pB (p2 GM (pV 1) (pC (.str (ofString "abcdefghijklmnopqrstuvwxyz"))))))))
  an))
@[reducible] noncomputable def fE:PS:=
  (af (bK (p2 ck (p2 au (pV 0) (pC (.int 0))) (pC (.str (ofString "mark"))))
  (af (aH (bX ao))
  an)
  an)
  (af (aH (p1 jo (p3 ci (pV 0) (p1 cN (pC (.int 1))) jB)))
  an))
@[reducible] noncomputable def fF:PS:=
  (af (bK (hJ (dK (qE (p1 (gq .tuple) (pV 0)))) (hJ (p2 ck (p1 ba (pV 0)) (pC (.int 0))) (hJ (dK (qE (p1 (gq .str) (p2 au (pV 0) (pC (.int 0)))))) cS)))
  (af (aH (pC (.bool false)))
  an)
  an)
  (af (bK (p2 ck (p2 au (pV 0) (pC (.int 0))) (pC (.str (ofString "mark"))))
  (af (aH (jj (pB (p2 ck (p1 ba (pV 0)) (pC (.int 2)))) (jj (aw 1 (aa (p2 au (pV 0) (pC (.int 1))) ao)) (pB (p2 o8 (p2 au (pV 0) (pC (.int 1))) (pC (.str (ofString ""))))))))
  an)
  an)
  (af (bK (p2 ck (p2 au (pV 0) (pC (.int 0))) (pC (.str (ofString "yes"))))
  (af (aH (pB (p2 ck (p1 ba (pV 0)) (pC (.int 1)))))
  an)
  an)
  (af (bK (p2 lX (p2 au (pV 0) (pC (.int 0))) (aM (aa (pC (.str (ofString "not"))) (aa (pC (.str (ofString "next"))) (aa (pC (.str (ofString "always"))) (aa (pC (.str (ofString "again"))) ao))))))
  (af (aH (pB (p2 ck (p1 ba (pV 0)) (pC (.int 2)))))
  an)
  an)
  (af (aH (jj (pB (p2 lX (p2 au (pV 0) (pC (.int 0))) (aM (aa (pC (.str (ofString "and"))) (aa (pC (.str (ofString "or"))) (aa (pC (.str (ofString "till"))) ao)))))) (pB (p2 ck (p1 ba (pV 0)) (pC (.int 3))))))
  an)))))
@[reducible] noncomputable def eK:PS:=
  (af (bK (hJ (p2 ck (pV 1) (pC (.int 0))) (hJ (dK (qE (aw 3 (aa (pV 0) ao)))) cS))
  (af (aH (pC (.bool false)))
  an)
  an)
  (af (aH (p1 kU (aV (bv (aw 2 (aa (pV 0) ao))) (bj 2) aJ (aw 4 (aa (pV 2) (aa (p2 d5 (pV 1) (pC (.int 1))) ao))))))
  an))
@[reducible] noncomputable def eL:PS:=
  (af (aH (aw 4 (aa (pV 0) (aa (pC (.int 5)) ao))))
  an)
@[reducible] noncomputable def eJ:PS:=
  (af (bK (p2 lX (p2 au (pV 0) (pC (.int 0))) (aM (aa (pC (.str (ofString "next"))) (aa (pC (.str (ofString "till"))) (aa (pC (.str (ofString "always"))) ao)))))
  (af (aH (bX (aa (pV 0) ao)))
  an)
  an)
  (af (bK (p2 ck (p2 au (pV 0) (pC (.int 0))) (pC (.str (ofString "again"))))
  (af (aG 1 (aM (aa (pC (.str (ofString "till"))) (aa (aM (aa (pC (.str (ofString "yes"))) ao)) (aa (p2 au (pV 0) (pC (.int 1))) ao)))))
  (af (aH (bX (aa (pV 1) (aa (aM (aa (pC (.str (ofString "always"))) (aa (pV 1) ao))) ao))))
  an))
  an)
  (af (aH (bX ao))
  an)))
@[reducible] noncomputable def fG:PS:=
  (af (aG 1 (bX ao))
  (af (cU (bv (aw 2 (aa (pV 0) ao))) (bj 2)
  (af (ii 1 jk (aV (bv (aw 500 (aa (pV 2) ao))) (bj 3) (p2 eP (pV 3) (pV 1)) (pV 3)))
  an))
  (af (ii 1 jk (aV (bv (aw 6 (aa (pV 0) ao))) (bj 4) (p2 eP (pV 4) (pV 1)) (pV 4)))
  (af (aH (pV 1))
  an))))
@[reducible] noncomputable def du:PS:=
  (af (bK (dK (qE (aw 5 (aa (pV 0) ao))))
  (af eS
  an)
  an)
  (af (bK (p2 Au (p1 ba (aw 500 (aa (pV 0) ao))) (pC (.int 4)))
  (af eS
  an)
  an)
  (af (aH (pV 0))
  an)))
@[reducible] noncomputable def iB:PS:=
  (af (aG 3 (p2 ma (bX (aa (pC (.bool false)) ao)) (p1 ba (pV 0))))
  (af (cU (cn (aa (pC (.int 2)) ao)) (bj 4)
  (af (cU (FN (aa (p2 d5 (p1 ba (pV 0)) (pC (.int 1))) (aa (p1 eQ (pC (.int 1))) (aa (p1 eQ (pC (.int 1))) ao)))) (bj 5)
  (af (aG 6 (Fi (p2 ck (pV 5) (p2 d5 (p1 ba (pV 0)) (pC (.int 1)))) (pV 2) (p2 bc (pV 5) (pC (.int 1)))))
  (af (ud 3 ur (pV 5) (xB (p2 au (pV 1) (pV 5)) (jj (p2 au (pV 0) (pV 5)) (p2 au (pV 3) (pV 6)))))
  an)))
  an))
  (af (aH (pV 3))
  an)))
@[reducible] noncomputable def gj:PS:=
  (af (aG 3 (p2 au (pV 0) (pC (.int 0))))
  (af (bK (p2 ck (pV 3) (pC (.str (ofString "mark"))))
  (af (aH (aV (bv (pV 1)) (bj 6) aJ (pB (p2 ck (pV 6) (p2 au (pV 0) (pC (.int 1)))))))
  an)
  an)
  (af (bK (p2 ck (pV 3) (pC (.str (ofString "yes"))))
  (af (aH (aV (bv (pV 1)) (bj 7) aJ (pC (.bool true))))
  an)
  an)
  (af (aG 4 (aV (bv (aw 2 (aa (pV 0) ao))) (bj 8) aJ (aw 54 (aa (pV 8) (aa (pV 1) (aa (pV 2) ao))))))
  (af (bK (p2 ck (pV 3) (pC (.str (ofString "not"))))
  (af (aH (aV (bv (p2 au (pV 4) (pC (.int 0)))) (bj 9) aJ (jC (pV 9))))
  an)
  an)
  (af (bK (p2 ck (pV 3) (pC (.str (ofString "and"))))
  (af (aH (p2 (kY (·&&·)) (p2 au (pV 4) (pC (.int 0))) (p2 au (pV 4) (pC (.int 1)))))
  an)
  an)
  (af (bK (p2 ck (pV 3) (pC (.str (ofString "or"))))
  (af (aH (p2 (kY (·||·)) (p2 au (pV 4) (pC (.int 0))) (p2 au (pV 4) (pC (.int 1)))))
  an)
  an)
  (af (bK (p2 ck (pV 3) (pC (.str (ofString "next"))))
  (af (aH (p2 bc (p3 ci (p2 au (pV 4) (pC (.int 0))) (p1 cN (pC (.int 1))) jB) (bX (aa (p2 au (p2 au (pV 4) (pC (.int 0))) (pV 2)) ao))))
  an)
  an)
  (af (bK (p2 ck (pV 3) (pC (.str (ofString "till"))))
  (af (aH (aw 53 (aa (p2 au (pV 4) (pC (.int 0))) (aa (p2 au (pV 4) (pC (.int 1))) (aa (pV 2) ao)))))
  an)
  an)
  (af (bK (p2 ck (pV 3) (pC (.str (ofString "always"))))
  (af (aG 5 (aw 53 (aa (p2 ma (bX (aa (pC (.bool true)) ao)) (p1 ba (pV 1))) (aa (aV (bv (p2 au (pV 4) (pC (.int 0)))) (bj 10) aJ (jC (pV 10))) (aa (pV 2) ao)))))
  (af (aH (aV (bv (pV 5)) (bj 11) aJ (jC (pV 11))))
  an))
  an)
  (af (aH (p2 ma (bX (aa (p1 u9 (p3 ci (p2 au (pV 4) (pC (.int 0))) (p1 cN (pV 2)) jB)) ao)) (p1 ba (pV 1))))
  an)))))))))))
@[reducible] noncomputable def nO:PS:=
  (af (aH (aw 54 (aa (pV 0) (aa (p2 bc (pV 1) (pV 2)) (aa (p1 ba (pV 1)) ao)))))
  an)
@[reducible] noncomputable def qJ:PS:=
  (af (aH (p2 au (aw 55 (aa (pV 0) (aa (pV 1) (aa (pV 2) ao)))) (pC (.int 0))))
  an)
@[reducible] noncomputable def dw:PS:=
  (af (aG 1 (bX (aa (aM ao) ao)))
  (af (cU (bv (pV 0)) (bj 2)
  (af (aG 1 (p2 bc (aV (bv (pV 1)) (bj 3) aJ (p2 bc (pV 3) (aM (aa (pC (.bool false)) ao)))) (aV (bv (pV 1)) (bj 4) aJ (p2 bc (pV 4) (aM (aa (pC (.bool true)) ao))))))
  an))
  (af (aH (pV 1))
  an)))
@[reducible] noncomputable def gA:PS:=
  (af (aH (p2 au (pV 2) (uw .list jD (pV 1) (pV 0))))
  an)
@[reducible] noncomputable def j6:PS:=
  (af (aG 4 (p2 au (pV 0) (pC (.int 0))))
  (af (bK (p2 ck (pV 4) (pC (.str (ofString "mark"))))
  (af (aH (pB (p2 ck (pV 1) (p2 au (pV 0) (pC (.int 1))))))
  an)
  an)
  (af (bK (p2 ck (pV 4) (pC (.str (ofString "yes"))))
  (af (aH (pC (.bool true)))
  an)
  an)
  (af (bK (p2 ck (pV 4) (pC (.str (ofString "not"))))
  (af (aH (jC (aw 10 (aa (p2 au (pV 0) (pC (.int 1))) (aa (pV 1) (aa (pV 2) (aa (pV 3) ao)))))))
  an)
  an)
  (af (bK (p2 ck (pV 4) (pC (.str (ofString "and"))))
  (af (aH (jj (aw 10 (aa (p2 au (pV 0) (pC (.int 1))) (aa (pV 1) (aa (pV 2) (aa (pV 3) ao))))) (aw 10 (aa (p2 au (pV 0) (pC (.int 2))) (aa (pV 1) (aa (pV 2) (aa (pV 3) ao)))))))
  an)
  an)
  (af (bK (p2 ck (pV 4) (pC (.str (ofString "or"))))
  (af (aH (xB (aw 10 (aa (p2 au (pV 0) (pC (.int 1))) (aa (pV 1) (aa (pV 2) (aa (pV 3) ao))))) (aw 10 (aa (p2 au (pV 0) (pC (.int 2))) (aa (pV 1) (aa (pV 2) (aa (pV 3) ao)))))))
  an)
  an)
  (af (bK (p2 ck (pV 4) (pC (.str (ofString "again"))))
  (af (aH (aw 9 (aa (aM (aa (pC (.str (ofString "always"))) (aa (aM (aa (pC (.str (ofString "till"))) (aa (aM (aa (pC (.str (ofString "yes"))) ao)) (aa (p2 au (pV 0) (pC (.int 1))) ao)))) ao))) (aa (pV 2) (aa (pV 3) ao)))))
  an)
  an)
  (af (aH (aw 9 (aa (pV 0) (aa (pV 2) (aa (pV 3) ao)))))
  an))))))))
@[reducible] noncomputable def iA:PS:=
  (af (bK (p2 ck (p2 au (pV 0) (pC (.int 0))) (pC (.str (ofString "next"))))
  (af (aH (aw 10 (aa (p2 au (pV 0) (pC (.int 1))) (aa (p2 au (pV 3) (pC (.int 0))) (aa (pV 1) (aa (p2 au (pV 3) (pC (.int 1))) ao))))))
  an)
  an)
  (af (bK (p2 ck (p2 au (pV 0) (pC (.int 0))) (pC (.str (ofString "till"))))
  (af (bK (qE (aw 10 (aa (p2 au (pV 0) (pC (.int 2))) (aa (p2 au (pV 2) (pC (.int 0))) (aa (pV 1) (aa (p2 au (pV 2) (pC (.int 1))) ao))))))
  (af (aH (pC (.bool true)))
  an)
  an)
  (af (aH (jj (aw 10 (aa (p2 au (pV 0) (pC (.int 1))) (aa (p2 au (pV 2) (pC (.int 0))) (aa (pV 1) (aa (p2 au (pV 2) (pC (.int 1))) ao))))) (aw 9 (aa (pV 0) (aa (pV 1) (aa (p2 au (pV 3) (pC (.int 1))) ao))))))
  an))
  an)
  (af (aH (jj (aw 10 (aa (p2 au (pV 0) (pC (.int 1))) (aa (p2 au (pV 2) (pC (.int 0))) (aa (pV 1) (aa (p2 au (pV 2) (pC (.int 1))) ao))))) (aw 9 (aa (pV 0) (aa (pV 1) (aa (p2 au (pV 3) (pC (.int 1))) ao))))))
  an)))
@[reducible] noncomputable def gB:PS:=
  (af (cU (bv (pV 0)) (bj 3)
  (af (bK (p2 o8 (aw 9 (aa (pV 3) (aa (pV 0) (aa (p2 au (pV 1) (pC (.int 1))) ao)))) (aw 11 (aa (pV 3) (aa (pV 0) (aa (pV 1) (aa (pV 2) ao))))))
  (af (aH (pC (.bool false)))
  an)
  an)
  an))
  (af (aH (pC (.bool true)))
  an))
@[reducible] noncomputable def dt:PS:=
  (af (aH (p2 bc (bX (aa (pC .none) ao)) (aV (bv (aw 500 (aa (pV 0) ao))) (bj 1) (p2 lX (p2 au (pV 1) (pC (.int 0))) (aM (aa (pC (.str (ofString "till"))) (aa (pC (.str (ofString "always"))) ao)))) (pV 1))))
  an)
@[reducible] noncomputable def iD:PS:=
  (af (bK (p2 s8 (pV 0) (pC .none))
  (af (aH (pC (.bool true)))
  an)
  an)
  (af (bK (p2 ck (p2 au (pV 0) (pC (.int 0))) (pC (.str (ofString "till"))))
  (af (aH (xB (jC (aw 9 (aa (pV 0) (aa (pV 2) (aa (pV 3) ao))))) (aw 10 (aa (p2 au (pV 0) (pC (.int 2))) (aa (pV 1) (aa (pV 2) (aa (pV 3) ao)))))))
  an)
  an)
  (af (aH (xB (aw 9 (aa (pV 0) (aa (pV 2) (aa (pV 3) ao)))) (jC (aw 10 (aa (p2 au (pV 0) (pC (.int 1))) (aa (pV 1) (aa (pV 2) (aa (pV 3) ao))))))))
  an)))
@[reducible] noncomputable def dP:PS:=
  (af (aG 1 (bX ao))
  (af (aG 2 ux)
  (af (cU (bv (p1 (kO 10 4) (pV 0))) (bj 3)
  (af (bK (p2 fK (pV 3) (pV 2))
  (af (ud 2 eG (pV 3) (pC (.bool true)))
  (af (aG 4 (bX (aa (aM (aa (pV 3) (aa (pC (.int 0)) ao))) ao)))
  (af (eR 20000 (p2 o8 (pV 4) (bX ao))
  (af (wC 4 [5,6])
  (af (bK (p2 ck (pV 6) (p1 ba (p2 idxD (p1 (kO 10 6) (pV 0)) (pV 5))))
  (af (ii 1 d9 (pV 5))
  an)
  (af (ii 4 d9 (aM (aa (pV 5) (aa (p2 bc (pV 6) (pC (.int 1))) ao))))
  (af (aG 7 (p2 au (p2 idxD (p1 (kO 10 6) (pV 0)) (pV 5)) (pV 6)))
  (af (bK (p2 fK (pV 7) (pV 2))
  (af (ud 2 eG (pV 7) (pC (.bool true)))
  (af (ii 4 d9 (aM (aa (pV 7) (aa (pC (.int 0)) ao))))
  an))
  an)
  an))))
  an)))
  an)))
  an)
  an))
  (af (aH (pV 1))
  an))))
@[reducible] noncomputable def eM:PS:=
  (af (aG 1 (aw 35 (aa (pV 0) ao)))
  (af (aG 2 ux)
  (af (aG 3 (bX ao))
  (af (cU (bv (p1 uk (aw 34 (aa (pV 0) ao)))) (bj 4)
  (af (bK (p2 fK (pV 4) (pV 2))
  (af (ud 2 eG (pV 4) (pC (.bool true)))
  (af (aG 5 (bX (aa (pV 4) ao)))
  (af (aG 6 (pC (.int 0)))
  (af (eR 400 (p2 vI (pV 6) (p1 ba (pV 5)))
  (af (cU (bv (p2 idxD (pV 1) (p2 au (pV 5) (pV 6)))) (bj 7)
  (af (bK (p2 fK (pV 7) (pV 2))
  (af (ud 2 eG (pV 7) (pC (.bool true)))
  (af (ii 5 d9 (pV 7))
  an))
  an)
  an))
  (af (aG 6 (p2 bc (pV 6) (pC (.int 1))))
  an)))
  (af (ii 3 d9 (pV 5))
  an)))))
  an)
  an))
  (af (aH (pV 3))
  an)))))
@[reducible] noncomputable def dQ:PS:=
  (af (aH (xB (pB (p2 Au (p1 ba (pV 1)) (pC (.int 1)))) (pB (p2 lX (p2 au (pV 1) (pC (.int 0))) (p2 idxD (p1 (kO 10 6) (pV 0)) (p2 au (pV 1) (pC (.int 0))))))))
  an)
@[reducible] noncomputable def j5:PS:=
  (af (cU (cn (aa (p1 ba (p1 (kO 10 1) (pV 0))) ao)) (bj 2)
  (af (bK (dK (qE (p1 u9 (aV (bv (pV 1)) (bj 3) aJ (rN 10 1005 (pV 0) (aa (pV 3) (aa (pV 2) ao)))))))
  (af (aH (pV 2))
  an)
  an)
  an))
  (af (aH (pC .none))
  an))
@[reducible] noncomputable def gy:PS:=
  (af (aG 3 (p1 ti (aV (bv (pV 1)) (bj 7) aJ (aM (aa (pV 7) (aa (pC .none) ao))))))
  (af (aG 4 (p1 jo (pV 1)))
  (af (eR 400 (p2 o8 (pV 4) (bX ao))
  (af (nM 4 5)
  (af (bK (p2 lX (pV 5) (pV 2))
  (af (aH (aw 40 (aa (pV 3) (aa (pV 5) ao))))
  an)
  an)
  (af (cU (bv (p2 idxD (p1 (kO 10 6) (pV 0)) (pV 5))) (bj 6)
  (af (bK (p2 fK (pV 6) (pV 3))
  (af (ud 3 eG (pV 6) (pV 5))
  (af (ii 4 d9 (pV 6))
  an))
  an)
  an))
  an))))
  (af (aH (bX ao))
  an))))
@[reducible] noncomputable def eH:PS:=
  (af (aG 2 (bX ao))
  (af (eR 400 (p2 FO (pV 1) (pC .none))
  (af (ii 2 d9 (pV 1))
  (af (aG 1 (p2 idxD (pV 0) (pV 1)))
  an)))
  (af (aH (p1 uk (pV 2)))
  an)))
@[reducible] noncomputable def gx:PS:=
  (af (aG 2 (bX (aa (p2 au (pV 1) (pC (.int 0))) ao)))
  (af (cU (cn (aa (p1 ba (p1 (kO 10 1) (pV 0))) ao)) (bj 3)
  (af (aG 4 (aV (bv (pV 1)) (bj 6) (qE (rN 10 1005 (pV 0) (aa (pV 6) (aa (pV 3) ao)))) (pV 6)))
  (af (aG 2 (p2 bc (pV 2) (p3 ci (aw 39 (aa (pV 0) (aa (p3 ci (pV 2) (p1 cN (p1 eQ (pC (.int 1)))) jB) (aa (pV 4) ao)))) (p1 cN (pC (.int 1))) jB)))
  an)))
  (af (aG 5 (aV (bv (p2 idxD (p1 (kO 10 6) (pV 0)) (p2 au (pV 2) (p1 eQ (pC (.int 1)))))) (bj 7) (p2 lX (pV 7) (pV 1)) (pV 7)))
  (af (aH (p2 bc (pV 2) (p3 ci (aw 39 (aa (pV 0) (aa (pV 5) (aa (p3 ci (pV 1) jB (p1 cN (pC (.int 1)))) ao)))) jB (p1 cN (p1 eQ (pC (.int 1)))))))
  an))))
@[reducible] noncomputable def eN:PS:=
  (af (aG 2 (p3 ci (aw 39 (aa (pV 0) (aa (p3 ci (p1 (kO 10 4) (pV 0)) jB (p1 cN (p1 (kO 10 5) (pV 0)))) (aa (p3 ci (pV 1) jB (p1 cN (pC (.int 1)))) ao)))) jB (p1 cN (p1 eQ (pC (.int 1))))))
  (af (aH (aM (aa (pC (.str (ofString "breaks"))) (aa (aV (bv (pV 2)) (bj 3) aJ (p2 au (pV 3) (pC (.int 0)))) (aa (aV (bv (aw 41 (aa (pV 0) (aa (pV 1) ao)))) (bj 4) aJ (p2 au (pV 4) (pC (.int 0)))) ao)))))
  an))
@[reducible] noncomputable def iC:PS:=
  (af (aG 2 (uv 10 1001 (aa (pV 0) (aa (pV 1) ao))))
  (af (aG 3 (aw 36 (aa (pV 2) ao)))
  (af (aG 4 (bX ao))
  (af (cU (sZ (pV 3)) (AA 5 6)
  (af (aG 7 (pC (.int 0)))
  (af (bK (qE (aw 37 (aa (pV 2) (aa (pV 6) ao))))
  (af (aG 7 (aw 38 (aa (pV 2) (aa (pV 6) ao))))
  (af (bK (p2 s8 (pV 7) (pC .none))
  (af (aH (aw 42 (aa (pV 2) (aa (pV 6) ao))))
  an)
  an)
  an))
  an)
  (af (ii 4 jk (aV (bv (pV 6)) (bj 8) aJ (aM (aa (p2 au (pV 8) (pC (.int 0))) (aa (p2 au (pV 8) (pC (.int 1))) (aa (p2 d5 (p2 d5 (p1 ba (pV 3)) (pC (.int 1))) (pV 5)) (aa (pV 7) ao)))))))
  an))))
  (af (aH (aM (aa (pC (.str (ofString "keeps"))) (aa (pV 4) ao))))
  an)))))
@[reducible] noncomputable def jy:PS:=
  (af (aH (jj (p1 (gq .int) (pV 0)) (jj (jC (p1 (gq .bool) (pV 0))) (pB (nQ Bs vI (pC (.int 0)) (pV 0) (pV 1))))))
  an)
@[reducible] noncomputable def gk:PS:=
  (af (bK (hJ (dK (qE (p1 (gq .list) (pV 0)))) (hJ (p2 ck (p1 ba (pV 0)) (pC (.int 0))) cS))
  (af eS
  an)
  an)
  (af (cU (sZ (pV 0)) (AA 2 3)
  (af (bK (hJ (dK (qE (aw 15 (aa (pV 3) (aa (pV 1) ao))))) (hJ (p2 lX (pV 3) (p3 ci (pV 0) jB (p1 cN (pV 2)))) cS))
  (af eS
  an)
  an)
  an))
  an))
@[reducible] noncomputable def fY:PS:=
  (af (bK (hJ (dK (qE (p1 (gq .list) (pV 1)))) (hJ (dK (qE (p1 (gq .list) (pV 2)))) (hJ (p2 ck (p1 ba (pV 2)) (pC (.int 0))) cS)))
  (af eS
  an)
  an)
  (af (cU (bv (p2 bc (pV 1) (pV 2))) (bj 3)
  (af (bK (dK (qE (aw 15 (aa (pV 3) (aa (p1 ba (p1 (kO 0 0) (pV 0))) ao)))))
  (af eS
  an)
  an)
  an))
  (af (aG 4 (p2 bc (p2 bc (pV 1) (pV 2)) (p3 ci (pV 2) jB (p1 cN (pC (.int 1))))))
  (af (bK (p2 eP (p2 au (pV 4) (pC (.int 0))) (p1 (kO 0 2) (pV 0)))
  (af eS
  an)
  an)
  (af (cU (cn (aa (p2 d5 (p1 ba (pV 4)) (pC (.int 1))) ao)) (bj 5)
  (af (bK (p2 eP (p2 au (pV 4) (p2 bc (pV 5) (pC (.int 1)))) (p2 au (p1 (kO 0 1) (pV 0)) (p2 au (pV 4) (pV 5))))
  (af eS
  an)
  an)
  an))
  an)))))
@[reducible] noncomputable def gn:PS:=
  (af (jQ (aw 57 (aa (pV 0) (aa (pV 1) (aa (pV 2) ao)))))
  (af (aH (aM (aa (aV (bv (pV 1)) (bj 3) aJ (rN 0 1007 (pV 0) (aa (pV 3) ao))) (aa (aV (bv (pV 2)) (bj 4) aJ (rN 0 1007 (pV 0) (aa (pV 4) ao))) ao))))
  an))
@[reducible] noncomputable def fI:PS:=
  (af (bK (p2 vI (pV 1) (p1 ba (pV 0)))
  (af (aH (p2 au (pV 0) (pV 1)))
  an)
  an)
  (af (aH (pC (.int 0)))
  an))
@[reducible] noncomputable def iH:PS:=
  (af (j7 1 (p2 bc (pQ 1) (pC (.int 1))))
  (af (aG 2 (p2 d5 (pQ 1) (pC (.int 1))))
  (af (bK (p2 vI (pV 2) (p1 ba (pV 0)))
  (af (aH (p2 au (pV 0) (pV 2)))
  an)
  an)
  (af (bK (er (p2 Au (p1 ba (pV 0)) (pC (.int 4))) (er (p2 vI (pV 2) (pC (.int 50))) aJ))
  (af (aH (p2 bM (p2 iK (p2 bc (p2 au (pV 0) (p2 bM (pV 2) (p1 ba (pV 0)))) (p2 iK (pC (.int 7919)) (pV 2))) (pC (.int 48271))) (pC (.int 1000003))))
  an)
  an)
  (af (aH (pC (.int 0)))
  an)))))
@[reducible] noncomputable def gP:PS:=
  (af (aG 1 (pC (.str (ofString "abcdefghijklmnopqrstuvwxyz"))))
  (af (aG 2 (uw .str vO (pC (.str (ofString ""))) (aV (cn (aa (pC (.int 6)) ao)) (bj 8) aJ (p2 au (pV 1) (p2 bM (p2 bc (p2 d7 (pV 0) (pC (.int 7))) (p2 iK (pC (.int 5)) (pV 8))) (pC (.int 26)))))))
  (af (bK (p2 ck (p2 bM (pV 0) (pC (.int 3))) (pC (.int 2)))
  (af (aG 3 (p2 bc (pC (.int 1)) (p2 bM (p2 d7 (pV 0) (pC (.int 3))) (pC (.int 4)))))
  (af (aH (aV (cn (aa (pC (.int 3)) ao)) (bj 9) aJ (p3 ci (pV 2) jB (p1 cN (p2 bc (pV 3) (pV 9))))))
  an))
  an)
  (af (aG 3 (p2 bM (p2 d7 (pV 0) (pC (.int 3))) (pC (.int 6))))
  (af (aG 4 (p2 bM (p2 d7 (pV 0) (pC (.int 18))) (p2 bc (pV 3) (pC (.int 1)))))
  (af (aG 5 (bX ao))
  (af (cU (cn (aa (pC (.int 3)) ao)) (bj 6)
  (af (aG 7 (p2 au (pV 1) (p2 bM (p2 bc (p2 d7 (pV 0) (pC (.int 90))) (p2 iK (pC (.int 7)) (pV 6))) (pC (.int 26)))))
  (af (ii 5 d9 (p2 bc (p2 bc (p3 ci (pV 2) jB (p1 cN (pV 4))) (pV 7)) (p3 ci (pV 2) (p1 cN (pV 4)) (p1 cN (pV 3)))))
  an)))
  (af (aH (pV 5))
  an))))))))
@[reducible] noncomputable def iG:PS:=
  (af (aG 4 (aw 18 (aa (pV 0) (aa (pV 1) ao))))
  (af (aG 5 (p2 d7 (pV 4) (pC (.int 13))))
  (af (bK (hJ (p2 vI (pV 3) (pC (.int 2))) (hJ (p2 vI (p2 bM (pV 4) (pC (.int 13))) (pC (.int 2))) cS))
  (af (bK (p2 ck (p2 bM (pV 5) (pC (.int 9))) (pC (.int 4)))
  (af (aH (aM (aa (pC (.str (ofString "yes"))) ao)))
  an)
  an)
  (af (aH (aM (aa (pC (.str (ofString "mark"))) (aa (p2 au (pV 2) (p2 bM (pV 5) (pC (.int 3)))) ao))))
  an))
  an)
  (af (aG 6 (pC (.str (ofString "not and or next till always again till always next not"))))
  (af (aG 7 (p2 au (uw .str qs (pV 6) (pC (.str (ofString " ")))) (p2 d5 (p2 bM (pV 4) (pC (.int 13))) (pC (.int 2)))))
  (af (aG 8 (aw 20 (aa (pV 0) (aa (pV 1) (aa (pV 2) (aa (p2 d5 (pV 3) (pC (.int 1))) ao))))))
  (af (bK (p2 lX (pV 7) (aM (aa (pC (.str (ofString "not"))) (aa (pC (.str (ofString "next"))) (aa (pC (.str (ofString "always"))) (aa (pC (.str (ofString "again"))) ao))))))
  (af (aH (aM (aa (pV 7) (aa (pV 8) ao))))
  an)
  an)
  (af (aH (aM (aa (pV 7) (aa (pV 8) (aa (aw 20 (aa (pV 0) (aa (pV 1) (aa (pV 2) (aa (p2 d5 (pV 3) (pC (.int 1))) ao))))) ao)))))
  an))))))))
@[reducible] noncomputable def jA:PS:=
  (af (aG 1 (bX (aa (pV 0) ao)))
  (af (cU (bv (p3 ci (pV 0) (p1 cN (pC (.int 1))) jB)) (bj 2)
  (af (bK (qE (p1 (gq .tuple) (pV 2)))
  (af (aG 1 (p2 bc (pV 1) (aw 21 (aa (pV 2) ao))))
  an)
  an)
  an))
  (af (aH (pV 1))
  an)))
@[reducible] noncomputable def gQ:PS:=
  (af (aG 1 (bX ao))
  (af (cU (bv (aw 21 (aa (pV 0) ao))) (bj 2)
  (af (aG 3 (bX ao))
  (af (bK (p2 lX (p2 au (pV 2) (pC (.int 0))) (aM (aa (pC (.str (ofString "next"))) (aa (pC (.str (ofString "till"))) (aa (pC (.str (ofString "always"))) ao)))))
  (af (aG 3 (bX (aa (pV 2) ao)))
  an)
  (af (bK (p2 ck (p2 au (pV 2) (pC (.int 0))) (pC (.str (ofString "again"))))
  (af (aG 3 (bX (aa (aM (aa (pC (.str (ofString "till"))) (aa (aM (aa (pC (.str (ofString "yes"))) ao)) (aa (p2 au (pV 2) (pC (.int 1))) ao)))) (aa (aM (aa (pC (.str (ofString "always"))) (aa (aM (aa (pC (.str (ofString "till"))) (aa (aM (aa (pC (.str (ofString "yes"))) ao)) (aa (p2 au (pV 2) (pC (.int 1))) ao)))) ao))) ao))))
  an)
  an)
  an))
  (af (aG 1 (p2 bc (pV 1) (aV (bv (pV 3)) (bj 4) (p2 eP (pV 4) (pV 1)) (pV 4))))
  an))))
  (af (aH (pV 1))
  an)))
@[reducible] noncomputable def jz:PS:=
  (af (eR 40 (p2 Au (p1 ba (aw 22 (aa (pV 0) ao))) (pV 1))
  (af (aG 0 (p2 au (pV 0) (p1 eQ (pC (.int 1)))))
  an))
  (af (aH (pV 0))
  an))
@[reducible] noncomputable def gR:PS:=
  (af (aG 3 (p2 bc (p1 ba (pV 0)) (p1 ba (pV 1))))
  (af (aH (p2 bc (aV (cn (aa (pV 2) (aa (pV 3) ao))) (bj 4) aJ (pV 4)) (aV (cn (aa (p1 ba (pV 0)) (aa (pV 3) ao))) (bj 5) aJ (pV 5))))
  an))
@[reducible] noncomputable def iE:PS:=
  (af (cU (bv (pV 2)) (bj 3)
  (af (bK (qE (p2 au (pV 1) (pV 3)))
  (af (aH (pC (.bool true)))
  an)
  an)
  (af (bK (dK (qE (p2 au (pV 0) (pV 3))))
  (af (aH (pC (.bool false)))
  an)
  an)
  an)))
  (af (aH (pC (.bool false)))
  an))
@[reducible] noncomputable def bA:PS:=
  (af (aG 3 (p2 au (pV 0) (pC (.int 0))))
  (af (aG 4 (p2 bc (pV 1) (pV 2)))
  (af (bK (p2 ck (pV 3) (pC (.str (ofString "mark"))))
  (af (aH (aV (bv (pV 4)) (bj 6) aJ (pB (p2 ck (pV 6) (p2 au (pV 0) (pC (.int 1)))))))
  an)
  an)
  (af (bK (p2 ck (pV 3) (pC (.str (ofString "yes"))))
  (af (aH (aV (bv (pV 4)) (bj 7) aJ (pC (.bool true))))
  an)
  an)
  (af (aG 5 (aV (bv (p3 ci (pV 0) (p1 cN (pC (.int 1))) jB)) (bj 8) aJ (aw 46 (aa (pV 8) (aa (pV 1) (aa (pV 2) ao))))))
  (af (bK (p2 ck (pV 3) (pC (.str (ofString "not"))))
  (af (aH (aV (bv (p2 au (pV 5) (pC (.int 0)))) (bj 9) aJ (jC (pV 9))))
  an)
  an)
  (af (bK (p2 ck (pV 3) (pC (.str (ofString "and"))))
  (af (aH (p2 (kY (·&&·)) (p2 au (pV 5) (pC (.int 0))) (p2 au (pV 5) (pC (.int 1)))))
  an)
  an)
  (af (bK (p2 ck (pV 3) (pC (.str (ofString "or"))))
  (af (aH (p2 (kY (·||·)) (p2 au (pV 5) (pC (.int 0))) (p2 au (pV 5) (pC (.int 1)))))
  an)
  an)
  (af (bK (p2 ck (pV 3) (pC (.str (ofString "next"))))
  (af (aH (aV (cn (aa (p1 ba (pV 4)) ao)) (bj 10) aJ (p2 au (p2 au (pV 5) (pC (.int 0))) (p2 au (aw 44 (aa (pV 1) (aa (pV 2) (aa (pV 10) ao)))) (pC (.int 1))))))
  an)
  an)
  (af (bK (p2 ck (pV 3) (pC (.str (ofString "always"))))
  (af (aH (aV (cn (aa (p1 ba (pV 4)) ao)) (bj 11) aJ (pB (p2 eP (pC (.bool false)) (aV (bv (aw 44 (aa (pV 1) (aa (pV 2) (aa (pV 11) ao))))) (bj 12) aJ (p2 au (p2 au (pV 5) (pC (.int 0))) (pV 12)))))))
  an)
  an)
  (af (bK (p2 ck (pV 3) (pC (.str (ofString "again"))))
  (af (aH (aV (bv (pV 4)) (bj 13) aJ (pB (p2 lX (pC (.bool true)) (p3 ci (p2 au (pV 5) (pC (.int 0))) (p1 cN (p1 ba (pV 1))) jB)))))
  an)
  an)
  (af (aH (aV (cn (aa (p1 ba (pV 4)) ao)) (bj 14) aJ (aw 45 (aa (p2 au (pV 5) (pC (.int 0))) (aa (p2 au (pV 5) (pC (.int 1))) (aa (aw 44 (aa (pV 1) (aa (pV 2) (aa (pV 14) ao)))) ao))))))
  an))))))))))))
@[reducible] noncomputable def iF:PS:=
  (af (aG 3 (p2 bM (p2 iK (pV 0) (pC (.int 48271))) (pC (.int 1000003))))
  (af (aG 4 (bX (aa (p2 bM (pV 2) (pV 1)) ao)))
  (af (cU (cn (aa (pC (.int 1)) (aa (pV 1) ao))) (bj 5)
  (af (bK (p2 ck (p2 bM (pV 3) (pC (.int 3))) (pC (.int 1)))
  (af (ii 4 d9 (p2 bM (p2 bc (pV 2) (pV 5)) (pV 1)))
  an)
  an)
  (af (aG 3 (p2 d7 (pV 3) (pC (.int 3))))
  an)))
  (af (aH (pV 4))
  an))))
@[reducible] noncomputable def fH:PS:=
  (af (aG 4 (p2 bc (pC (.int 1)) (p2 bM (aw 18 (aa (pV 0) (aa (pV 1) ao))) (pV 3))))
  (af (aG 5 (p2 bc (pV 2) (bX (aa (pC (.str (ofString ""))) (aa (p2 au (pV 2) (pC (.int 0))) (aa (p2 au (pV 2) (pC (.int 1))) ao))))))
  (af (aG 6 (bX ao))
  (af (aG 7 (bX ao))
  (af (cU (cn (aa (pV 4) ao)) (bj 8)
  (af (aG 9 (aw 18 (aa (pV 0) (aa (pV 1) ao))))
  (af (ii 6 d9 (p2 au (pV 5) (p2 bM (pV 9) (pC (.int 6)))))
  (af (ii 7 d9 (aw 24 (aa (pV 9) (aa (pV 4) (aa (p2 d7 (pV 9) (pC (.int 6))) ao)))))
  an))))
  (af (aG 9 (aw 18 (aa (pV 0) (aa (pV 1) ao))))
  (af (bK (p2 ck (p2 bM (pV 9) (pC (.int 4))) (pC (.int 3)))
  (af (aH (aM (aa (pV 6) (aa (pV 7) (aa (aw 24 (aa (pV 9) (aa (pV 4) (aa (p2 d7 (pV 9) (pC (.int 4))) ao)))) ao)))))
  an)
  an)
  (af (aH (aM (aa (pV 6) (aa (pV 7) (aa (bX (aa (p2 bM (p2 d7 (pV 9) (pC (.int 4))) (pV 4)) ao)) ao)))))
  an))))))))
@[reducible] noncomputable def fZ:PS:=
  (af (lP [4,5,6] (pV 2))
  (af (aG 7 (bX (aa (p2 au (pV 6) (p2 bM (aw 18 (aa (pV 0) (aa (pV 1) ao))) (p1 ba (pV 6)))) ao)))
  (af (aG 8 (p2 bM (aw 18 (aa (pV 0) (aa (pV 1) ao))) (pV 3)))
  (af (eR 100 (hJ (p2 Bs (p1 ba (pV 7)) (pV 8)) (hJ (p2 eP (p2 au (pV 7) (p1 eQ (pC (.int 1)))) (p3 ci (pV 7) jB (p1 cN (p1 eQ (pC (.int 1)))))) cS))
  (af (aG 9 (p2 au (pV 5) (p2 au (pV 7) (p1 eQ (pC (.int 1))))))
  (af (ii 7 d9 (p2 au (pV 9) (p2 bM (aw 18 (aa (pV 0) (aa (pV 1) ao))) (p1 ba (pV 9)))))
  an)))
  (af (aG 10 (uw .list jD (pV 7) (p2 au (pV 7) (p1 eQ (pC (.int 1))))))
  (af (bK (p2 Au (uw .list lB (pV 7) (p2 au (pV 7) (p1 eQ (pC (.int 1))))) (pC (.int 2)))
  (af (aG 10 (GA .list gW (pV 7) (p2 au (pV 7) (p1 eQ (pC (.int 1)))) (p2 bc (pV 10) (pC (.int 1)))))
  an)
  an)
  (af (aH (aM (aa (p3 ci (pV 7) jB (p1 cN (pV 10))) (aa (p3 ci (pV 7) (p1 cN (pV 10)) (p1 cN (p1 eQ (pC (.int 1))))) ao))))
  an)))))))
@[reducible] noncomputable def dR:PS:=
  (af (aG 2 (aM (aa (pC (.str (ofString "mark"))) (aa (p2 au (pV 1) (p2 bM (p2 d7 (pV 0) (pC (.int 8))) (pC (.int 3)))) ao))))
  (af (aG 3 (aM (aa (pC (.str (ofString "mark"))) (aa (p2 au (pV 1) (p2 bM (p2 bc (p2 bc (p2 d7 (pV 0) (pC (.int 8))) (pC (.int 1))) (p2 bM (p2 d7 (pV 0) (pC (.int 24))) (pC (.int 2)))) (pC (.int 3)))) ao))))
  (af (aG 4 (aM (aa (pC (.str (ofString "till"))) (aa (aM (aa (pC (.str (ofString "yes"))) ao)) (aa (pV 3) ao)))))
  (af (aG 5 (bX (aa (aM (aa (pC (.str (ofString "again"))) (aa (pV 2) ao))) (aa (aM (aa (pC (.str (ofString "not"))) (aa (aM (aa (pC (.str (ofString "again"))) (aa (pV 2) ao))) ao))) (aa (aM (aa (pC (.str (ofString "always"))) (aa (aM (aa (pC (.str (ofString "or"))) (aa (aM (aa (pC (.str (ofString "not"))) (aa (pV 2) ao))) (aa (pV 4) ao)))) ao))) (aa (aM (aa (pC (.str (ofString "not"))) (aa (aM (aa (pC (.str (ofString "always"))) (aa (pV 4) ao))) ao))) ao))))))
  (af (aG 5 (p2 bc (pV 5) (bX (aa (aM (aa (pC (.str (ofString "not"))) (aa (aM (aa (pC (.str (ofString "always"))) (aa (aM (aa (pC (.str (ofString "or"))) (aa (aM (aa (pC (.str (ofString "not"))) (aa (pV 2) ao))) (aa (pV 4) ao)))) ao))) ao))) (aa (aM (aa (pC (.str (ofString "or"))) (aa (aM (aa (pC (.str (ofString "again"))) (aa (pV 2) ao))) (aa (aM (aa (pC (.str (ofString "next"))) (aa (pV 3) ao))) ao)))) ao)))))
  (af (aH (p2 au (p2 bc (pV 5) (bX (aa (aM (aa (pC (.str (ofString "not"))) (aa (aM (aa (pC (.str (ofString "and"))) (aa (aM (aa (pC (.str (ofString "again"))) (aa (pV 2) ao))) (aa (pV 3) ao)))) ao))) (aa (aM (aa (pC (.str (ofString "not"))) (aa (aM (aa (pC (.str (ofString "till"))) (aa (aM (aa (pC (.str (ofString "not"))) (aa (pV 2) ao))) (aa (pV 3) ao)))) ao))) ao)))) (p2 bM (pV 0) (pC (.int 8)))))
  an))))))
@[reducible] noncomputable def gO:PS:=
  (af (aG 4 (p2 bM (p2 d7 (aw 17 (aa (pV 0) (aa (pC (.int 0)) ao))) (pC (.int 5))) (pC (.int 16))))
  (af (aG 5 (p2 au (bX (aa (pC (.int 4)) (aa (pC (.int 3)) (aa (pC (.int 2)) (aa (pC (.int 12)) (aa (pC (.int 8)) ao)))))) (p2 iK (pV 4) (p1 ta (pB (p2 vI (pV 4) (pC (.int 5))))))))
  (af (aG 6 (p2 au (bX (aa (pC (.int 2)) (aa (pC (.int 3)) (aa (pC (.int 4)) (aa (pC (.int 1)) (aa (pC (.int 1)) ao)))))) (p2 iK (pV 4) (p1 ta (pB (p2 vI (pV 4) (pC (.int 5))))))))
  (af (aG 7 (aw 25 (aa (pV 0) (aa (pV 1) (aa (pV 2) (aa (pV 5) ao))))))
  (af (aG 8 (aw 23 (aa (aw 20 (aa (pV 0) (aa (pV 1) (aa (pV 2) (aa (pV 3) ao))))) (aa (pV 6) ao))))
  (af (aG 9 (aw 18 (aa (pV 0) (aa (pV 1) ao))))
  (af (bK (er (p2 ck (p2 bM (pV 9) (pC (.int 3))) (pC (.int 0))) (er (p2 eP (pV 4) (aM (aa (pC (.int 3)) (aa (pC (.int 4)) ao)))) aJ))
  (af (aG 8 (aw 47 (aa (p2 d7 (pV 9) (pC (.int 3))) (aa (pV 2) ao))))
  an)
  an)
  (af (aH (aM (aa (pV 7) (aa (pV 8) ao))))
  an))))))))
@[reducible] noncomputable def fi:PS:=
  (af (aG 5 (aM (aa (aV (bv (pV 3)) (bj 7) aJ (p2 au (p2 au (pV 1) (pC (.int 0))) (pV 7))) (aa (aV (bv (pV 4)) (bj 8) aJ (p2 au (p2 au (pV 1) (pC (.int 0))) (pV 8))) ao))))
  (af (bK (p2 o8 (aw 58 (aa (pV 0) (aa (pV 3) (aa (pV 4) ao)))) (pV 5))
  (af (aH (pC .none))
  an)
  an)
  (af (aG 6 (p2 au (aw 46 (aa (pV 2) (aa (p2 au (pV 5) (pC (.int 0))) (aa (p2 au (pV 5) (pC (.int 1))) ao)))) (pC (.int 0))))
  (af (bK (p2 o8 (aw 56 (aa (pV 2) (aa (p2 au (pV 5) (pC (.int 0))) (aa (p2 au (pV 5) (pC (.int 1))) ao)))) (pV 6))
  (af (aH (pC .none))
  an)
  an)
  (af (aH (pV 6))
  an)))))
@[reducible] noncomputable def vB:PS:=
  (af (aG 2 (aw 19 (aa (aw 17 (aa (pV 0) (aa (pC (.int 0)) ao))) ao)))
  (af (lP [3,4] (aw 48 (aa (pV 0) (aa (pV 1) (aa (pV 2) (aa (pC (.int 4)) ao))))))
  (af (aG 5 (uv 0 1006 (aa (p2 au (pV 3) (pC (.int 0))) (aa (p2 au (pV 3) (pC (.int 1))) (aa (p2 au (pV 3) (pC (.int 2))) ao)))))
  (af (aG 6 (aw 43 (aa (pV 5) (aa (pV 4) ao))))
  (af (aG 7 (aM (aa (pC (.str (ofString "not"))) (aa (pV 4) ao))))
  (af (bK (p2 ck (p2 au (pV 4) (pC (.int 0))) (pC (.str (ofString "not"))))
  (af (aG 7 (p2 au (pV 4) (pC (.int 1))))
  an)
  an)
  (af (aG 8 (aw 43 (aa (pV 5) (aa (pV 7) ao))))
  (af (bK (er (p2 ck (p2 au (pV 6) (pC (.int 0))) (pC (.str (ofString "keeps")))) (er (p2 ck (p2 au (pV 8) (pC (.int 0))) (pC (.str (ofString "keeps")))) aJ))
  (af (aH (pC (.bool false)))
  an)
  an)
  (af (cU (cn (aa (pC (.int 3)) ao)) (bj 9)
  (af (lP [10,11] (aw 59 (aa (pV 0) (aa (pV 1) (aa (pV 3) (aa (pC (.int 5)) ao))))))
  (af (aG 12 (aw 60 (aa (pV 5) (aa (pV 3) (aa (pV 4) (aa (pV 10) (aa (pV 11) ao)))))))
  (af (bK (hJ (p2 s8 (pV 12) (pC .none)) (hJ (er (dK (qE (pV 12))) (er (p2 ck (p2 au (pV 6) (pC (.int 0))) (pC (.str (ofString "keeps")))) aJ)) (hJ (er (qE (pV 12)) (er (p2 ck (p2 au (pV 8) (pC (.int 0))) (pC (.str (ofString "keeps")))) aJ)) cS)))
  (af (aH (pC (.bool false)))
  an)
  an)
  an))))
  (af (bK (er (p2 ck (p2 au (pV 6) (pC (.int 0))) (pC (.str (ofString "breaks")))) (er (p2 y5 (aw 60 (aa (pV 5) (aa (pV 3) (aa (pV 4) (aa (p2 au (pV 6) (pC (.int 1))) (aa (p2 au (pV 6) (pC (.int 2))) ao)))))) (pC (.bool false))) aJ))
  (af (aH (pC (.bool false)))
  an)
  an)
  (af (bK (er (p2 ck (p2 au (pV 8) (pC (.int 0))) (pC (.str (ofString "breaks")))) (er (p2 y5 (aw 60 (aa (pV 5) (aa (pV 3) (aa (pV 4) (aa (p2 au (pV 8) (pC (.int 1))) (aa (p2 au (pV 8) (pC (.int 2))) ao)))))) (pC (.bool true))) aJ))
  (af (aH (pC (.bool false)))
  an)
  an)
  (af (aH (pB (p2 ck (aw 43 (aa (pV 5) (aa (pV 4) ao))) (pV 6))))
  an))))))))))))
@[reducible] noncomputable def c7:PS:=
  (af (jQ (aw 7 (aa (pV 2) ao)))
  (af (t8 10 0 (aw 500 (aa (pV 2) ao)))
  (af (t8 10 1 (aw 13 (aa (pV 2) ao)))
  (af (t8 10 2 (pV 1))
  (af (t8 10 3 ux)
  (af (t8 10 4 (bX ao))
  (af (cU (bv (rN 0 1009 (pV 1) ao)) (bj 3)
  (af (cU (bv (aw 8 (aa (fX 10 0) ao))) (bj 4)
  (af (bK (dK (qE (aw 10 (aa (pV 2) (aa (rN 0 1007 (pV 1) (aa (pV 3) ao)) (aa (fX 10 0) (aa (pV 4) ao)))))))
  (af (qK 10 4 (aM (aa (pV 3) (aa (pV 4) ao))))
  an)
  an)
  an))
  an))
  (af (t8 10 5 (p1 ba (o7 10 4)))
  (af (t8 10 6 ux)
  (af (jQ (sG 10 1002 ao))
  an))))))))))
@[reducible] noncomputable def fJ:PS:=
  (af (aG 1 (p1 ti (nP 10 4 (bj 5) (aM (aa (pV 5) (aa (pC (.bool true)) ao))))))
  (af (aG 2 (pC (.int 0)))
  (af (eR 400 (p2 vI (pV 2) (p1 ba (o7 10 4)))
  (af (aG 3 (CA 10 4 au (pV 2)))
  (af (pR 10 6 (pV 3) (sG 10 1003 (aa (pV 3) ao)))
  (af (cU (bv (CA 10 6 idxD (pV 3))) (bj 4)
  (af (bK (p2 fK (pV 4) (pV 1))
  (af (ud 1 eG (pV 4) (pC (.bool true)))
  (af (qK 10 4 (pV 4))
  an))
  an)
  an))
  (af (aG 2 (p2 bc (pV 2) (pC (.int 1))))
  an)))))
  an)))
@[reducible] noncomputable def dS:PS:=
  (af (aG 2 (aM (aa (rN 0 1007 (fX 10 2) (aa (p2 au (pV 1) (pC (.int 0))) ao)) (aa (p2 au (pV 1) (pC (.int 1))) ao))))
  (af (aG 3 (bX ao))
  (af (cU (bv (rN 0 1008 (fX 10 2) (aa (p2 au (pV 1) (pC (.int 0))) ao))) (bj 4)
  (af (ii 3 jk (aV (bv (sG 10 1004 (aa (pV 2) (aa (rN 0 1007 (fX 10 2) (aa (pV 4) ao)) ao)))) (bj 5) aJ (aM (aa (pV 4) (aa (pV 5) ao)))))
  an))
  (af (aH (pV 3))
  an))))
@[reducible] noncomputable def bR:PS:=
  (af (bK (p2 fK (aM (aa (pV 1) (aa (pV 2) ao))) (o7 10 3))
  (af (aG 3 (aV (bv (aw 8 (aa (fX 10 0) ao))) (bj 4) (qE (aw 12 (aa (fX 10 0) (aa (pV 1) (aa (aM (aa (pV 2) (aa (pV 4) ao))) ao))))) (pV 4)))
  (af (pR 10 3 (aM (aa (pV 1) (aa (pV 2) ao))) (pV 3))
  an))
  an)
  (af (aH (CA 10 3 idxD (aM (aa (pV 1) (aa (pV 2) ao)))))
  an))
@[reducible] noncomputable def eO:PS:=
  (af (aH (aw 14 (aa (p2 au (fX 10 1) (pV 2)) (aa (rN 0 1007 (fX 10 2) (aa (p2 au (pV 1) (pC (.int 0))) ao)) (aa (fX 10 0) (aa (p2 au (pV 1) (pC (.int 1))) ao))))))
  an)
@[reducible] noncomputable def dF:PS:=
  (af (bK (hJ (dK (qE (p1 (gq .list) (pV 1)))) (hJ (dK (nQ Bs Bs (pC (.int 1)) (p1 ba (pV 1)) (pC (.int 12)))) cS))
  (af eS
  an)
  an)
  (af (bK (dK (qE (p1 kU (aV (bv (pV 1)) (bj 5) aJ (aw 1 (aa (pV 5) ao))))))
  (af eS
  an)
  an)
  (af (bK (hJ (dK (qE (p1 (gq .list) (pV 2)))) (hJ (p2 o8 (p1 ba (pV 2)) (p1 ba (pV 1))) cS))
  (af eS
  an)
  an)
  (af (cU (bv (pV 2)) (bj 4)
  (af (jQ (aw 16 (aa (pV 4) (aa (p1 ba (pV 1)) ao))))
  an))
  (af (jQ (aw 16 (aa (pV 3) (aa (p1 ba (pV 1)) ao))))
  (af (t8 0 0 (p1 jo (pV 1)))
  (af (t8 0 1 (aV (bv (pV 2)) (bj 6) aJ (p1 jo (pV 6))))
  (af (t8 0 2 (p1 jo (pV 3)))
  an))))))))
@[reducible] noncomputable def c8:PS:=
  (af (aH (p2 au (fX 0 0) (pV 1)))
  an)
@[reducible] noncomputable def cM:PS:=
  (af (aH (p1 jo (p2 au (fX 0 1) (pV 1))))
  an)
@[reducible] noncomputable def cz:PS:=
  (af (aH (p1 jo (fX 0 2)))
  an)
noncomputable def rows:List (Nat×gK):=[(1,⟨1,1,gz⟩),
 (2,⟨1,0,fE⟩),
 (3,⟨1,0,fF⟩),
 (4,⟨2,1,eK⟩),
 (5,⟨1,0,eL⟩),
 (6,⟨1,1,eJ⟩),
 (500,⟨1,4,fG⟩),
 (7,⟨1,0,du⟩),
 (53,⟨3,4,iB⟩),
 (54,⟨3,9,gj⟩),
 (55,⟨3,0,nO⟩),
 (56,⟨3,0,qJ⟩),
 (8,⟨1,4,dw⟩),
 (9,⟨3,0,gA⟩),
 (10,⟨4,1,j6⟩),
 (11,⟨4,0,iA⟩),
 (12,⟨3,1,gB⟩),
 (13,⟨1,1,dt⟩),
 (14,⟨4,0,iD⟩),
 (34,⟨1,7,dP⟩),
 (35,⟨1,4,rQ⟩),
 (36,⟨1,7,eM⟩),
 (37,⟨2,0,dQ⟩),
 (38,⟨2,2,j5⟩),
 (39,⟨3,5,gy⟩),
 (40,⟨2,1,eH⟩),
 (41,⟨2,6,gx⟩),
 (42,⟨2,3,eN⟩),
 (43,⟨2,7,iC⟩),
 (15,⟨2,0,jy⟩),
 (16,⟨2,2,gk⟩),
 (57,⟨3,3,fY⟩),
 (58,⟨3,2,gn⟩),
 (17,⟨2,0,fI⟩),
 (18,⟨2,1,iH⟩),
 (19,⟨1,9,gP⟩),
 (20,⟨4,5,iG⟩),
 (21,⟨1,2,jA⟩),
 (22,⟨1,4,gQ⟩),
 (23,⟨2,0,jz⟩),
 (44,⟨3,3,gR⟩),
 (45,⟨3,1,iE⟩),
 (46,⟨3,12,bA⟩),
 (24,⟨3,3,iF⟩),
 (25,⟨4,6,fH⟩),
 (59,⟨4,7,fZ⟩),
 (47,⟨2,4,dR⟩),
 (48,⟨4,6,gO⟩),
 (60,⟨5,4,fi⟩),
 (999,⟨1,12,eS⟩),
 (1001,⟨3,2,c7⟩),
 (1002,⟨1,5,fJ⟩),
 (1003,⟨2,4,dS⟩),
 (1004,⟨3,2,bR⟩),
 (1005,⟨3,0,eO⟩),
 (1006,⟨4,3,dF⟩),
 (1007,⟨2,0,c8⟩),
 (1008,⟨2,0,cM⟩),
 (1009,⟨1,0,cz⟩)]
noncomputable def Ψ (f:Nat):Option gK:=(rows.find? fun r=>Nat.beq r.1 f).map (·.2)
end
end Mine.L08
end
section
set_option maxRecDepth 100000
set_option maxHeartbeats 4000000
namespace Mine.L08
noncomputable section
open PySem PySem.W PyProof.Rows
noncomputable def lW:List FI:=[(1,bU pw_uf020006_08 11,(ofString "is_mark"),true,[lo "thing"],[1],100001000010000100000000000000000000),
 (2,bU pw_uf020006_08 12,(ofString "parts_of"),true,[lo "saying"],[],0),
 (3,bU pw_uf020006_08 13,(ofString "has_form"),true,[lo "thing"],[],0),
 (4,bU pw_uf020006_08 14,(ofString "is_within"),true,[lo "thing",ce "deep"],[2],200000000000000000000),
 (5,bU pw_uf020006_08 15,(ofString "is_saying"),true,[lo "thing"],[],0),
 (6,bU pw_uf020006_08 16,(ofString "own_bonds"),true,[lo "saying",lo "ahead"],[],0),
 (500,bU pw_uf020006_08 17,(ofString "bonds_in"),true,[lo "saying",ce "found",lo "part"],[3,4],4000010000000000000000000000003000010000000000000000000100000),
 (7,bU pw_uf020006_08 18,(ofString "need_saying"),true,[lo "saying"],[],0),
 (53,bU pw_uf020006_08 20,(ofString "till_over"),true,[lo "ones",lo "others",lo "begin",lo "found",lo "turn",lo "at",lo "behind"],[],4000000000000000000000000000000000000000000000000010000000000000000000100000),
 (54,bU pw_uf020006_08 21,(ofString "over"),true,[ce "saying",ce "marks",ce "begin",lo "word",lo "rows",lo "never"],[6,7,8,9,10,11],110000000000000000001000000000000000000000000000000000000000000000000000000000000000000000000000000000000000000000000000000000000000000000000000000000000000000009000000000000000000080000000002000000000000000000070000000000000000000000000000060000000000000000000000000),
 (55,bU pw_uf020006_08 22,(ofString "row_of"),true,[lo "saying",lo "way",lo "ring"],[],0),
 (56,bU pw_uf020006_08 23,(ofString "holds"),true,[lo "saying",lo "way",lo "ring"],[],0),
 (8,bU pw_uf020006_08 25,(ofString "all_guesses"),true,[lo "bonds",lo "found",lo "bond"],[3,4],40000000003000000000000000000000000000000),
 (9,bU pw_uf020006_08 26,(ofString "guessed"),true,[lo "bond",lo "bonds",lo "guess"],[],0),
 (10,bU pw_uf020006_08 27,(ofString "is_so"),true,[lo "saying",lo "mark",lo "bonds",lo "guess",lo "word"],[],0),
 (11,bU pw_uf020006_08 28,(ofString "wanted"),true,[lo "bond",lo "bonds",lo "now",lo "then"],[],0),
 (12,bU pw_uf020006_08 29,(ofString "goes_on"),true,[lo "bonds",lo "now",lo "then",lo "bond"],[],0),
 (13,bU pw_uf020006_08 30,(ofString "promises_of"),true,[lo "saying"],[1],100000),
 (14,bU pw_uf020006_08 31,(ofString "is_met"),true,[lo "promise",lo "mark",lo "bonds",lo "guess"],[],0),
 (34,bU pw_uf020006_08 35,(ofString "left_order"),true,[lo "web",lo "found",lo "met",lo "start",lo "stack",lo "knot",lo "at",lo "other"],[],20000000000000000000500000000000000000000000010000000001000000000100000000010000000000000000000100000000000000100000000010000000000000002000000000000010000000001000000000100000000000000000001000000000100000),
 (35,bU pw_uf020006_08 36,(ofString "led_from"),true,[lo "web",lo "found",lo "knot",lo "other"],[4],0),
 (36,bU pw_uf020006_08 37,(ofString "clumps_of"),true,[lo "web",lo "backs",lo "met",lo "found",lo "start",lo "clump",lo "at",lo "other"],[],400000000000000000001000000000600000000000000000000000000000000001000000000100000000010000000000000010000000000004000000000000000000000100000000010000000001000000000000000000010000000001000000000000000),
 (37,bU pw_uf020006_08 38,(ofString "goes_round"),true,[lo "web",lo "clump"],[],1000000000000000),
 (38,bU pw_uf020006_08 39,(ofString "unmet"),true,[ce "web",lo "clump",ce "number"],[3],3000000000000000),
 (39,bU pw_uf020006_08 40,(ofString "path_to"),true,[lo "web",lo "starts",lo "goals",lo "came",lo "waiting",lo "here",lo "other"],[7],10000000001000000000100000000010000000000000000000000004000000000000003000000040000000000010000000000000070000100000),
 (40,bU pw_uf020006_08 41,(ofString "path_back"),true,[lo "came",lo "knot",lo "found"],[],1000000000000001000000000000400000000000100000),
 (41,bU pw_uf020006_08 42,(ofString "ring_in"),true,[ce "web",ce "clump",lo "found",ce "number",lo "goals",lo "behind"],[6,7],1000000000700000000020000000000000000000000000000060000000002000000000000000000000000000000),
 (42,bU pw_uf020006_08 43,(ofString "broken_by"),true,[lo "web",lo "clump",lo "way"],[3,4],4000000000000003000000000000000),
 (43,bU pw_uf020006_08 44,(ofString "judged"),true,[lo "machine",lo "saying",lo "web",ce "clumps",lo "rows",ce "at",lo "clump",ce "number"],[8],500000000000000000000000080000100000000000000000000000000000000000000000000000000000000000000000000010000000000000000000000000),
 (15,bU pw_uf020006_08 47,(ofString "is_place"),true,[lo "thing",lo "many"],[],0),
 (16,bU pw_uf020006_08 48,(ofString "need_places"),true,[lo "thing",lo "many",lo "at",lo "place"],[],0),
 (57,bU pw_uf020006_08 50,(ofString "need_walk"),true,[lo "machine",lo "way",lo "ring",lo "place",lo "gone",lo "at"],[],0),
 (58,bU pw_uf020006_08 51,(ofString "marks_along"),true,[ce "machine",lo "way",lo "ring"],[3,4],40000000003000000000000000),
 (17,bU pw_uf020006_08 53,(ofString "_law_cell_at"),true,[lo "_law_script",lo "_law_k"],[],0),
 (18,bU pw_uf020006_08 54,(ofString "_law_draw"),true,[lo "_law_script",lo "_law_spot",lo "_law_k"],[],0),
 (19,bU pw_uf020006_08 55,(ofString "_law_names"),true,[ce "_law_cell",ce "_law_letters",ce "_law_rest",ce "_law_size",lo "_law_at",lo "_law_found",lo "_law_k",lo "_law_letter"],[8,9],600000000010000000000000000000000000000000000100000000000000000000000000000000000000090000000000000000000000000000000000800000000000000000000),
 (20,bU pw_uf020006_08 56,(ofString "_law_made"),true,[lo "_law_script",lo "_law_spot",lo "_law_names_here",lo "_law_deep",lo "_law_cell",lo "_law_more",lo "_law_kinds",lo "_law_kind",lo "_law_one"],[],0),
 (21,bU pw_uf020006_08 57,(ofString "_law_all"),true,[lo "_law_saying",lo "_law_found",lo "_law_part"],[],0),
 (22,bU pw_uf020006_08 58,(ofString "_law_bonds"),true,[lo "_law_saying",ce "_law_found",lo "_law_one",lo "_law_more"],[4],40000000000000000000000000000000000000000000000000000000000000000000000000000000000000000000000000000000000000000000),
 (23,bU pw_uf020006_08 59,(ofString "_law_fit"),true,[lo "_law_saying",lo "_law_most"],[],4000000),
 (44,bU pw_uf020006_08 60,(ofString "_law_after"),true,[lo "_law_way",lo "_law_ring",lo "_law_at",lo "_law_size"],[4,5],50000000004000000000000000),
 (45,bU pw_uf020006_08 61,(ofString "_law_till"),true,[lo "_law_ones",lo "_law_others",lo "_law_moments",lo "_law_k"],[],0),
 (46,bU pw_uf020006_08 62,(ofString "_law_means"),true,[ce "_law_saying",ce "_law_way",ce "_law_ring",lo "_law_word",lo "_law_run",ce "_law_rows"],[6,7,8,9,10,11,12,13,14],140000000000000000000000000000130000000000000000000000000000000001200000000000001100000000000000000000000000000000000000100000000000000000000000000000000000000000000000000000000000000000000000000000000900000000000000000008000000000000000000000000700000000000000000000000000000600000000000000000000000000000000000),
 (24,bU pw_uf020006_08 63,(ofString "_law_some"),true,[lo "_law_cell",lo "_law_many",lo "_law_first",lo "_law_rest",lo "_law_found",lo "_law_k"],[],50000000000000000000000000000010000000000000000000000001000000000000000),
 (25,bU pw_uf020006_08 64,(ofString "_law_machine"),true,[lo "_law_script",lo "_law_spot",lo "_law_names_here",lo "_law_most",lo "_law_many",lo "_law_some_here",lo "_law_marks",lo "_law_ways",lo "_law_k",lo "_law_cell"],[],700008000000000000007000080000000000000000000000001000000000000001000000000000000000000000000001000000000100000000000000000000000000000000000),
 (59,bU pw_uf020006_08 65,(ofString "_law_walk"),true,[lo "_law_script",lo "_law_spot",lo "_law_machine_here",lo "_law_most",lo "_law_marks",lo "_law_ways",lo "_law_begins",lo "_law_trail",lo "_law_first",lo "_law_row",lo "_law_at"],[],100000000000000000000000000000000000001000000000000000000000000001000000000100000),
 (47,bU pw_uf020006_08 66,(ofString "_law_often"),true,[lo "_law_cell",lo "_law_names_here",lo "_law_one",lo "_law_other",lo "_law_ever",lo "_law_some_here"],[],0),
 (48,bU pw_uf020006_08 67,(ofString "_law_small"),true,[lo "_law_script",lo "_law_spot",lo "_law_names_here",lo "_law_deep",lo "_law_way",lo "_law_places",lo "_law_bonds_here",lo "_law_drawn",lo "_law_saying",lo "_law_cell"],[],0),
 (60,bU pw_uf020006_08 68,(ofString "_law_along"),true,[lo "_law_machine_here",ce "_law_drawn",lo "_law_saying",lo "_law_way",lo "_law_ring",lo "_law_marks",lo "_law_due"],[7,8],8000000000000000000070000000000),
 (999,bU pw_uf020006_08 69,(ofString "law"),true,[lo "_law_script",lo "_law_spot",lo "_law_names_here",lo "_law_drawn",lo "_law_saying",lo "_law_machine_here",lo "_law_found",lo "_law_contrary",lo "_law_other",lo "_law_k",lo "_law_way",lo "_law_ring",lo "_law_told"],[],0),
 (1001,qT pw_uf020006_08 33 0,(ofString "__init__"),false,[lo "self",lo "machine",lo "saying",lo "place",lo "guess"],[],100000000000000000000000000000000000000000000000000000000000000000),
 (1002,qT pw_uf020006_08 33 1,(ofString "spin"),false,[lo "self",lo "met",lo "at",lo "knot",lo "other"],[5],100000000010000000001000000000100000000000000000000000000000000400000000000000000000050000100000),
 (1003,qT pw_uf020006_08 33 2,(ofString "led_to"),false,[lo "self",lo "knot",lo "now",lo "found",ce "place"],[5],40000000000000050000100000000000000000000000010000000000000000000000000),
 (1004,qT pw_uf020006_08 33 3,(ofString "guesses_behind"),false,[ce "self",ce "now",ce "mark",lo "some"],[4],10000000000000000000000000000040000000002000000000100000),
 (1005,qT pw_uf020006_08 33 4,(ofString "meets"),false,[lo "self",lo "knot",lo "number"],[],0),
 (1006,qT pw_uf020006_08 49 0,(ofString "__init__"),false,[lo "self",lo "marks",lo "ways",lo "begins",lo "row"],[5,6],60000000000000000000000000000000000000000000000000000000000000000000000000000000500000000000000000000),
 (1007,qT pw_uf020006_08 49 1,(ofString "mark"),false,[lo "self",lo "place"],[],0),
 (1008,qT pw_uf020006_08 49 2,(ofString "leads"),false,[lo "self",lo "place"],[],0),
 (1009,qT pw_uf020006_08 49 3,(ofString "starts"),false,[lo "self"],[],0)]
noncomputable def xI:LT:=([((ofString "is_mark"),1),((ofString "parts_of"),2),((ofString "has_form"),3),((ofString "is_within"),4),((ofString "is_saying"),5),((ofString "own_bonds"),6),((ofString "bonds_in"),500),((ofString "need_saying"),7),((ofString "till_over"),53),((ofString "over"),54),((ofString "row_of"),55),((ofString "holds"),56),((ofString "all_guesses"),8),((ofString "guessed"),9),((ofString "is_so"),10),((ofString "wanted"),11),((ofString "goes_on"),12),((ofString "promises_of"),13),((ofString "is_met"),14),((ofString "left_order"),34),((ofString "led_from"),35),((ofString "clumps_of"),36),((ofString "goes_round"),37),((ofString "unmet"),38),((ofString "path_to"),39),((ofString "path_back"),40),((ofString "ring_in"),41),((ofString "broken_by"),42),((ofString "judged"),43),((ofString "is_place"),15),((ofString "need_places"),16),((ofString "need_walk"),57),((ofString "marks_along"),58),((ofString "_law_cell_at"),17),((ofString "_law_draw"),18),((ofString "_law_names"),19),((ofString "_law_made"),20),((ofString "_law_all"),21),((ofString "_law_bonds"),22),((ofString "_law_fit"),23),((ofString "_law_after"),44),((ofString "_law_till"),45),((ofString "_law_means"),46),((ofString "_law_some"),24),((ofString "_law_machine"),25),((ofString "_law_walk"),59),((ofString "_law_often"),47),((ofString "_law_small"),48),((ofString "_law_along"),60)],
 [((ofString "__init__"),1006),((ofString "mark"),1007),((ofString "leads"),1008),((ofString "starts"),1009)],[((ofString "__init__"),1001),((ofString "spin"),1002),((ofString "led_to"),1003),((ofString "guesses_behind"),1004),((ofString "meets"),1005)],
 [((ofString "LETTERS"),.str (ofString "abcdefghijklmnopqrstuvwxyz")),((ofString "MOST_BONDS"),.int 4),((ofString "MOST_DEEP"),.int 5),((ofString "MOST_LETTERS"),.int 6),((ofString "MOST_PLACES"),.int 12)])
noncomputable def ks:List Nat:=rows.map (·.1)
theorem H5:rK q Ψ ks lW xI:=⟨by kernel_rfl,fun _ _ _ _ _=>by kernel_rfl,fun _ _ _ _ _ _=>by kernel_rfl,fun _ _ _ _ _ _ _=>by kernel_rfl,fun _ _ _ _ _ _ _ _=>by kernel_rfl,fun _ _ _ _ _ _ _ _ _=>by kernel_rfl,by kernel_rfl,fun b=>by cases b<;>kernel_rfl,by kernel_rfl,fun b=>by cases b<;>kernel_rfl,fun b=>by cases b<;>kernel_rfl,by kernel_rfl⟩
theorem AJ (P:Pg)(D:hH P xI):ks.map (E7 D lW)=ks.map (Ff Ψ):=by kernel_rfl
theorem Bo (P:Pg)(D:hH P xI)(F:gK)(e:Ψ 35=some F):An P lW 35 F.body:=by
 have h:F.body=rQ:=congrArg gK.body (Option.some.inj e.symm)
 rw [h]
 exact ⟨⟨[],[4],false⟩,DP (D.o false) (by decide+kernel) rfl rfl rfl rfl rfl rfl rfl (.inl rfl) (.inl rfl) (.inl rfl) (by decide+kernel) (by decide+kernel) rf rfl rf⟩
theorem DV (P:Pg)(D:hH P xI):(E5 D 60 ⟨t7 lW 999,jm lW 999⟩ ⟨[],m5 lW 999,false⟩ false (u4 lW 999).tail 100000000000000000000000000000000001000000000000000000000000000000000000000000000000000000000001000000000000000000000000000000000000000000000000000000000000000000000000000000000000000000000000000000000000000000000000000000000000001000000000000000).map (·.1.2.1)=some vB:=by kernel_rfl
theorem BW {mean:ExcName->Option Value}{mg mb:Str->Option Value}{h:Heap}(T:Top q (looseW q []) mean mg mb h)(P:Pg):∀p∈xI.2.2.2,∃u,mg p.1=some u/\∀g h,Rp P g h p.2 u:=all_cons (xf T (by kernel_rfl) (by decide+kernel)) (all_cons (jd T (by kernel_rfl)) (all_cons (jd T (by kernel_rfl)) (all_cons (jd T (by kernel_rfl)) (all_cons (jd T (by kernel_rfl)) (fun _ h=>nomatch h)))))
theorem G8:rw_uf020006_08.wellSaid=true:=by kernel_rfl
theorem I3:(chainsOk q&&opensWell rw_uf020006_08.row.prog&&(frees rw_uf020006_08.row.toRowW&&rw_uf020006_08.row.within.isEmpty))=true:=by kernel_rfl
end
end Mine.L08
end
section
set_option tactic.hygienic false
namespace Mine.Ltl
noncomputable section
open PySem
inductive Sy where
 |mark (x:Str)
 |yes
 |not (a:Sy)
 |and (a c:Sy)
 |or (a c:Sy)
 |next (a:Sy)
 |till (a c:Sy)
 |always (a:Sy)
 |again (a:Sy)
noncomputable instance:DecidableEq Sy:=fun a b=>Classical.propDecidable (a=b)
noncomputable def nx (n b i:Nat):Nat:=if i+1=n then b else i+1
noncomputable def U (n b:Nat)(p q:Nat->Bool):Nat->Nat->Bool
 | 0,_=>false
 |k+1,i=>q i||(p i&&U n b p q k (nx n b i))
noncomputable def it (n b:Nat):Nat->Nat->Nat
 | 0,i=>i
 |t+1,i=>it n b t (nx n b i)
theorem GR {n b k i:Nat}{p q:Nat->Bool}:U n b p q (k+1) i=(q i||(p i&&U n b p q k (nx n b i))):=rfl
theorem Eb {n b t i:Nat}:it n b (t+1) i=it n b t (nx n b i):=rfl
theorem tV {n b:Nat}{p q:Nat->Bool}:∀{k i:Nat},U n b p q k i=true↔∃t,t < k/\q (it n b t i)=true/\∀u,u < t->p (it n b u i)=true
 | 0,i=>⟨fun h=>(nomatch h),fun ⟨_,h,_⟩=>absurd h (not_lt_zero _)⟩
 |k+1,i=>by
  rw [GR,or_eq_true,and_eq_true,tV]
  constructor
  .rintro (h | ⟨h,t,h1,h2,h3⟩)
   .exact ⟨0,by lia,h,fun u hu=>by lia⟩
   .refine ⟨t+1,by lia,h2,fun u hu=>?_⟩
    cases u with
    |zero=>exact h
    |succ u=>exact h3 u (by lia)
  .rintro ⟨t,h1,h2,h3⟩
   cases t with
   |zero=>exact .inl h2
   |succ t=>exact .inr ⟨h3 0 (by lia),t,by lia,h2,fun u hu=>h3 (u+1) (by lia)⟩
theorem CD {n b i:Nat}(hb:b < n)(hi:i < n):nx n b i < n:=by
 unfold nx;split<;>lia
theorem fL {n b:Nat}:∀(s t i:Nat),it n b (s+t) i=it n b t (it n b s i)
 | 0,t,i=>by rw [zero_add];rfl
 |s+1,t,i=>by rw [show s+1+t=(s+t)+1 by lia,Eb,fL s t];rfl
theorem uH {n b:Nat}(hb:b < n):∀(t i:Nat),i+t<=b->it n b t i=i+t
 | 0,i,_=>rfl
 |t+1,i,h=>by
  rw [Eb,show nx n b i=i+1 by unfold nx;rw [if_neg (by lia)],uH hb t (i+1) (by lia)];lia
theorem fj {n b:Nat}(hb:b < n):∀(t r:Nat),r < n - b->it n b t (b+r)=b+(r+t) % (n - b)
 | 0,r,h=>by rw [Nat.add_zero,Nat.mod_eq_of_lt h];rfl
 |t+1,r,h=>by
  rw [Eb]
  by_cases e:b+r+1=n
  .rw [show nx n b (b+r)=b+0 by unfold nx;rw [if_pos e];rfl,fj hb t 0 (sub_pos_of_lt hb)]
   have:r+(t+1)=(0+t)+(n - b):=by lia
   rw [this,Nat.add_mod_right]
  .rw [show nx n b (b+r)=b+(r+1) by unfold nx;rw [if_neg e];rfl,fj hb t (r+1) (by lia)]
   rw [add_assoc,add_comm 1 t]
theorem wW {n b:Nat}(hb:b < n){i t:Nat}(hi:i < n)(ht:b - i<=t):it n b (t+(n - b)) i=it n b t i:=by
 by_cases h:b<=i
 .obtain ⟨r,rfl⟩:=exists_eq_add_of_le h
  rw [fj hb _ r (by lia),fj hb _ r (by lia),<-add_assoc,Nat.add_mod_right]
 .have e:it n b (b - i) i=b+0:=by rw [uH hb _ _ (by lia)];lia
  obtain ⟨u,rfl⟩:=exists_eq_add_of_le ht
  have e1:it n b (b - i+u) i=it n b u (b+0):=by rw [fL,e]
  have e2:it n b (b - i+u+(n - b)) i=it n b (u+(n - b)) (b+0):=by rw [add_assoc,fL,e]
  rw [e1,e2,fj hb _ 0 (sub_pos_of_lt hb),fj hb _ 0 (sub_pos_of_lt hb),<-add_assoc,Nat.add_mod_right]
theorem Ak {n b:Nat}{p q:Nat->Bool}{k k' i:Nat}(h:k<=k')(hu:U n b p q k i=true):U n b p q k' i=true:=by
 rw [tV] at hu ⊢
 obtain ⟨t,h1,h2⟩:=hu
 exact ⟨t,by lia,h2⟩
theorem wf {n b:Nat}{p q:Nat->Bool}(hb:b < n){i:Nat}(hi:i < n):∀(t:Nat),q (it n b t i)=true->(∀u,u < t->p (it n b u i)=true)->U n b p q ((b - i)+(n - b)) i=true:=by
 intro t
 induction t using Nat.strongRecOn with
 |ind t ih=>
  intro h1 h2
  by_cases ht:t < (b - i)+(n - b)
  .exact tV.mpr ⟨t,ht,h1,h2⟩
  .have ht:=dk ht
   have L:=le_trans (le_add_left _ _) ht
   have p:=sub_pos_of_lt hb
   refine ih (t - (n - b)) (Nat.sub_lt (lt_of_lt_of_le p L) p) ?_ fun u hu=>h2 u (lt_of_lt_of_le hu (sub_le _ _))
   have:=wW hb (t:=t - (n - b)) hi (Nat.le_sub_of_add_le ht)
   rw [Nat.sub_add_cancel L] at this
   rw [<-this];exact h1
noncomputable def l9 (p q:Nat->Bool):List Nat->Bool
 | []=>false
 |k::m=>q k||(p k&&l9 p q m)
theorem qA {p q:Nat->Bool}{k:Nat}{m:List Nat}:l9 p q (k::m)=(q k||(p k&&l9 p q m)):=rfl
theorem pO {n b:Nat}{p q:Nat->Bool}:∀(m i:Nat),i+m=n->l9 p q (range' i m)=U n b p q m i
 | 0,_,_=>rfl
 |m+1,i,h=>by
  rw [range'_succ,qA,GR]
  by_cases e:i+1=n
  .obtain rfl:m=0:=by lia
   rfl
  .rw [pO (n:=n) (b:=b) m (i+1) (by lia)]
   unfold nx;rw [if_neg e]
theorem sg {n b:Nat}{p q:Nat->Bool}(hb:b < n):∀(m i:Nat),i+(m+1)=n->l9 p q (range' i (m+1)++range' b (n - b))=U n b p q ((m+1)+(n - b)) i
 | 0,i,h=>by
  rw [range'_succ,List.range'_zero,cons_append,List.nil_append,qA,pO (b:=b) (n:=n) _ b (by lia),show 0+1+(n - b)=(n - b)+1 by lia,GR]
  unfold nx;rw [if_pos (by lia)]
 |m+1,i,h=>by
  rw [range'_succ,cons_append,qA,sg hb m (i+1) (by lia),show m+1+1+(n - b)=(m+1+(n - b))+1 by lia,GR]
  unfold nx;rw [if_neg (by lia)]
theorem si {n b i:Nat}{p q:Nat->Bool}(hb:b < n)(hi:i < n):l9 p q (range' i (n - i)++range' b (n - b))=U n b p q ((n - i)+(n - b)) i:=by
 obtain ⟨m,hm⟩:∃m,n - i=m+1:=⟨n - i - 1,(Nat.sub_add_cancel (sub_pos_of_lt hi)).symm⟩
 rw [hm];exact sg hb m i (by lia)
theorem pN {q:Nat->Bool}:∀m,l9 (fun _=>true) (fun j=>!q j) m=!m.all q
 | []=>rfl
 |k::m=>by rw [qA,pN m,List.all_cons];cases q k<;>rfl
theorem iL {n b i:Nat}:i∈(List.range n).drop b↔b<=i/\i < n:=by
 rw [List.mem_drop_iff_getElem]
 constructor
 .rintro ⟨j,hj,rfl⟩
  simp at hj ⊢;lia
 .rintro ⟨h1,h2⟩
  refine ⟨i - b,by simp;lia,by simp;lia⟩
noncomputable def cA:Sy->List Sy
 |.next a=>[.next a]
 |.till a c=>[.till a c]
 |.always a=>[.always a]
 |.again a=>[.till .yes a,.always (.till .yes a)]
 |_=>[]
noncomputable def cZ:Sy->List Sy
 |.mark _=>[]
 |.yes=>[]
 |.not a=>[a]
 |.and a c=>[a,c]
 |.or a c=>[a,c]
 |.next a=>[a]
 |.till a c=>[a,c]
 |.always a=>[a]
 |.again a=>[a]
noncomputable def ext (f xs:List Sy):List Sy:=f++xs.filter fun x=>!f.contains x
noncomputable def bonds:Sy->List Sy
 |.mark x=>ext [] (cA (.mark x))
 |.yes=>ext [] (cA .yes)
 |.not a=>ext (ext [] (bonds a)) (cA (.not a))
 |.and a c=>ext (ext (ext [] (bonds a)) (bonds c)) (cA (.and a c))
 |.or a c=>ext (ext (ext [] (bonds a)) (bonds c)) (cA (.or a c))
 |.next a=>ext (ext [] (bonds a)) (cA (.next a))
 |.till a c=>ext (ext (ext [] (bonds a)) (bonds c)) (cA (.till a c))
 |.always a=>ext (ext [] (bonds a)) (cA (.always a))
 |.again a=>ext (ext [] (bonds a)) (cA (.again a))
noncomputable def all:Sy->List Sy
 |.mark x=>[.mark x]
 |.yes=>[.yes]
 |.not a=>.not a::all a
 |.and a c=>.and a c::(all a++all c)
 |.or a c=>.or a c::(all a++all c)
 |.next a=>.next a::all a
 |.till a c=>.till a c::(all a++all c)
 |.always a=>.always a::all a
 |.again a=>.again a::all a
noncomputable def lb (s:Sy):List Sy:=(all s).foldl (fun f t=>ext f (cA t)) []
theorem kg {f xs:List Sy}{x:Sy}:x∈ext f xs↔x∈f\/x∈xs:=by
 simp only [ext,mem_append,List.mem_filter,not_eq_true',List.contains_eq_mem,decide_eq_false_iff_not]
 constructor
 .rintro (h |h)
  .exact .inl h
  .exact .inr h.1
 .rintro (h |h)
  .exact .inl h
  .by_cases q:x∈f
   .exact .inl q
   .exact .inr ⟨h,q⟩
theorem bq {f xs:List Sy}(h1:f.Nodup)(h2:xs.Nodup):(ext f xs).Nodup:=by
 rw [ext,nodup_append]
 refine ⟨h1,h2.filter _,fun a ha b hb e=>?_⟩
 subst e
 simp [ha] at hb
theorem cO (s:Sy):(cA s).Nodup:=by
 cases s with
 |again a=>exact List.nodup_cons.mpr ⟨fun h=>(nomatch ae h),pairwise_singleton _ _⟩
 |next |till |always=>exact pairwise_singleton _ _
 |_=>exact .nil
theorem j0 (s:Sy):s∈all s:=by cases s<;>exact .head _
theorem bS:∀s:Sy,(bonds s).Nodup
 |.mark x=>bq .nil (cO _)
 |.yes=>bq .nil (cO _)
 |.not a=>bq (bq .nil (bS a)) (cO _)
 |.and a c=>bq (bq (bq .nil (bS a)) (bS c)) (cO _)
 |.or a c=>bq (bq (bq .nil (bS a)) (bS c)) (cO _)
 |.next a=>bq (bq .nil (bS a)) (cO _)
 |.till a c=>bq (bq (bq .nil (bS a)) (bS c)) (cO _)
 |.always a=>bq (bq .nil (bS a)) (cO _)
 |.again a=>bq (bq .nil (bS a)) (cO _)
theorem Be {x s:Sy}{f l:List Sy}(ih:x∈f↔∃t∈l,x∈cA t):x∈ext f (cA s)↔∃t∈s::l,x∈cA t:=by
 rw [kg,ih]
 exact ⟨fun h=>h.elim (fun ⟨t,a,b⟩=>⟨t,.tail _ a,b⟩) fun b=>⟨s,.head _,b⟩,fun ⟨t,a,b⟩=>(az a).elim (fun e=>.inr (e▸b)) fun a=>.inl ⟨t,a,b⟩⟩
theorem As {x:Sy}{f g l m:List Sy}(ih:x∈f↔∃t∈l,x∈cA t)(ih':x∈g↔∃t∈m,x∈cA t):x∈ext f g↔∃t∈l++m,x∈cA t:=by
 rw [kg,ih,ih']
 exact ⟨fun h=>h.elim (fun ⟨t,a,b⟩=>⟨t,mem_append_left _ a,b⟩) fun ⟨t,a,b⟩=>⟨t,mem_append_right _ a,b⟩,fun ⟨t,a,b⟩=>(ah a).elim (fun a=>.inl ⟨t,a,b⟩) fun a=>.inr ⟨t,a,b⟩⟩
theorem Bg {x:Sy}:x∈([]:List Sy)↔∃t∈([]:List Sy),x∈cA t:=⟨fun h=>(nomatch h),fun ⟨_,h,_⟩=>(nomatch h)⟩
theorem bu {x:Sy}:∀{s:Sy},x∈bonds s↔∃t∈all s,x∈cA t
 |.mark _=>Be Bg
 |.yes=>Be Bg
 |.not a=>Be (As Bg (bu (s:=a)))
 |.and a c=>Be (As (As Bg (bu (s:=a))) (bu (s:=c)))
 |.or a c=>Be (As (As Bg (bu (s:=a))) (bu (s:=c)))
 |.next a=>Be (As Bg (bu (s:=a)))
 |.till a c=>Be (As (As Bg (bu (s:=a))) (bu (s:=c)))
 |.always a=>Be (As Bg (bu (s:=a)))
 |.again a=>Be (As Bg (bu (s:=a)))
theorem yV:∀(ts f:List Sy),f.Nodup->(ts.foldl (fun f t=>ext f (cA t)) f).Nodup/\∀x,x∈ts.foldl (fun f t=>ext f (cA t)) f↔x∈f\/∃t∈ts,x∈cA t
 | [],f,h=>⟨h,fun x=>by simp⟩
 |t::r,f,h=>by
  obtain ⟨h1,h2⟩:=yV r (ext f (cA t)) (bq h (cO t))
  refine ⟨h1,fun x=>?_⟩
  simp only [List.foldl_cons]
  rw [h2,kg]
  simp [or_assoc]
theorem DS (s:Sy):(lb s).length=(bonds s).length:=by
 obtain ⟨h1,h2⟩:=yV (all s) [] .nil
 refine ((List.perm_ext_iff_of_nodup h1 (bS s)).mpr fun x=>?_).length_eq
 rw [h2,bu];simp
noncomputable def look (bs:List Sy)(g:List Bool)(x:Sy):Bool:=(g[bs.idxOf x]?).getD false
noncomputable def so (m:Str)(bs:List Sy)(g:List Bool):Sy->Bool
 |.mark x=>PyData.eqv (.str m) (.str x)
 |.yes=>true
 |.not a=>!so m bs g a
 |.and a c=>so m bs g a&&so m bs g c
 |.or a c=>so m bs g a||so m bs g c
 |.next a=>look bs g (.next a)
 |.till a c=>look bs g (.till a c)
 |.always a=>look bs g (.always a)
 |.again a=>look bs g (.always (.till .yes a))
noncomputable def io (bs:List Sy)(m:Str)(g:List Bool)(m':Str)(g':List Bool):Sy->Bool
 |.next a=>so m' bs g' a
 |.till a c=>so m bs g c||(so m bs g a&&look bs g' (.till a c))
 |.always a=>so m bs g a&&look bs g' (.always a)
 |_=>false
noncomputable def q6 (bs:List Sy)(m:Str)(g:List Bool)(m':Str)(g':List Bool):Bool:=bs.all fun x=>look bs g x==io bs m g m' g' x
noncomputable def met (bs:List Sy)(m:Str)(g:List Bool):Sy->Bool
 |.till a c=>!look bs g (.till a c)||so m bs g c
 |.always a=>look bs g (.always a)||!so m bs g a
 |_=>true
section
variable {bs:List Sy} {m m':Str} {g g':List Bool} {a c:Sy}
theorem rS:io bs m g m' g' (.next a)=so m' bs g' a:=rfl
theorem im:io bs m g m' g' (.till a c)=(so m bs g c||(so m bs g a&&look bs g' (.till a c))):=rfl
theorem gf:io bs m g m' g' (.always a)=(so m bs g a&&look bs g' (.always a)):=rfl
theorem j9:met bs m g (.till a c)=(!look bs g (.till a c)||so m bs g c):=rfl
theorem gU:met bs m g (.always a)=(look bs g (.always a)||!so m bs g a):=rfl
end
noncomputable def dY (bs:List Sy)(s:Sy):Prop:=∀t∈all s,∀x∈cA t,x∈bs
theorem kS {s p t:Sy}(hp:p∈cZ s)(ht:t∈all p):t∈all s:=by
 cases s with
 |mark |yes=>cases hp
 |not |next |always |again=>cases ae hp;exact .tail _ ht
 |and |or |till=>
  refine .tail _ ?_
  rcases az hp with rfl |hp
  .exact mem_append_left _ ht
  .cases ae hp;exact mem_append_right _ ht
theorem aP {bs:List Sy}{s p:Sy}(h:dY bs s)(hp:p∈cZ s):dY bs p:=fun t ht x hx=>h t (kS hp ht) x hx
theorem bE {bs:List Sy}{s:Sy}(h:dY bs s):∀x∈cA s,x∈bs:=h s (j0 s)
theorem fk (s:Sy):dY (bonds s) s:=fun t ht x hx=>bu.mpr ⟨t,ht,hx⟩
theorem GP {s a t u:Sy}(h:t∈s::all a)(k:u∈all t)(e:all s=s::all a)(ih:t∈all a->u∈all a):u∈s::all a:=(az h).elim (fun q=>e▸q▸k) fun h=>.tail _ (ih h)
theorem Ic {s a c t u:Sy}(h:t∈s::(all a++all c))(k:u∈all t)(e:all s=s::(all a++all c))(ih:t∈all a->u∈all a)(ih':t∈all c->u∈all c):u∈s::(all a++all c):=
 (az h).elim (fun q=>e▸q▸k) fun h=>.tail _ ((ah h).elim (fun h=>mem_append_left _ (ih h)) fun h=>mem_append_right _ (ih' h))
theorem cC:∀{s t u:Sy},t∈all s->u∈all t->u∈all s
 |.mark x,t,u,h,k=>ae h▸k
 |.yes,t,u,h,k=>ae h▸k
 |.not a,t,u,h,k=>GP h k rfl fun h=>cC h k
 |.and a c,t,u,h,k=>Ic h k rfl (fun h=>cC h k) fun h=>cC h k
 |.or a c,t,u,h,k=>Ic h k rfl (fun h=>cC h k) fun h=>cC h k
 |.next a,t,u,h,k=>GP h k rfl fun h=>cC h k
 |.till a c,t,u,h,k=>Ic h k rfl (fun h=>cC h k) fun h=>cC h k
 |.always a,t,u,h,k=>GP h k rfl fun h=>cC h k
 |.again a,t,u,h,k=>GP h k rfl fun h=>cC h k
theorem uS {bs:List Sy}{s t:Sy}(h:dY bs s)(ht:t∈all s):dY bs t:=fun u hu x hx=>h u (cC ht hu) x hx
theorem dc {s x p:Sy}(hx:x∈bonds s)(hp:p∈cZ x):dY (bonds s) p:=by
 obtain ⟨t,ht,hx'⟩:=bu.mp hx
 have ct:=uS (fk s) ht
 cases t with
 |next |till |always=>cases ae hx';exact aP ct hp
 |again a=>
  have ca:dY (bonds s) a:=aP ct (.head _)
  have cy:dY (bonds s) .yes:=fun u hu y hy=>by cases ae hu;cases hy
  rcases az hx' with rfl |hx'
  .rcases az hp with rfl |hp
   .exact cy
   .cases ae hp;exact ca
  .cases ae hx'
   cases ae hp
   intro u hu y hy
   rcases az hu with rfl |hu
   .cases ae hy;exact bu.mpr ⟨_,ht,.head _⟩
   .exact (ah hu).elim (fun hu=>cy u hu y hy) fun hu=>ca u hu y hy
 |_=>cases hx'
theorem fy {s x:Sy}(hx:x∈bonds s):(∃a,x=.next a)\/(∃a c,x=.till a c)\/∃a,x=.always a:=by
 obtain ⟨t,_,hx'⟩:=bu.mp hx
 cases t with
 |next=>exact .inl ⟨_,ae hx'⟩
 |till=>exact .inr (.inl ⟨_,_,ae hx'⟩)
 |always=>exact .inr (.inr ⟨_,ae hx'⟩)
 |again=>
  rcases az hx' with h |h
  .exact .inr (.inl ⟨_,_,h⟩)
  .exact .inr (.inr ⟨_,ae h⟩)
 |_=>cases hx'
theorem p8 {n b:Nat}(hb:b < n):∀(t i:Nat),i < n->it n b t i < n
 | 0,_,h=>h
 |t+1,i,h=>p8 hb t _ (CD hb h)
theorem jw {n b i j:Nat}(hb:b < n)(hi:i < n)(h1:b<=j)(h2:j < n):∃t,it n b t i=j:=by
 obtain ⟨s,rfl⟩:=exists_eq_add_of_le h1
 have hs:s < n - b:=Nat.lt_sub_of_add_lt (by rw [add_comm];exact h2)
 by_cases h:b<=i
 .obtain ⟨r,rfl⟩:=exists_eq_add_of_le h
  have hr:r < n - b:=Nat.lt_sub_of_add_lt (by rw [add_comm];exact hi)
  exact ⟨s+(n - b - r),by rw [fj hb _ r hr,Nat.add_left_comm,Nat.add_sub_cancel' (le_of_lt hr),Nat.add_mod_right,Nat.mod_eq_of_lt hs]⟩
 .have h:=le_of_lt (Nat.not_le.mp h)
  exact ⟨(b - i)+s,by
   rw [fL,uH hb (b - i) i (le_of_eq (Nat.add_sub_cancel' h)),Nat.add_sub_cancel' h]
   exact (fj hb s 0 (sub_pos_of_lt hb)).trans (by rw [zero_add,Nat.mod_eq_of_lt hs])⟩
theorem wu {n b:Nat}(hb:b < n){j:Nat}(h1:b<=j)(h2:j < n)(t:Nat):b<=it n b t j:=by
 obtain ⟨r,rfl⟩:=exists_eq_add_of_le h1
 rw [fj hb _ r (by lia)];lia
end
end Mine.Ltl
end
section
set_option tactic.hygienic false
section
namespace Mine
noncomputable section
section
variable {α:Type} {th:α->List α}
inductive l8 (th:α->List α):α->α->Prop
 |refl (a:α):l8 th a a
 |step {a b c:α}:b∈th a->l8 th b c->l8 th a c
theorem l8.trans {a b c:α}(h:l8 th a b)(h':l8 th b c):l8 th a c:=by
 induction h with
 |refl=>exact h'
 |step e _ ih=>exact .step e (ih h')
theorem l8.one {a b:α}(h:b∈th a):l8 th a b:=.step h (.refl _)
inductive iZ (th:α->List α) (P:α->Prop):α->α->Prop
 |refl {a:α}:P a->iZ th P a a
 |step {a b c:α}:P a->b∈th a->iZ th P b c->iZ th P a c
theorem iZ.mono {P Q:α->Prop}(h:∀a,P a->Q a){a b:α}(r:iZ th P a b):iZ th Q a b:=by
 induction r with
 |refl p=>exact .refl (h _ p)
 |step p e _ ih=>exact .step (h _ p) e ih
noncomputable def GT (th:α->List α)(L:List α):Prop:=∀A x B,L=A++x::B->∀u∈A++[x],∀v∈th u,v∈A++[x]\/l8 th v x
inductive rI (th:α->List α) (P:α->Prop):Nat->α->α->Prop
 |refl {a:α}:P a->rI th P 0 a a
 |step {n:Nat} {a b c:α}:P a->b∈th a->rI th P n b c->rI th P (n+1) a c
theorem iZ.n {P:α->Prop}{a b:α}(r:iZ th P a b):∃n,rI th P n a b:=by
 induction r with
 |refl p=>exact ⟨0,.refl p⟩
 |step p e _ ih=>obtain ⟨n,h⟩:=ih;exact ⟨n+1,.step p e h⟩
theorem rI.head {P:α->Prop}{n:Nat}{a b:α}(r:rI th P n a b):P a:=by cases r<;>assumption
theorem wI {A:List α}{x:α}(h:∀u∈A++[x],∀v∈th u,v∈A++[x]\/l8 th v x){P:α->Prop}{s:α}:∀{n:Nat} {y:α},rI th P n y s->y∈A++[x]->s∈A++[x]\/∃v m,m < n/\l8 th v x/\rI th P m v s:=by
 intro n y r
 induction r with
 |refl _=>exact .inl
 |step p e r ih=>
  intro hy
  rcases h _ hy _ e with h1 |h1
  .rcases ih h1 with h2 | ⟨v,m,h2,h3,h4⟩
   .exact .inl h2
   .exact .inr ⟨v,m,Nat.lt_succ_of_lt h2,h3,h4⟩
  .exact .inr ⟨_,_,lt_succ_self _,h1,r⟩
theorem yi {L A B:List α}{s:α}(h:GT th L)(hn:L.Nodup)(e:L=A++s::B):∀(n:Nat) (y:α),rI th (fun a=>a∈A++[s]) n y s->l8 th s y:=by
 intro n
 induction n using Nat.strongRecOn with
 |ind n ih=>
  intro y r
  rcases ah r.head with hy |hy
  .obtain ⟨A',A'',rfl⟩:=List.append_of_mem hy
   have sA:s∉A'++[y]:=fun q=>by
    rw [e] at hn
    refine (aS hn).2.2 s ?_ s (.head _) rfl
    rcases ah q with q |q
    .exact mem_append_left _ q
    .exact mem_append_right _ (ae q▸.head _)
   have h1:=h A' y (A''++s::B) (by rw [e,List.append_assoc];rfl)
   rcases wI h1 r (mem_append_right _ (.head _)) with h2 | ⟨v,m,h2,h3,h4⟩
   .exact absurd h2 sA
   .exact (ih m h2 v h4).trans h3
  .rw [ae hy];exact .refl _
end
section
variable {α:Type} {th:α->List α} {K:List α}
structure rP (th:α->List α) (K found:List α) (st:List (α×Nat)) (met:List α):Prop where
 sub:∀x∈met,x∈K
 same:∀x,x∈met↔x∈found\/x∈st.map Prod.fst
 nd:(found++st.map Prod.fst).Nodup
 fin:∀x∈found,∀y∈th x,y∈met
 take:∀p∈st,p.2<=(th p.1).length/\∀y∈(th p.1).take p.2,y∈met
 chain:∀A p B,st=A++p::B->∀q∈A,l8 th q.1 p.1
 ord:GT th found
 ndm:met.Nodup
theorem rP.nil:rP th K [] [] []:=⟨fun _ h=>(nomatch h),fun x=>(by simp),.nil,fun _ h=>(nomatch h),fun _ h=>(nomatch h),fun A p B e=>(by simp at e),fun A x B e=>(by simp at e),.nil⟩
theorem fC {w:Type}{S A B:List w}{p q:w}(h:S++[p]=A++q::B):(A=S/\q=p/\B=[])\/∃B',B=B'++[p]/\S=A++q::B':=by
 rcases eq_nil_or_concat B with rfl | ⟨B',b,rfl⟩
 .have:=List.append_inj' h rfl
  exact .inl ⟨this.1.symm,(List.singleton_inj.mp this.2).symm,rfl⟩
 .rw [concat_eq_append] at h ⊢
  have h2:S++[p]=(A++q::B')++[b]:=by rw [h,List.append_assoc];rfl
  have:=List.append_inj' h2 rfl
  exact .inr ⟨B',by rw [List.singleton_inj.mp this.2],this.1⟩
theorem rP.start {found met:List α}{s:α}(D:rP th K found [] met)(hs:s∈K)(hm:s∉met):rP th K found [(s,0)] (met++[s]) where
 sub x hx:=(ah hx).elim (D.sub x) fun h=>ae h▸hs
 same x:=by rw [mem_append,D.same];simp
 nd:=by
  have:=D.nd
  rw [map_nil,append_nil] at this
  show (found++[s]).Nodup
  rw [nodup_append]
  exact ⟨this,by simp,fun a ha b hb q=>hm ((D.same s).mpr (.inl (by rw [<-ae hb,<-q];exact ha)))⟩
 fin x hx y hy:=mem_append_left _ (D.fin x hx y hy)
 take p hp:=by cases ae hp;exact ⟨zero_le _,fun y hy=>by rw [List.take_zero] at hy;cases hy⟩
 chain A p B e q hq:=by
  rcases A with _ | ⟨a,A⟩
  .cases hq
  .simp at e
 ord:=D.ord
 ndm:=by rw [nodup_append];exact ⟨D.ndm,by simp,fun a ha b hb q=>hm (by rw [<-ae hb,<-q];exact ha)⟩
theorem rP.leave {found met:List α}{S:List (α×Nat)}{k:α}{n:Nat}(D:rP th K found (S++[(k,n)]) met)(hn:n=(th k).length):rP th K (found++[k]) S met where
 sub:=D.sub
 same x:=by rw [D.same];simp [or_assoc,or_comm,or_left_comm]
 nd:=by
  have:=D.nd
  rw [map_append,<-List.append_assoc] at this
  have h1:=aS this
  rw [List.append_assoc]
  have h2:=aS h1.1
  rw [nodup_append]
  refine ⟨h2.1,List.nodup_cons.mpr ⟨fun q=>h1.2.2 k (mem_append_right _ q) k (.head _) rfl,h2.2.1⟩,fun a ha b hb q=>?_⟩
  rcases az hb with hb |hb
  .exact h1.2.2 a (mem_append_left _ ha) b (by rw [hb];exact .head _) q
  .exact h2.2.2 a ha b hb q
 fin x hx y hy:=by
  rcases ah hx with hx |hx
  .exact D.fin x hx y hy
  .rw [ae hx] at hy
   refine (D.take (k,n) (mem_append_right _ (.head _))).2 y ?_
   rw [hn,take_length];exact hy
 take p hp:=D.take p (mem_append_left _ hp)
 chain A p B e q hq:=D.chain A p (B++[(k,n)]) (by rw [e,List.append_assoc];rfl) q hq
 ord A x B e:=by
  rcases fC e with ⟨rfl,rfl,rfl⟩ | ⟨B',rfl,e'⟩
  .intro u hu v hv
   have hv':v∈met:=by
    rcases ah hu with hu |hu
    .exact D.fin u hu v hv
    .rw [ae hu] at hv
     refine (D.take (x,n) (mem_append_right _ (.head _))).2 v ?_
     rw [hn,take_length];exact hv
   rcases (D.same v).mp hv' with h |h
   .exact .inl (mem_append_left _ h)
   .rw [map_append] at h
    rcases ah h with h |h
    .obtain ⟨q,hq,rfl⟩:=aT h
     exact .inr (D.chain S (x,n) [] rfl q hq)
    .exact .inl (mem_append_right _ h)
  .exact D.ord A x B' e'
 ndm:=D.ndm
theorem rP.on {found met:List α}{S:List (α×Nat)}{k y:α}{n:Nat}(D:rP th K found (S++[(k,n)]) met)(hn:(th k)[n]?=some y)(hy:y∈met):rP th K found (S++[(k,n+1)]) met where
 sub:=D.sub
 same x:=by have:=D.same x;rw [map_append] at this ⊢;exact this
 nd:=by have:=D.nd;rw [map_append] at this ⊢;exact this
 fin:=D.fin
 take p hp:=by
  rcases ah hp with hp |hp
  .exact D.take p (mem_append_left _ hp)
  .cases ae hp
   have h1:=D.take (k,n) (mem_append_right _ (.head _))
   have h2:=(ak hn).1
   refine ⟨h2,fun z hz=>?_⟩
   rw [List.take_succ,hn] at hz
   rcases ah hz with hz |hz
   .exact h1.2 z hz
   .rw [ae hz];exact hy
 chain A p B e q hq:=by
  rcases fC e with ⟨rfl,rfl,rfl⟩ | ⟨B',rfl,e'⟩
  .exact D.chain A (k,n) [] rfl q hq
  .exact D.chain A p (B'++[(k,n)]) (by rw [e',List.append_assoc];rfl) q hq
 ord:=D.ord
 ndm:=D.ndm
theorem rP.push {found met:List α}{S:List (α×Nat)}{k y:α}{n:Nat}(D:rP th K found (S++[(k,n)]) met)(hn:(th k)[n]?=some y)(hk:y∈K)(hy:y∉met):rP th K found (S++[(k,n+1)]++[(y,0)]) (met++[y]) where
 sub x hx:=(ah hx).elim (D.sub x) fun h=>ae h▸hk
 same x:=by
  rw [mem_append,D.same,map_append,map_append,map_append]
  simp only [mem_append,map_cons,map_nil,or_assoc]
 nd:=by
  have:=D.nd
  rw [map_append,map_append,<-List.append_assoc]
  rw [map_append] at this
  rw [nodup_append]
  refine ⟨this,by simp,fun a ha b hb q=>hy ((D.same y).mpr ?_)⟩
  have hb:b=y:=ae hb
  rw [<-hb,<-q,map_append];exact ah ha
 fin x hx z hz:=mem_append_left _ (D.fin x hx z hz)
 take p hp:=by
  rcases ah hp with hp |hp
  .rcases ah hp with hp |hp
   .exact (D.take p (mem_append_left _ hp)).imp id fun h z hz=>mem_append_left _ (h z hz)
   .cases ae hp
    have h1:=D.take (k,n) (mem_append_right _ (.head _))
    refine ⟨(ak hn).1,fun z hz=>?_⟩
    rw [List.take_succ,hn] at hz
    rcases ah hz with hz |hz
    .exact mem_append_left _ (h1.2 z hz)
    .exact mem_append_right _ hz
  .cases ae hp
   exact ⟨zero_le _,fun z hz=>by rw [List.take_zero] at hz;cases hz⟩
 chain A p B e q hq:=by
  rcases fC e with ⟨rfl,rfl,rfl⟩ | ⟨B',rfl,e'⟩
  .have ky:l8 th k y:=.one (mem_of_getElem? hn)
   rcases ah hq with hq |hq
   .exact (D.chain S (k,n) [] rfl q hq).trans ky
   .cases ae hq;exact ky
  .rcases fC e' with ⟨rfl,rfl,rfl⟩ | ⟨B',rfl,e''⟩
   .exact D.chain A (k,n) [] rfl q hq
   .exact D.chain A p (B'++[(k,n)]) (by rw [e'',List.append_assoc];rfl) q hq
 ord:=D.ord
 ndm:=by rw [nodup_append];exact ⟨D.ndm,by simp,fun a ha b hb q=>hy (by rw [<-ae hb,<-q];exact ha)⟩
end
end
end Mine
end
section
namespace Mine
noncomputable section
section
variable {α:Type} [DecidableEq α] {th:α->List α} {K:List α}
noncomputable def fV (th:α->List α)(met:List α):List α->Nat
 | []=>0
 |x::r=>(if x∈met then 0 else (th x).length+2)+fV th met r
theorem k6 {met:List α}{x:α}{r:List α}:fV th met (x::r)=(if x∈met then 0 else (th x).length+2)+fV th met r:=rfl
theorem ve {met:List α}{y:α}:∀K:List α,fV th (met++[y]) K<=fV th met K
 | []=>le_refl _
 |x::r=>by
  rw [k6,k6]
  refine add_le_add ?_ (ve r)
  by_cases h:x∈met
  .rw [if_pos h,if_pos (mem_append_left _ h)];exact le_refl _
  .rw [if_neg h]
   by_cases h':x∈met++[y]
   .rw [if_pos h'];exact zero_le _
   .rw [if_neg h'];exact le_refl _
theorem kZ {met:List α}{y:α}(hy:y∉met):∀{K:List α},y∈K->fV th (met++[y]) K+((th y).length+2)<=fV th met K
 |x::r,h=>by
  rw [k6,k6]
  by_cases q:x=y
  .subst q
   rw [if_neg hy,if_pos (mem_append_right _ (.head _)),zero_add,add_comm];exact add_le_add_left (ve r) _
  .have ih:=kZ (K:=r) hy ((az h).elim (fun e=>absurd e.symm q) id)
   by_cases hx:x∈met
   .rw [if_pos hx,if_pos (mem_append_left _ hx),zero_add,zero_add];exact ih
   .rw [if_neg hx,if_neg fun h=>(ah h).elim hx fun h=>q (ae h),add_assoc];exact add_le_add_left ih _
noncomputable def gN (th:α->List α):List (α×Nat)->Nat
 | []=>0
 |p::r=>(th p.1).length - p.2+1+gN th r
omit [DecidableEq α] in
theorem xK {p:α×Nat}{r:List (α×Nat)}:gN th (p::r)=(th p.1).length - p.2+1+gN th r:=rfl
omit [DecidableEq α] in
theorem jW:∀(a b:List (α×Nat)),gN th (a++b)=gN th a+gN th b
 | [],b=>(zero_add _).symm
 |p::a,b=>by rw [cons_append,xK,xK,jW a b,add_assoc (_+1)]
omit [DecidableEq α] in
theorem aY:∀{l m:List α},l.Nodup->(∀x∈l,x∈m)->l.length<=m.length
 | [],m,_,_=>zero_le _
 |x::l,m,hn,hs=>by
  obtain ⟨a,b,rfl⟩:=List.append_of_mem (hs x (.head _))
  have:=aY (l:=l) (m:=a++b) (bi hn).2 fun y hy=>by
   rcases ah (hs y (.tail _ hy)) with h |h
   .exact mem_append_left _ h
   .rcases az h with h |h
    .exact absurd (h▸hy) (bi hn).1
    .exact mem_append_right _ h
  rw [List.length_append] at this ⊢
  rw [length_cons,length_cons];lia
end
section
variable {α:Type} {th:α->List α} {K:List α}
structure Da (th:α->List α) (K met:List α) (s:α) (C:List α):Prop where
 nd:(met++C).Nodup
 sub:∀x∈C,x∈K
 to:∀x∈C,iZ th (fun a=>a∈C) x s
 hd:s∈C
theorem Da.start {met:List α}{s:α}(hm:met.Nodup)(hs:s∈K)(h:s∉met):Da th K met s [s] where
 nd:=by rw [nodup_append];exact ⟨hm,by simp,fun a ha b hb q=>h (by rw [<-ae hb,<-q];exact ha)⟩
 sub x hx:=ae hx▸hs
 to x hx:=by rw [ae hx];exact .refl (.head _)
 hd:=.head _
theorem Da.push {met C:List α}{s y c:α}(H:Da th K met s C)(hy:y∉met++C)(hk:y∈K)(hc:c∈C)(e:c∈th y):Da th K met s (C++[y]) where
 nd:=by
  rw [<-List.append_assoc,nodup_append]
  exact ⟨H.nd,by simp,fun a ha b hb q=>hy (by rw [<-ae hb,<-q];exact ha)⟩
 sub x hx:=(ah hx).elim (H.sub x) fun h=>ae h▸hk
 to x hx:=by
  have m:∀a,a∈C->a∈C++[y]:=fun a h=>mem_append_left _ h
  rcases ah hx with h |h
  .exact (H.to x h).mono m
  .rw [ae h];exact .step (mem_append_right _ (.head _)) e ((H.to c hc).mono m)
 hd:=mem_append_left _ H.hd
structure xz (th:α->List α) (K:List α) (Cs:List (List α)):Prop where
 nd:Cs.flatten.Nodup
 sub:∀x∈Cs.flatten,x∈K
 ne:∀C∈Cs,C≠[]
 scc:∀C∈Cs,∀a∈C,∀b∈C,l8 th a b
 back:∀A C B,Cs=A++C::B->∀c∈C,∀x∈K,c∈th x->x∈A.flatten++C
theorem xz.nil:xz th K []:=⟨.nil,fun _ h=>(nomatch h),fun _ h=>(nomatch h),fun _ h=>(nomatch h),fun A C B e=>(by simp at e)⟩
theorem iZ.r {P:α->Prop}{a b:α}(r:iZ th P a b):l8 th a b:=by
 induction r with
 |refl _=>exact .refl _
 |step _ e _ ih=>exact .step e ih
theorem dW {z:Type}(Cs:List (List z))(C:List z):(Cs++[C]).flatten=Cs.flatten++C:=by rw [flatten_append,flatten_cons,List.flatten_nil,append_nil]
theorem xz.add {Cs:List (List α)}{L A B C:List α}{s:α}(H:xz th K Cs)(ho:GT th L)(hn:L.Nodup)(hL:∀x∈K,x∈L)(e:L=A++s::B)(hB:∀x∈B,x∈Cs.flatten)(c:Da th K Cs.flatten s C)(cl:∀c∈C,∀x∈K,c∈th x->x∈Cs.flatten++C):xz th K (Cs++[C]) where
 nd:=by rw [dW];exact c.nd
 sub x hx:=by rw [dW] at hx;exact (ah hx).elim (H.sub x) (c.sub x)
 ne D hD:=(ah hD).elim (H.ne D) fun h=>by rw [ae h];exact fun q=>by have:=c.hd;rw [q] at this;cases this
 scc D hD:=by
  rcases ah hD with h |h
  .exact H.scc D h
  .rw [ae h]
   intro a ha b hb
   refine (c.to a ha).r.trans ?_
   have inA:∀x,x∈C->x∈A++[s]:=fun x hx=>by
    have:=hL x (c.sub x hx)
    rw [e] at this
    rcases ah this with h |h
    .exact mem_append_left _ h
    .rcases az h with h |h
     .exact mem_append_right _ (h▸.head _)
     .exact absurd rfl ((aS c.nd).2.2 x (hB x h) x hx)
   obtain ⟨n,r⟩:=((c.to b hb).mono inA).n
   exact yi ho hn e n b r
 back A' D B' q:=by
  rcases fC q with ⟨rfl,rfl,rfl⟩ | ⟨B'',rfl,q'⟩
  .exact cl
  .exact H.back A' D B'' q'
theorem xz.within {A B:List (List α)}{C:List α}(H:xz th K (A++C::B)){u s d:α}(hu:u∈C)(e:s∈th u)(hK:∀k∈K,∀y∈th k,y∈K)(r:l8 th s d)(hd:d∈C):s∈C:=by
 have uK:u∈K:=H.sub u (by rw [flatten_append,flatten_cons];exact mem_append_right _ (mem_append_left _ hu))
 have back:∀x y,l8 th x y->x∈K->y∈A.flatten++C->x∈A.flatten++C:=fun x y r=>by
  induction r with
  |refl _=>exact fun _ h=>h
  | @step a b c e _ ih=>
   intro ha hc
   rcases ah (ih (hK a ha b e) hc) with h |h
   .obtain ⟨D,hD,hb⟩:=mem_flatten.mp h
    obtain ⟨A',B',rfl⟩:=List.append_of_mem hD
    have:=H.back A' D (B'++C::B) (by rw [List.append_assoc];rfl) b hb a ha e
    rw [flatten_append,flatten_cons]
    rcases ah this with h |h
    .exact mem_append_left _ (mem_append_left _ h)
    .exact mem_append_left _ (mem_append_right _ (mem_append_left _ h))
   .exact H.back A C B rfl b h a ha e
 rcases ah (back s d r (hK u uK s e) (mem_append_right _ hd)) with h |h
 .obtain ⟨D,hD,hb⟩:=mem_flatten.mp h
  obtain ⟨A',B',rfl⟩:=List.append_of_mem hD
  have:=H.back A' D (B'++C::B) (by rw [List.append_assoc];rfl) s hb u uK e
  have nd:=H.nd
  rw [flatten_append,flatten_append,flatten_cons] at nd
  refine absurd rfl ((aS nd).2.2 u ?_ u (by rw [flatten_cons];exact mem_append_left _ hu))
  rcases ah this with h |h
  .exact mem_append_left _ h
  .exact mem_append_right _ (mem_append_left _ h)
 .exact h
theorem xV {f:Nat->Nat}{n:Nat}(hm:∀i,f i<=f (i+1)):∀(d i:Nat),(∀j,f j<=n)->n - f i<=d->∃N,∀j,N<=j->f j=f N
 | 0,i,hb,hd=>by
  have mono:∀j k,f j<=f (j+k):=fun j k=>by
   induction k with
   |zero=>exact le_refl _
   |succ k ih=>exact le_trans ih (hm _)
  refine ⟨i,fun j hj=>?_⟩
  obtain ⟨k,rfl⟩:=exists_eq_add_of_le hj
  exact le_antisymm (le_trans (hb _) (Nat.le_of_sub_eq_zero (Nat.le_zero.mp hd))) (mono i k)
 |d+1,i,hb,hd=>by
  by_cases h:∀j,i<=j->f j=f i
  .exact ⟨i,h⟩
  .obtain ⟨j,h⟩:=Classical.not_forall.mp h
   obtain ⟨hij,hne⟩:=Classical.not_imp.mp h
   have mono:∀j k,f j<=f (j+k):=fun j k=>by
    induction k with
    |zero=>exact le_refl _
    |succ k ih=>exact le_trans ih (hm _)
   obtain ⟨k,rfl⟩:=exists_eq_add_of_le hij
   have l:f i < f (i+k):=Nat.lt_of_le_of_ne (mono i k) (Ne.symm hne)
   exact xV hm d (i+k) hb (le_of_lt_succ (lt_of_lt_of_le (Nat.sub_lt_sub_left (lt_of_lt_of_le l (hb _)) l) hd))
theorem tQ {z:Type}{l:List z}{i:Nat}{x:z}(h:l[i]?=some x):∃A B,l=A++x::B/\A.length=i:=by
 obtain ⟨hi,rfl⟩:=ak h
 exact ⟨l.take i,l.drop (i+1),by rw [List.getElem_cons_drop,List.take_append_drop],by rw [length_take];lia⟩
theorem xz.stay {Cs:List (List α)}(H:xz th K Cs)(hK:∀x∈K,x∈Cs.flatten){κ:Nat->α}(h0:∀i,κ i∈K)(h1:∀i,κ (i+1)∈th (κ i)):∃C∈Cs,∃N,∀i,N<=i->κ i∈C:=by
 have ex:∀i,∃p:Nat×List α,Cs[p.1]?=some p.2/\κ i∈p.2:=fun i=>by
  obtain ⟨C,h2,h3⟩:=mem_flatten.mp (hK _ (h0 i))
  obtain ⟨i,h4⟩:=getElem?_of_mem h2
  exact ⟨(i,C),h4,h3⟩
 obtain ⟨f,hf⟩:=Classical.axiomOfChoice ex
 have uniq:∀i j C D x,Cs[i]?=some C->Cs[j]?=some D->x∈C->x∈D->i<=j:=fun i j C D x hi hj hx hy=>by
  refine le_of_not_lt fun lt=>?_
  obtain ⟨A,B,e,l⟩:=tQ hi
  have hD:D∈A:=by
   rw [e,getElem?_append_left (by lia)] at hj;exact mem_of_getElem? hj
  have nd:=H.nd
  rw [e,flatten_append] at nd
  exact (aS nd).2.2 x (mem_flatten.mpr ⟨D,hD,hy⟩) x (mem_flatten.mpr ⟨C,.head _,hx⟩) rfl
 have mono:∀i,(f i).1<=(f (i+1)).1:=fun i=>by
  obtain ⟨A,B,e,l⟩:=tQ (hf (i+1)).1
  rcases ah (H.back A _ B e _ (hf (i+1)).2 (κ i) (h0 i) (h1 i)) with h |h
  .obtain ⟨D,hD,hx⟩:=mem_flatten.mp h
   obtain ⟨j,hj⟩:=getElem?_of_mem hD
   have lt:=(ak hj).1
   have hj':Cs[j]?=some D:=by rw [e,getElem?_append_left lt];exact hj
   have:=uniq _ j _ D _ (hf i).1 hj' (hf i).2 hx
   lia
  .exact uniq _ _ _ _ _ (hf i).1 (hf (i+1)).1 (hf i).2 h
 obtain ⟨N,hN⟩:=xV (f:=fun i=>(f i).1) (n:=Cs.length) mono _ 0 (fun j=>le_of_lt (ak (hf j).1).1) (le_refl _)
 refine ⟨(f N).2,mem_of_getElem? (hf N).1,N,fun i hi=>?_⟩
 have e:=(hf i).1
 rw [show (f i).1=(f N).1 from hN i hi,(hf N).1] at e
 rw [Option.some.inj e];exact (hf i).2
end
end
end Mine
end
section
namespace Mine
noncomputable section
section
variable {α:Type} {th:α->List α}
noncomputable def dL (th:α->List α)(P:List α):Prop:=∀(i:Nat) (a b:α),P[i]?=some a->P[i+1]?=some b->b∈th a
theorem dL.one (a:α):dL th [a]:=fun i x y _ h=>by
 rw [getElem?_eq_none (by simp)] at h;cases h
theorem dL.app {P Q:List α}(hP:dL th P)(hQ:dL th Q)(h:∀a b,P.getLast?=some a->Q.head?=some b->b∈th a):dL th (P++Q):=fun i a b ha hb=>by
 by_cases h1:i+1 < P.length
 .rw [getElem?_append_left (Nat.lt_of_succ_lt h1)] at ha
  rw [getElem?_append_left h1] at hb
  exact hP i a b ha hb
 .by_cases h2:i < P.length
  .have e:i+1=P.length:=le_antisymm h2 (dk h1)
   rw [getElem?_append_left h2] at ha
   rw [getElem?_append_right (dk h1),e,sub_self] at hb
   refine h a b ?_ ?_
   .rw [List.getLast?_eq_getElem?,<-e];exact ha
   .rw [head?_eq_getElem?];exact hb
  .rw [getElem?_append_right (dk h2)] at ha
   rw [getElem?_append_right (dk h1),Nat.succ_sub (dk h2)] at hb
   exact hQ _ a b ha hb
theorem dL.drop {P:List α}(hP:dL th P)(n:Nat):dL th (P.drop n):=fun i a b ha hb=>by
 rw [List.getElem?_drop] at ha hb
 exact hP (n+i) a b ha hb
inductive lO (f:α->Option α):α->List α->Prop
 |nil {x:α}:f x=none->lO f x [x]
 |cons {x y:α} {p:List α}:f x=some y->lO f y p->lO f x (x::p)
structure uc (th:α->List α) (K starts goals done wait:List α) (f:α->Option α):Prop where
 nd:(done++wait).Nodup
 sub:∀x∈done++wait,x∈K
 st:∀x∈starts,x∈done++wait
 par:∀x∈done++wait,(f x=none->x∈starts)/\∀y,f x=some y->x∈th y
 back:∀x∈done++wait,∃p,lO f x p/\p.length<=(done++wait).length/\∀y∈p,y∈done++wait
 clo:∀x∈done,x∉goals/\∀y∈th x,y∈done++wait
theorem uc.start {K starts goals:List α}(hn:starts.Nodup)(hs:∀x∈starts,x∈K):uc th K starts goals [] starts (fun _=>none) where
 nd:=hn
 sub:=hs
 st:=fun _ h=>h
 par x hx:=⟨fun _=>hx,fun y h=>by cases h⟩
 back x hx:=⟨[x],.nil rfl,List.length_pos_of_mem hx,fun y hy=>ae hy▸hx⟩
 clo x hx:=nomatch hx
theorem lO.mono {f f':α->Option α}{x:α}{p:List α}(h:lO f x p):(∀y∈p,f' y=f y)->lO f' x p:=by
 induction h with
 |nil e=>exact fun h=>.nil ((h _ (.head _)).trans e)
 |cons e _ ih=>exact fun h=>.cons ((h _ (.head _)).trans e) (ih fun y hy=>h y (.tail _ hy))
theorem uc.push [DecidableEq α] {K starts goals done wait:List α}{f:α->Option α}{here y:α}(B:uc th K starts goals done wait f)(hh:here∈done++wait)(e:y∈th here)(hk:y∈K)(hy:y∉done++wait):uc th K starts goals done (wait++[y]) (fun x=>if x=y then some here else f x):=by
 have ne:∀x,x∈done++wait->x≠y:=fun x hx q=>hy (q▸hx)
 have mem:∀x,x∈done++(wait++[y])↔x∈done++wait\/x=y:=fun x=>by rw [<-List.append_assoc,mem_append,mem_singleton]
 refine ⟨?_,fun x hx=>?_,fun x hx=>(mem x).mpr (.inl (B.st x hx)),fun x hx=>?_,fun x hx=>?_,fun x hx=>⟨(B.clo x hx).1,fun z hz=>(mem z).mpr (.inl ((B.clo x hx).2 z hz))⟩⟩
 .rw [<-List.append_assoc,nodup_append]
  exact ⟨B.nd,by simp,fun a ha b hb q=>hy (by rw [<-ae hb,<-q];exact ha)⟩
 .exact ((mem x).mp hx).elim (B.sub x) fun h=>h▸hk
 .rcases (mem x).mp hx with h |rfl
  .simp only [if_neg (ne x h)];exact B.par x h
  .simp only [if_true];exact ⟨fun h=>(by cases h),fun z h=>Option.some.inj h▸e⟩
 .rw [<-List.append_assoc,List.length_append]
  have old:∀x,x∈done++wait->∃p,lO (fun x=>if x=y then some here else f x) x p/\p.length<=(done++wait).length/\∀z∈p,z∈done++wait:=fun x hx=>by
   obtain ⟨p,h1,h2,h3⟩:=B.back x hx
   exact ⟨p,h1.mono fun z hz=>if_neg (ne z (h3 z hz)),h2,h3⟩
  rcases (mem x).mp hx with h |rfl
  .obtain ⟨p,h1,h2,h3⟩:=old x h
   exact ⟨p,h1,le_trans h2 (le_add_right _ _),fun z hz=>mem_append_left _ (h3 z hz)⟩
  .obtain ⟨p,h1,h2,h3⟩:=old here hh
   refine ⟨x::p,.cons (if_pos rfl) h1,succ_le_succ h2,fun z hz=>?_⟩
   rcases az hz with rfl |hz
   .exact mem_append_right _ (.head _)
   .exact mem_append_left _ (h3 z hz)
theorem uc.done {K starts goals done wait:List α}{f:α->Option α}{here:α}(B:uc th K starts goals done (here::wait) f)(hg:here∉goals)(hc:∀y∈th here,y∈done++here::wait):uc th K starts goals (done++[here]) wait f:=by
 have e:(done++[here])++wait=done++here::wait:=by rw [List.append_assoc];rfl
 refine ⟨by rw [e];exact B.nd,by rw [e];exact B.sub,by rw [e];exact B.st,by rw [e];exact B.par,by rw [e];exact B.back,fun x hx=>?_⟩
 rw [e]
 rcases ah hx with h |h
 .exact B.clo x h
 .rw [ae h];exact ⟨hg,hc⟩
theorem uc.none {K starts goals done:List α}{f:α->Option α}(B:uc th K starts goals done [] f){s g:α}(hs:s∈starts)(hg:g∈goals)(r:l8 th s g):False:=by
 have:∀x y,l8 th x y->x∈done->y∈goals->False:=fun x y r=>by
  induction r with
  |refl a=>exact fun hx hg=>(B.clo a hx).1 hg
  |step e _ ih=>
   intro hx hg
   have:=(B.clo _ hx).2 _ e
   rw [append_nil] at this
   exact ih this hg
 have h:=B.st s hs
 rw [append_nil] at h
 exact this s g r h hg
structure Cg (th:α->List α) (K starts:List α) (g:α) (P:List α):Prop where
 walk:dL th P
 hd:∃a,P.head?=some a/\a∈starts
 lst:P.getLast?=some g
 sub:∀x∈P,x∈K
 len:P.length<=K.length
theorem lO.way {K starts goals done wait:List α}{f:α->Option α}(B:uc th K starts goals done wait f){x:α}{p:List α}(h:lO f x p):(∀y∈p,y∈done++wait)->dL th p.reverse/\(∃a,p.reverse.head?=some a/\a∈starts)/\p.reverse.getLast?=some x:=by
 induction h with
 | @nil x e=>exact fun h=>⟨.one _,⟨x,rfl,(B.par x (h x (.head _))).1 e⟩,rfl⟩
 | @cons x y p e _ ih=>
  intro h
  obtain ⟨h1,⟨a,h2,h3⟩,h4⟩:=ih fun z hz=>h z (.tail _ hz)
  rw [List.reverse_cons]
  refine ⟨h1.app (.one _) fun u v hu hv=>?_,⟨a,?_,h3⟩,by rw [getLast?_append];rfl⟩
  .rw [h4] at hu;cases hu;cases hv
   exact (B.par x (h x (.head _))).2 _ e
  .rw [head?_append,h2];rfl
theorem uc.way {K starts goals done wait:List α}{f:α->Option α}(B:uc th K starts goals done wait f){x:α}(hx:x∈done++wait):∃p,lO f x p/\(∀y∈p,y∈done++wait)/\Cg th K starts x p.reverse:=by
 obtain ⟨p,h1,h2,h3⟩:=B.back x hx
 obtain ⟨h4,h5,h6⟩:=h1.way B h3
 exact ⟨p,h1,h3,h4,h5,h6,fun y hy=>B.sub y (h3 y (List.mem_reverse.mp hy)),by rw [length_reverse];exact le_trans h2 (aY B.nd B.sub)⟩
end
end
end Mine
end
namespace Mine.Ltl
noncomputable section
open PySem
noncomputable def Sem (w:Nat->Str):Sy->Nat->Prop
 |.mark x,i=>PyData.eqv (.str (w i)) (.str x)=true
 |.yes,_=>True
 |.not a,i=>¬Sem w a i
 |.and a c,i=>Sem w a i/\Sem w c i
 |.or a c,i=>Sem w a i\/Sem w c i
 |.next a,i=>Sem w a (i+1)
 |.till a c,i=>∃t,Sem w c (i+t)/\∀u,u < t->Sem w a (i+u)
 |.always a,i=>∀t,Sem w a (i+t)
 |.again a,i=>∀t,∃u,Sem w a (i+t+u)
theorem pM {w:Nat->Str}{a:Sy}{i:Nat}:Sem w (.again a) i↔Sem w (.always (.till .yes a)) i:=
 ⟨fun h t=>let ⟨u,hu⟩:=h t;⟨u,hu,fun _ _=>trivial⟩,fun h t=>let ⟨u,hu,_⟩:=h t;⟨u,hu⟩⟩
theorem jZ {w:Nat->Str}{a c:Sy}{i:Nat}:Sem w (.till a c) i↔Sem w c i\/(Sem w a i/\Sem w (.till a c) (i+1)):=by
 constructor
 .rintro ⟨t,h1,h2⟩
  cases t with
  |zero=>exact .inl h1
  |succ t=>exact .inr ⟨h2 0 (succ_pos _),t,by rw [add_assoc,add_comm 1];exact h1,fun u hu=>by rw [add_assoc,add_comm 1];exact h2 (u+1) (Nat.succ_lt_succ hu)⟩
 .rintro (h | ⟨h,t,h1,h2⟩)
  .exact ⟨0,h,fun u hu=>absurd hu (not_lt_zero _)⟩
  .refine ⟨t+1,by rw [add_assoc,add_comm 1] at h1;exact h1,fun u hu=>?_⟩
   cases u with
   |zero=>exact h
   |succ u=>have:=h2 u (Nat.lt_of_succ_lt_succ hu);rw [add_assoc,add_comm 1] at this;exact this
theorem ni {w:Nat->Str}{a:Sy}{i:Nat}:Sem w (.always a) i↔Sem w a i/\Sem w (.always a) (i+1):=by
 constructor
 .exact fun h=>⟨h 0,fun t=>by rw [add_assoc,add_comm 1];exact h (t+1)⟩
 .rintro ⟨h1,h2⟩ t
  cases t with
  |zero=>exact h1
  |succ t=>have:=h2 t;rw [add_assoc,add_comm 1] at this;exact this
theorem nt {b:Bool}{p:Prop}(h:b=true↔p):(!b)=true↔¬p:=by rw [not_eq_true',<-not_eq_true,h]
theorem EM {w w':Nat->Str}{i i':Nat}(h:∀j,w (i+j)=w' (i'+j))(t j:Nat):w (i+t+j)=w' (i'+t+j):=by rw [add_assoc,add_assoc];exact h (t+j)
theorem cv {w w':Nat->Str}:∀(s:Sy) (i i':Nat),(∀j,w (i+j)=w' (i'+j))->(Sem w s i↔Sem w' s i')
 |.mark x,i,i',h=>by
  show PyData.eqv (.str (w (i+0))) (.str x)=true↔PyData.eqv (.str (w' (i'+0))) (.str x)=true
  rw [h 0]
 |.yes,_,_,_=>.rfl
 |.not a,i,i',h=>not_congr (cv a i i' h)
 |.and a c,i,i',h=>and_congr (cv a i i' h) (cv c i i' h)
 |.or a c,i,i',h=>or_congr (cv a i i' h) (cv c i i' h)
 |.next a,i,i',h=>cv a (i+1) (i'+1) (EM h 1)
 |.till a c,i,i',h=>exists_congr fun t=>and_congr (cv c (i+t) (i'+t) (EM h t)) (forall_congr' fun u=>imp_congr_right fun _=>cv a (i+u) (i'+u) (EM h u))
 |.always a,i,i',h=>forall_congr' fun t=>cv a (i+t) (i'+t) (EM h t)
 |.again a,i,i',h=>forall_congr' fun t=>exists_congr fun u=>cv a (i+t+u) (i'+t+u) (EM (EM h t) u)
theorem iM {bs:List Sy}{m m':Str}{g g':List Bool}{x:Sy}(h:q6 bs m g m' g'=true)(hx:x∈bs):look bs g x=io bs m g m' g' x:=by
 rw [q6,all_eq_true] at h;exact beq_iff_eq.mp (h x hx)
section
variable {bs:List Sy} {w:Nat->Str} {γ:Nat->List Bool} (hg:∀i,q6 bs (w i) (γ i) (w (i+1)) (γ (i+1))=true) (hm:∀x∈bs,∀i,∃j,i<=j/\met bs (w j) (γ j) x=true)
include hg hm
theorem m7 {a c:Sy}(hx:.till a c∈bs)(ha:∀i,so (w i) bs (γ i) a=true↔Sem w a i)(hc:∀i,so (w i) bs (γ i) c=true↔Sem w c i)(i:Nat):look bs (γ i) (.till a c)=true↔Sem w (.till a c) i:=by
 have st:∀i,look bs (γ i) (.till a c)=true↔Sem w c i\/(Sem w a i/\look bs (γ (i+1)) (.till a c)=true):=fun i=>by
  rw [iM (hg i) hx,im,or_eq_true,and_eq_true,ha,hc]
 constructor
 .intro h
  obtain ⟨j,h1,h2⟩:=hm _ hx i
  obtain ⟨d,rfl⟩:=exists_eq_add_of_le h1
  clear h1
  induction d generalizing i with
  |zero=>
   rw [j9,or_eq_true,Nat.add_zero,h] at h2
   exact jZ.mpr (.inl ((hc i).mp (h2.resolve_left (by decide))))
  |succ d ih=>
   rcases (st i).mp h with h3 | ⟨h3,h4⟩
   .exact jZ.mpr (.inl h3)
   .exact jZ.mpr (.inr ⟨h3,ih (i+1) h4 (by rw [add_assoc,add_comm 1];exact h2)⟩)
 .rintro ⟨t,h1,h2⟩
  induction t generalizing i with
  |zero=>exact (st i).mpr (.inl h1)
  |succ t ih=>exact (st i).mpr (.inr ⟨h2 0 (succ_pos _),ih (i+1) (by rw [add_assoc,add_comm 1];exact h1) fun u hu=>by rw [add_assoc,add_comm 1];exact h2 (u+1) (Nat.succ_lt_succ hu)⟩)
theorem kR {a:Sy}(hx:.always a∈bs)(ha:∀i,so (w i) bs (γ i) a=true↔Sem w a i)(i:Nat):look bs (γ i) (.always a)=true↔Sem w (.always a) i:=by
 have st:∀i,look bs (γ i) (.always a)=true↔Sem w a i/\look bs (γ (i+1)) (.always a)=true:=fun i=>by
  rw [iM (hg i) hx,gf,and_eq_true,ha]
 constructor
 .intro h t
  induction t generalizing i with
  |zero=>exact ((st i).mp h).1
  |succ t ih=>have:=ih (i+1) ((st i).mp h).2;rw [add_assoc,add_comm 1] at this;exact this
 .intro h
  cases q:look bs (γ i) (.always a) with
  |true=>rfl
  |false=>
   exfalso
   obtain ⟨j,h1,h2⟩:=hm _ hx i
   obtain ⟨d,rfl⟩:=exists_eq_add_of_le h1
   clear h1
   induction d generalizing i with
   |zero=>
    rw [gU,Nat.add_zero,q,Bool.false_or,not_eq_true'] at h2
    rw [(ha i).mpr (h 0)] at h2;cases h2
   |succ d ih=>
    refine ih (i+1) (ni.mp h).2 ?_ (by rw [add_assoc,add_comm 1];exact h2)
    cases e:look bs (γ (i+1)) (.always a) with
    |false=>rfl
    |true=>rw [(st i).mpr ⟨h 0,e⟩] at q;cases q
theorem cX:∀(s:Sy),dY bs s->∀i,so (w i) bs (γ i) s=true↔Sem w s i
 |.mark x,_,i=>.rfl
 |.yes,_,i=>⟨fun _=>trivial,fun _=>rfl⟩
 |.not a,h,i=>nt (cX a (aP h (.head _)) i)
 |.and a c,h,i=>(and_eq_true_iff).trans (and_congr (cX a (aP h (.head _)) i) (cX c (aP h (.tail _ (.head _))) i))
 |.or a c,h,i=>(or_eq_true_iff).trans (or_congr (cX a (aP h (.head _)) i) (cX c (aP h (.tail _ (.head _))) i))
 |.next a,h,i=>(Bool.eq_iff_iff.mp (iM (hg i) (bE h _ (.head _)))).trans (cX a (aP h (.head _)) (i+1))
 |.till a c,h,i=>m7 hg hm (bE h _ (.head _)) (cX a (aP h (.head _))) (cX c (aP h (.tail _ (.head _)))) i
 |.always a,h,i=>kR hg hm (bE h _ (.head _)) (cX a (aP h (.head _))) i
 |.again a,h,i=>by
  rw [pM]
  exact kR (a:=.till .yes a) hg hm (bE h _ (.tail _ (.head _))) (m7 (a:=.yes) (c:=a) hg hm (bE h _ (.head _)) (fun _=>⟨fun _=>trivial,fun _=>rfl⟩) (cX a (aP h (.head _)))) i
end
noncomputable def Ar (w:Nat->Str)(bs:List Sy)(i:Nat):List Bool:=open Classical in bs.map fun x=>decide (Sem w x i)
theorem dU {w:Nat->Str}{bs:List Sy}{i:Nat}{x:Sy}(h:x∈bs):look bs (Ar w bs i) x=true↔Sem w x i:=by
 have hi:bs.idxOf x < bs.length:=List.idxOf_lt_length_iff.mpr h
 rw [look,Ar,getElem?_map,getElem?_eq_getElem hi]
 simp [List.getElem_idxOf]
theorem eT {w:Nat->Str}{bs:List Sy}(i:Nat):∀(s:Sy),dY bs s->(so (w i) bs (Ar w bs i) s=true↔Sem w s i)
 |.mark x,_=>.rfl
 |.yes,_=>⟨fun _=>trivial,fun _=>rfl⟩
 |.not a,h=>nt (eT i a (aP h (.head _)))
 |.and a c,h=>(and_eq_true_iff).trans (and_congr (eT i a (aP h (.head _))) (eT i c (aP h (.tail _ (.head _)))))
 |.or a c,h=>(or_eq_true_iff).trans (or_congr (eT i a (aP h (.head _))) (eT i c (aP h (.tail _ (.head _)))))
 |.next a,h=>dU (bE h _ (.head _))
 |.till a c,h=>dU (bE h _ (.head _))
 |.always a,h=>dU (bE h _ (.head _))
 |.again a,h=>(dU (bE h _ (.tail _ (.head _)))).trans pM.symm
theorem zl {w:Nat->Str}{s:Sy}(i:Nat):q6 (bonds s) (w i) (Ar w (bonds s) i) (w (i+1)) (Ar w (bonds s) (i+1))=true:=by
 rw [q6,all_eq_true]
 intro x hx
 rw [beq_iff_eq,Bool.eq_iff_iff,dU hx]
 rcases fy hx with ⟨a,rfl⟩ | ⟨a,c,rfl⟩ | ⟨a,rfl⟩
 .rw [rS,eT (i+1) a (dc hx (.head _))];rfl
 .rw [im,or_eq_true,and_eq_true,eT i a (dc hx (.head _)),eT i c (dc hx (.tail _ (.head _))),dU hx,jZ]
 .rw [gf,and_eq_true,eT i a (dc hx (.head _)),dU hx,ni]
theorem A6 {w:Nat->Str}{s x:Sy}(hx:x∈bonds s)(i:Nat):∃j,i<=j/\met (bonds s) (w j) (Ar w (bonds s) j) x=true:=by
 rcases fy hx with ⟨a,rfl⟩ | ⟨a,c,rfl⟩ | ⟨a,rfl⟩
 .exact ⟨i,le_refl _,rfl⟩
 .by_cases h:Sem w (.till a c) i
  .obtain ⟨t,h1,_⟩:=h
   refine ⟨i+t,le_add_right _ _,?_⟩
   rw [j9,(eT (i+t) c (dc hx (.tail _ (.head _)))).mpr h1,Bool.or_true]
  .refine ⟨i,le_refl _,?_⟩
   rw [j9,or_eq_true,not_eq_true',<-not_eq_true,dU hx];exact .inl h
 .by_cases h:Sem w (.always a) i
  .exact ⟨i,le_refl _,by rw [gU,(dU hx).mpr h,Bool.true_or]⟩
  .obtain ⟨t,ht⟩:=Classical.not_forall.mp h
   refine ⟨i+t,le_add_right _ _,?_⟩
   rw [gU,or_eq_true,not_eq_true',<-not_eq_true (so _ _ _ _),eT (i+t) a (dc hx (.head _))];exact .inr ht
end
end Mine.Ltl
namespace Mine
noncomputable section
open Ltl
section
variable {α:Type} {th:α->List α}
theorem dL.left {P Q:List α}(h:dL th (P++Q)):dL th P:=fun i a b ha hb=>
 h i a b ((getElem?_append_left (ak ha).1).trans ha) ((getElem?_append_left (ak hb).1).trans hb)
theorem dL.snoc {P:List α}{a b:α}(h:dL th (P++[b]))(e:P.getLast?=some a):b∈th a:=by
 obtain ⟨Q,rfl⟩:=List.getLast?_eq_some_iff.mp e
 refine h Q.length a b ?_ ?_
 .rw [List.append_assoc,getElem?_append_right (le_refl _),sub_self];rfl
 .rw [List.append_assoc,getElem?_append_right (le_add_right _ 1),Nat.add_sub_cancel_left];rfl
theorem dL.close {K S F P:List α}{z c:α}(h:dL th (F++[z]))(W:Cg th K S c P)(hS:∀x∈S,x∈th z):dL th (F++[z]++P.dropLast)/\∃y,(F++[z]++P.dropLast).getLast?=some y/\c∈th y:=by
 obtain ⟨Q,rfl⟩:=List.getLast?_eq_some_iff.mp W.lst
 obtain ⟨a,ha,hs⟩:=W.hd
 rw [List.dropLast_concat]
 refine ⟨h.app W.walk.left fun u v hu hv=>?_,?_⟩
 .rw [getLast?_concat] at hu;cases hu
  rw [head?_append,hv] at ha;cases ha
  exact hS _ hs
 .rcases eq_nil_or_concat Q with rfl | ⟨R,y,rfl⟩
  .cases ha
   exact ⟨z,by rw [append_nil,getLast?_concat],hS _ hs⟩
  .rw [concat_eq_append] at W ⊢
   exact ⟨y,by rw [<-List.append_assoc,getLast?_concat],W.walk.snoc getLast?_concat⟩
structure jr (th:α->List α) (S:List α) (P R:List α):Prop where
 walk:dL th (P++R)
 hd:∃a,(P++R).head?=some a/\a∈S
 back:∃c y,R.head?=some c/\R.getLast?=some y/\c∈th y
theorem Cg.lasso {K S P R:List α}{c:α}(W:Cg th K S c P)(h:dL th R)(hc:R.head?=some c)(hb:∃y,R.getLast?=some y/\c∈th y):jr th S P.dropLast R:=by
 obtain ⟨Q,rfl⟩:=List.getLast?_eq_some_iff.mp W.lst
 obtain ⟨a,ha,hs⟩:=W.hd
 obtain ⟨y,h1,h2⟩:=hb
 rw [List.dropLast_concat]
 refine ⟨W.walk.left.app h fun u v hu hv=>?_,⟨a,?_,hs⟩,c,y,hc,h1,h2⟩
 .rw [hc] at hv;cases hv
  exact W.walk.snoc hu
 .rw [head?_append] at ha ⊢
  rw [hc];exact ha
theorem jr.step {S P R:List α}(L:jr th S P R){i:Nat}{a b:α}(ha:(P++R)[i]?=some a)(hb:(P++R)[nx (P++R).length P.length i]?=some b):b∈th a:=by
 unfold nx at hb
 by_cases q:i+1=(P++R).length
 .rw [if_pos q] at hb
  obtain ⟨c,y,h1,h2,h3⟩:=L.back
  rw [getElem?_append_right (le_refl _),sub_self,<-head?_eq_getElem?,h1] at hb
  have e:(P++R).getLast?=some a:=by rw [List.getLast?_eq_getElem?,<-q];exact ha
  rw [getLast?_append,h2] at e
  cases hb;cases e;exact h3
 .rw [if_neg q] at hb
  exact L.walk i a b ha hb
theorem jr.lt {S P R:List α}(L:jr th S P R):P.length < (P++R).length:=by
 obtain ⟨c,y,h1,_⟩:=L.back
 cases R with
 |nil=>cases h1
 |cons=>rw [List.length_append,length_cons];lia -abstractProof
end
end
end Mine
namespace Mine
noncomputable section
open PySem Mine.Ltl
noncomputable def bx:Sy->T
 |.mark x=>.tup [.str (ofString "mark"),.str x]
 |.yes=>.tup [.str (ofString "yes")]
 |.not a=>.tup [.str (ofString "not"),bx a]
 |.and a c=>.tup [.str (ofString "and"),bx a,bx c]
 |.or a c=>.tup [.str (ofString "or"),bx a,bx c]
 |.next a=>.tup [.str (ofString "next"),bx a]
 |.till a c=>.tup [.str (ofString "till"),bx a,bx c]
 |.always a=>.tup [.str (ofString "always"),bx a]
 |.again a=>.tup [.str (ofString "again"),bx a]
noncomputable def ia:Sy->PyData
 |.mark x=>.tuple [.str (ofString "mark"),.str x]
 |.yes=>.tuple [.str (ofString "yes")]
 |.not a=>.tuple [.str (ofString "not"),ia a]
 |.and a c=>.tuple [.str (ofString "and"),ia a,ia c]
 |.or a c=>.tuple [.str (ofString "or"),ia a,ia c]
 |.next a=>.tuple [.str (ofString "next"),ia a]
 |.till a c=>.tuple [.str (ofString "till"),ia a,ia c]
 |.always a=>.tuple [.str (ofString "always"),ia a]
 |.again a=>.tuple [.str (ofString "again"),ia a]
noncomputable def dep:Sy->Nat
 |.mark _=>1
 |.yes=>1
 |.not a=>dep a+1
 |.and a c=>max (dep a) (dep c)+1
 |.or a c=>max (dep a) (dep c)+1
 |.next a=>dep a+1
 |.till a c=>max (dep a) (dep c)+1
 |.always a=>dep a+1
 |.again a=>dep a+1
theorem jc (n:Nat)(s:Str):di n (.str s)=some (.str s):=by cases n<;>rfl
theorem mI (n:Nat)(i:Int):di n (.int i)=some (.int i):=by cases n<;>rfl
theorem tn (n:Nat)(b:Bool):di n (.bool b)=some (.bool b):=by cases n<;>rfl
theorem oT {f:T->Option PyData}{x:T}{r:List T}{d:PyData}{ds:List PyData}(h:f x=some d)(hr:gt f r=some ds):gt f (x::r)=some (d::ds):=by
 show (match f x with |none=>none |some d=>(gt f r).map (d::·))=_
 rw [h,hr];rfl
theorem mH {n:Nat}{xs:List T}{ds:List PyData}(h:gt (di n) xs=some ds):di (n+1) (.tup xs)=some (.tuple ds):=congrArg (Option.map PyData.tuple) h
theorem tq {n:Nat}{w:Str}{a:T}{d:PyData}(h:di n a=some d):di (n+1) (.tup [.str w,a])=some (.tuple [.str w,d]):=mH (oT (jc _ _) (oT h rfl))
theorem zy {n:Nat}{w:Str}{a c:T}{d e:PyData}(h:di n a=some d)(h':di n c=some e):di (n+1) (.tup [.str w,a,c])=some (.tuple [.str w,d,e]):=mH (oT (jc _ _) (oT h (oT h' rfl)))
theorem fP:∀(s:Sy) (n:Nat),dep s<=n->di n (bx s)=some (ia s)
 |.mark x,n+1,_=>tq (jc _ _)
 |.yes,n+1,_=>mH (oT (jc _ _) rfl)
 |.not a,n+1,h=>tq (fP a n (le_of_succ_le_succ h))
 |.next a,n+1,h=>tq (fP a n (le_of_succ_le_succ h))
 |.always a,n+1,h=>tq (fP a n (le_of_succ_le_succ h))
 |.again a,n+1,h=>tq (fP a n (le_of_succ_le_succ h))
 |.and a c,n+1,h=>zy (fP a n (le_trans (le_max_left _ _) (le_of_succ_le_succ h))) (fP c n (le_trans (le_max_right _ _) (le_of_succ_le_succ h)))
 |.or a c,n+1,h=>zy (fP a n (le_trans (le_max_left _ _) (le_of_succ_le_succ h))) (fP c n (le_trans (le_max_right _ _) (le_of_succ_le_succ h)))
 |.till a c,n+1,h=>zy (fP a n (le_trans (le_max_left _ _) (le_of_succ_le_succ h))) (fP c n (le_trans (le_max_right _ _) (le_of_succ_le_succ h)))
noncomputable def idx:Sy->Nat
 |.mark _=>0
 |.yes=>1
 |.not _=>2
 |.and _ _=>3
 |.or _ _=>4
 |.next _=>5
 |.till _ _=>6
 |.always _=>7
 |.again _=>8
theorem kC {a c:Sy}(h1:PyData.eqv (ia a) (ia c)=false)(h2:Nat.beq (idx a) (idx c)=false):PyData.eqv (ia a) (ia c)=true↔a=c:=⟨fun h=>(by rw [h1] at h;cases h),fun h=>(by rw [h,beq_refl] at h2;cases h2)⟩
theorem iQ:∀a c:Sy,PyData.eqv (ia a) (ia c)=true↔a=c
 |.mark x,c=>by
  cases c with
  |mark y=>
   show ((x==y)&&true)=true↔_
   rw [Bool.and_true,beq_iff_eq];exact ⟨fun h=>(by rw [h]),fun h=>(by cases h;rfl)⟩
  |_=>exact kC rfl rfl
 |.yes,c=>by
  cases c with
  |yes=>exact ⟨fun _=>rfl,fun _=>rfl⟩
  |_=>exact kC rfl rfl
 |.not a,c=>by
  cases c with
  |not c=>
   show (PyData.eqv (ia a) (ia c)&&true)=true↔_
   rw [Bool.and_true,iQ a c];exact ⟨fun h=>(by rw [h]),fun h=>(by cases h;rfl)⟩
  |_=>exact kC rfl rfl
 |.next a,c=>by
  cases c with
  |next c=>
   show (PyData.eqv (ia a) (ia c)&&true)=true↔_
   rw [Bool.and_true,iQ a c];exact ⟨fun h=>(by rw [h]),fun h=>(by cases h;rfl)⟩
  |_=>exact kC rfl rfl
 |.always a,c=>by
  cases c with
  |always c=>
   show (PyData.eqv (ia a) (ia c)&&true)=true↔_
   rw [Bool.and_true,iQ a c];exact ⟨fun h=>(by rw [h]),fun h=>(by cases h;rfl)⟩
  |_=>exact kC rfl rfl
 |.again a,c=>by
  cases c with
  |again c=>
   show (PyData.eqv (ia a) (ia c)&&true)=true↔_
   rw [Bool.and_true,iQ a c];exact ⟨fun h=>(by rw [h]),fun h=>(by cases h;rfl)⟩
  |_=>exact kC rfl rfl
 |.and a b,c=>by
  cases c with
  |and c d=>
   show (PyData.eqv (ia a) (ia c)&&(PyData.eqv (ia b) (ia d)&&true))=true↔_
   rw [Bool.and_true,and_eq_true,iQ a c,iQ b d];exact ⟨fun h=>(by rw [h.1,h.2]),fun h=>(by cases h;exact ⟨rfl,rfl⟩)⟩
  |_=>exact kC rfl rfl
 |.or a b,c=>by
  cases c with
  |or c d=>
   show (PyData.eqv (ia a) (ia c)&&(PyData.eqv (ia b) (ia d)&&true))=true↔_
   rw [Bool.and_true,and_eq_true,iQ a c,iQ b d];exact ⟨fun h=>(by rw [h.1,h.2]),fun h=>(by cases h;exact ⟨rfl,rfl⟩)⟩
  |_=>exact kC rfl rfl
 |.till a b,c=>by
  cases c with
  |till c d=>
   show (PyData.eqv (ia a) (ia c)&&(PyData.eqv (ia b) (ia d)&&true))=true↔_
   rw [Bool.and_true,and_eq_true,iQ a c,iQ b d];exact ⟨fun h=>(by rw [h.1,h.2]),fun h=>(by cases h;exact ⟨rfl,rfl⟩)⟩
  |_=>exact kC rfl rfl
structure jP {α:Type} (e:α->T) (d:α->PyData) (n:Nat) (P:α->Prop):Prop where
 dat:∀a m,P a->n<=m->di m (e a)=some (d a)
 eq:∀a c,PyData.eqv (d a) (d c)=true↔a=c
theorem zt (n:Nat):jP bx ia n (fun s=>dep s<=n):=⟨fun a m h hm=>fP a m (le_trans h hm),iQ⟩
theorem BN:jP T.str PyData.str 0 (fun _=>True):=⟨fun a m _ _=>jc m a,fun _ _=>beq_iff_eq⟩
theorem kG:jP T.bool PyData.bool 0 (fun _=>True):=⟨fun a m _ _=>tn m a,fun _ _=>beq_iff_eq⟩
theorem dE:jP (fun n:Nat=>T.int n) (fun n:Nat=>PyData.int n) 0 (fun _=>True):=⟨fun a m _ _=>mI m a,fun a c=>by show (((a:Int)==(c:Int))=true)↔_;rw [beq_iff_eq];exact ⟨fun h=>ofNat.inj h,fun h=>by rw [h]⟩⟩
section
variable {α:Type} {e:α->T} {d:α->PyData} {n:Nat} {P:α->Prop}
theorem jP.all (E:jP e d n P){m:Nat}(hm:n<=m):∀l:List α,(∀a∈l,P a)->gt (di m) (l.map e)=some (l.map d)
 | [],_=>rfl
 |a::l,h=>by rw [map_cons,gt,E.dat a m (h a (.head _)) hm];simp only [E.all hm l fun b hb=>h b (.tail _ hb)];rfl
theorem jP.eqs (E:jP e d n P):∀l l':List α,PyData.eqvAll (l.map d) (l'.map d)=true↔l=l'
 | [],[]=>⟨fun _=>rfl,fun _=>rfl⟩
 | [],_::_=>⟨fun h=>(by cases h),fun h=>(by cases h)⟩
 |_::_,[]=>⟨fun h=>(by cases h),fun h=>(by cases h)⟩
 |a::l,c::l'=>by
  show (PyData.eqv (d a) (d c)&&PyData.eqvAll (l.map d) (l'.map d))=true↔_
  rw [and_eq_true,E.eq,E.eqs l l']
  exact ⟨fun h=>(by rw [h.1,h.2]),fun h=>(by cases h;exact ⟨rfl,rfl⟩)⟩
theorem jP.tup (E:jP e d n P):jP (fun l:List α=>T.tup (l.map e)) (fun l=>PyData.tuple (l.map d)) (n+1) (fun l=>∀a∈l,P a):=
 ⟨fun l m h hm=>by
  obtain ⟨m,rfl⟩:=Nat.exists_eq_add_of_le' hm
  show (gt (di (m+n)) (l.map e)).map PyData.tuple=_
  rw [E.all (le_add_left _ _) l h];rfl,fun a c=>E.eqs a c⟩
theorem jP.lst (E:jP e d n P):jP (fun l:List α=>T.lst (l.map e)) (fun l=>PyData.list (l.map d)) (n+1) (fun l=>∀a∈l,P a):=
 ⟨fun l m h hm=>by
  obtain ⟨m,rfl⟩:=Nat.exists_eq_add_of_le' hm
  show (gt (di (m+n)) (l.map e)).map PyData.list=_
  rw [E.all (le_add_left _ _) l h];rfl,fun a c=>E.eqs a c⟩
variable [DecidableEq α]
theorem jP.eqb (E:jP e d n P)(a c:α):PyData.eqv (d a) (d c)=decide (a=c):=by
 cases h:PyData.eqv (d a) (d c) with
 |true=>exact (decide_eq_true ((E.eq a c).mp h)).symm
 |false=>exact (decide_eq_false fun q=>by rw [(E.eq a c).mpr q] at h;cases h).symm
theorem jP.is (E:jP e d n P)(hn:n<=cB){a c:α}(ha:P a)(hc:P c):ck (e a) (e c)=some (decide (a=c)):=by
 rw [ck,E.dat a cB ha hn,E.dat c cB hc hn];exact congrArg some (E.eqb a c)
theorem jP.isN (E:jP e d n P)(hn:n<=cB){a c:α}(ha:P a)(hc:P c):o8 (e a) (e c)=some (!decide (a=c)):=by rw [o8,E.is hn ha hc];rfl
theorem jP.mem (E:jP e d n P)(hn:n<=cB){a:α}{l:List α}(ha:P a)(hl:∀c∈l,P c){s:T}(hs:ir s=some (l.map e)):lX (e a) s=some (decide (a∈l)):=by
 rw [lX,hs]
 show o2 (di cB (e a)) (ib (l.map e)) _=_
 rw [E.dat a cB ha hn,ib,E.all hn l hl]
 refine congrArg some ?_
 show (l.map d).any _=_
 rw [Bool.eq_iff_iff,any_eq_true,decide_eq_true_eq]
 constructor
 .rintro ⟨y,hy,h⟩
  obtain ⟨c,hc,rfl⟩:=aT hy
  rw [<-(E.eq c a).mp h];exact hc
 .exact fun h=>⟨d a,eu ⟨a,h,rfl⟩,(E.eq a a).mpr rfl⟩
theorem jP.nin (E:jP e d n P)(hn:n<=cB){a:α}{l:List α}(ha:P a)(hl:∀c∈l,P c){s:T}(hs:ir s=some (l.map e)):eP (e a) s=some (!decide (a∈l)):=by rw [eP,E.mem hn ha hl hs];rfl
omit [DecidableEq α] in
theorem kx {z:Type}(f:α->z)(p:z->Bool):∀l:List α,(l.map f).findIdx? p=l.findIdx? (p ∘ f)
 | []=>rfl
 |a::l=>by rw [map_cons,findIdx?_cons,findIdx?_cons,kx f p l];rfl
theorem kA {a:α}:∀{l:List α},a∈l->l.findIdx? (fun c=>decide (c=a))=some (l.idxOf a)
 | [],h=>by cases h
 |c::l,h=>by
  rw [findIdx?_cons,idxOf_cons]
  by_cases q:c=a
  .rw [decide_eq_true q,beq_iff_eq.mpr q];rfl
  .rw [decide_eq_false q,beq_eq_false_iff_ne.mpr q]
   have:a∈l:=by cases h with
    |head=>exact absurd rfl q
    |tail _ h=>exact h
   rw [kA this];rfl
theorem jP.idx (E:jP e d n P)(hn:n<=cB){a:α}{l:List α}(ha:P a)(hl:∀c∈l,P c)(hm:a∈l):jD (.lst (l.map e)) (e a)=some (.int (l.idxOf a)):=by
 show o2 (di cB (e a)) (ib (l.map e)) _=_
 rw [E.dat a cB ha hn,ib,E.all hn l hl]
 show o1 ((l.map d).findIdx? fun y=>PyData.eqv y (d a)) _=_
 rw [kx,show (fun y=>PyData.eqv y (d a)) ∘ d=fun c=>decide (c=a) from funext fun c=>E.eqb c a,kA hm];rfl
end
end
end Mine
namespace Mine
noncomputable section
open PySem
theorem aB {o r:cg}{t:T}{σ:Sg}{k:PK T}(h:o=.ret t σ)(h2:k t σ=r):sH o k=r:=by rw [h,sH];exact h2
theorem ab {α:Type}{o:Option α}{a:α}{σ:Sg}{k:PK α}{r:cg}(h:o=some a)(h2:k a σ=r):up o σ k=r:=by rw [h];exact h2
theorem mt {α:Type}{o:Option α}{a:α}{f:α->cg}{b r:cg}(h:o=some a)(h2:f a=r):(match (generalizing:=false) o with |some a=>f a |none=>b)=r:=by rw [h];exact h2
theorem eh {c:Bool}{a b r:cg}(h:c=true)(h2:a=r):(bif c then a else b)=r:=by rw [h];exact h2
theorem aL {c:Bool}{a b r:cg}(h:c=false)(h2:b=r):(bif c then a else b)=r:=by rw [h];exact h2
@[reducible] noncomputable def Eu (bd:PB)(body:PS)(c:cr)(v:T)(ρ:aW)(σ:S5)(k:PK aW):cg:=match bd v ρ with
 |none=>.bad
 |some ρ'=>body c ρ' σ k
theorem r9 {l:List T}{lo hi:Option Int}:ci (.lst l) lo hi=some (.lst (cut lo hi l)):=by unfold ci;rfl
theorem zo {bd:PB}{body:PS}{c:cr}{v:T}{l:List T}{ρ ρ':aW}{σ:Sg}{k:PK aW}{r:cg}(hb:bd v ρ=some ρ')(h:body c ρ' σ (fun ρ σ=>cD bd body c l ρ σ k)=r):cD bd body c (v::l) ρ σ k=r:=by
 show (match bd v ρ with |none=>.bad |some ρ'=>body c ρ' σ fun ρ σ=>cD bd body c l ρ σ k)=r
 rw [hb];exact h
noncomputable def bb (Q:T->Sg->Prop)(o:cg):Prop:=∃t σ,o=.ret t σ/\Q t σ
section
variable {Q:T->Sg->Prop}
theorem cR {t:T}{σ:Sg}(h:Q t σ):bb Q (.ret t σ):=⟨t,σ,rfl,h⟩
theorem gD {o:cg}{t:T}{σ:Sg}{k:PK T}(h:o=.ret t σ)(h2:bb Q (k t σ)):bb Q (sH o k):=by rw [h,sH];exact h2
theorem bY {P:T->Sg->Prop}{o:cg}{k:PK T}(h:bb P o)(h2:∀t σ,P t σ->bb Q (k t σ)):bb Q (sH o k):=by obtain ⟨t,σ,rfl,h⟩:=h;rw [sH];exact h2 t σ h
theorem aC {α:Type}{o:Option α}{a:α}{σ:Sg}{k:PK α}(h:o=some a)(h2:bb Q (k a σ)):bb Q (up o σ k):=by rw [h];exact h2
theorem eY {α:Type}{o:Option α}{a:α}{f:α->cg}{b:cg}(h:o=some a)(h2:bb Q (f a)):bb Q (match (generalizing:=false) o with |some a=>f a |none=>b):=by rw [h];exact h2
theorem o6 {ρ:aW}{i:Nat}{t:T}{σ:Sg}{k:PK T}(h:bV ρ i=some t)(h2:bb Q (k t σ)):bb Q (up (bV ρ i) σ k):=by rw [h];exact h2
theorem fu {c:Bool}{a b:cg}(h1:c=true->bb Q a)(h2:c=false->bb Q b):bb Q (bif c then a else b):=by
 cases c with
 |true=>exact h1 rfl
 |false=>exact h2 rfl
theorem B8 {x y:cg}(h:bb Q y):bb Q (bif false then x else y):=h
theorem Gg {x y:cg}(h:bb Q x):bb Q (bif true then x else y):=h
theorem oq {l:List T}{x y:cg}(hl:Nat.ble l.length 100=true)(h:bb Q x):bb Q (bif cT l.length then x else y):=by
 rw [show cT l.length=true from ble_eq_true_of_le (le_trans (le_of_ble_eq_true hl) (by decide))];exact h
theorem Ei {bd:PB}{body:PS}{c:cr}{v:T}{l:List T}{ρ ρ':aW}{σ:Sg}{k:PK aW}(hb:bd v ρ=some ρ')(h:bb Q (body c ρ' σ fun ρ σ=>cD bd body c l ρ σ k)):bb Q (cD bd body c (v::l) ρ σ k):=by
 show bb Q (match bd v ρ with |none=>.bad |some ρ'=>body c ρ' σ fun ρ σ=>cD bd body c l ρ σ k)
 rw [hb];exact h
theorem Jc {bd:PB}{body:PS}{c:cr}{ρ:aW}{σ:Sg}{k:PK aW}(h:bb Q (k ρ σ)):bb Q (cD bd body c [] ρ σ k):=h
theorem te {α:Type}{e:α->T}{bd:PB}{body:PS}{c:cr}{k:PK aW}(I:List α->aW->Sg->Prop){l:List α}
  (h:∀pre a suf ρ σ,l=pre++a::suf->I pre ρ σ->∀k,(∀ρ' σ',I (pre++[a]) ρ' σ'->bb Q (k ρ' σ'))->bb Q (Eu bd body c (e a) ρ σ k))(h1:∀ρ σ,I l ρ σ->bb Q (k ρ σ)):
  ∀{suf pre:List α} {ρ:aW} {σ:Sg},l=pre++suf->I pre ρ σ->bb Q (cD bd body c (suf.map e) ρ σ k)
 | [],pre,ρ,σ,hl,hi=>h1 ρ σ (by rw [hl,append_nil];exact hi)
 |a::suf,pre,ρ,σ,hl,hi=>h pre a suf ρ σ hl hi _ fun ρ' σ' hi'=>te I h h1 (suf:=suf) (pre:=pre++[a]) (by rw [hl,List.append_assoc];rfl) hi'
theorem js {t:PT}{body:PS}{c:cr}{k:PK aW}{S:Type}(I:S->aW->Sg->Prop)(go:S->Bool)(ms:S->Nat)(ht:∀s ρ σ,I s ρ σ->∀k:PK Bool,bb Q (k (go s) σ)->bb Q (t c ρ σ k))
  (hb:∀s ρ σ,I s ρ σ->go s=true->∀k,(∀s' ρ' σ',ms s' < ms s->I s' ρ' σ'->bb Q (k ρ' σ'))->bb Q (body c ρ σ k))(h1:∀s ρ σ,I s ρ σ->go s=false->bb Q (k ρ σ)):
  ∀{n:Nat} {s:S} {ρ:aW} {σ:Sg},ms s < n->I s ρ σ->bb Q (f8 t body c n ρ σ k)
 | 0,s,ρ,σ,h,_=>absurd h (not_lt_zero _)
 |n+1,s,ρ,σ,h,hi=>by rw [il];exact ht s ρ σ hi _ (fu (fun e=>hb s ρ σ hi e _ fun s' ρ' σ' h' hi'=>js I go ms ht hb h1 (n:=n) (lt_of_lt_of_le h' (le_of_lt_succ h)) hi') (h1 s ρ σ hi))
end
theorem iT {α:Type}{e:α->T}{bd:PB}{cond:PT}{elt:PE}{c:cr}{ρ:aW}{σ:Sg}{k:PK (List T)}{r:cg}(p:α->Bool)(f:α->T):∀{l:List α} {acc:List T},
  (∀a∈l,∃ρ',bd (e a) ρ=some ρ'/\(∀k,cond c ρ' σ k=k (p a) σ)/\(p a=true->∀k,elt c ρ' σ k=k (f a) σ))->k (acc++(l.filter p).map f) σ=r->br bd cond elt c ρ (l.map e) σ acc k=r
 | [],acc,_,hk=>by rw [List.filter_nil,map_nil,append_nil] at hk;rw [map_nil,mJ];exact hk
 |a::l,acc,h,hk=>by
  obtain ⟨ρ',h1,h2,h3⟩:=h a (.head _)
  have ih:=fun acc=>iT (e:=e) (bd:=bd) (cond:=cond) (elt:=elt) (c:=c) (ρ:=ρ) (σ:=σ) (k:=k) (r:=r) p f (l:=l) (acc:=acc) fun b hb=>h b (.tail _ hb)
  rw [map_cons,mL]
  simp only [h1,h2]
  cases e:p a with
  |false=>rw [List.filter_cons_of_neg (by rw [e];decide)] at hk;exact ih acc hk
  |true=>
   rw [cond_true,h3 e]
   rw [List.filter_cons_of_pos e,map_cons] at hk
   exact ih (acc++[f a]) (by rw [List.append_assoc];exact hk)
theorem bw {α:Type}{e:α->T}{bd:PB}{elt:PE}{c:cr}{ρ:aW}{σ:Sg}{k:PK (List T)}{r:cg}(f:α->T){l:List α}(h:∀a∈l,∃ρ',bd (e a) ρ=some ρ'/\∀k,elt c ρ' σ k=k (f a) σ)(hk:k (l.map f) σ=r):br bd aJ elt c ρ (l.map e) σ [] k=r:=
 iT (fun _=>true) f (fun a ha=>let ⟨ρ',h1,h2⟩:=h a ha;⟨ρ',h1,fun _=>rfl,fun _=>h2⟩) (by rw [List.filter_eq_self.mpr fun _ _=>rfl];exact hk)
theorem zI {Q:T->Sg->Prop}{α:Type}{e:α->T}{bd:PB}{cond:PT}{elt:PE}{c:cr}{ρ:aW}{σ:Sg}{k:PK (List T)}(p:α->Bool)(f:α->T){l:List α}
  (h:∀a∈l,∃ρ',bd (e a) ρ=some ρ'/\(∀k,cond c ρ' σ k=k (p a) σ)/\(p a=true->∀k,elt c ρ' σ k=k (f a) σ))(hk:bb Q (k ((l.filter p).map f) σ)):bb Q (br bd cond elt c ρ (l.map e) σ [] k):=by
 rw [iT p f h rfl];exact hk
theorem g9 {Q:T->Sg->Prop}{α:Type}{e:α->T}{bd:PB}{elt:PE}{c:cr}{ρ:aW}{σ:Sg}{k:PK (List T)}(f:α->T){l:List α}(h:∀a∈l,∃ρ',bd (e a) ρ=some ρ'/\∀k,elt c ρ' σ k=k (f a) σ)(hk:bb Q (k (l.map f) σ)):bb Q (br bd aJ elt c ρ (l.map e) σ [] k):=by
 rw [bw f h rfl];exact hk
structure tY {α:Type} (e:α->T) (κ:α->Ky):Prop where
 ky:∀a,yZ (e a)=some (κ a)
 inj:∀a c,κ a=κ c->a=c
section
variable {α:Type} {e:α->T} {κ:α->Ky} [DecidableEq α]
omit [DecidableEq α] in
theorem tY.kys (K:tY e κ):∀l:List α,gE (l.map e)=some (l.map κ)
 | []=>rfl
 |a::l=>by
  have:=K.kys l
  rw [gE] at this ⊢
  rw [map_cons,w8,K.ky a,this];rfl
theorem tY.at_ (K:tY e κ)(l:List α)(a:α):qW (l.map κ) (κ a)=if a∈l then some (l.idxOf a) else none:=by
 unfold qW
 rw [kx]
 have:(fun x=>decide (x=κ a)) ∘ κ=fun c=>decide (c=a):=funext fun c=>by
  show decide (κ c=κ a)=_
  by_cases q:c=a
  .rw [q,decide_eq_true rfl,decide_eq_true rfl]
  .rw [decide_eq_false q,decide_eq_false fun h=>q (K.inj c a h)]
 rw [this]
 by_cases h:a∈l
 .rw [if_pos h,kA h]
 .rw [if_neg h,List.findIdx?_eq_none_iff]
  exact fun x hx=>decide_eq_false fun q=>h (q▸hx)
theorem tY.fd (K:tY e κ)(l:List α)(a:α):mn (l.map e) (e a)=some (if a∈l then some (l.idxOf a) else none):=by
 rw [mn,K.kys,K.ky];exact congrArg some (K.at_ l a)
theorem q7 {z:Type}(f:α->z):∀{l:List α} {a:α},a∈l->(l.map f)[l.idxOf a]?=some (f a)
 |c::l,a,h=>by
  rw [idxOf_cons]
  by_cases q:c=a
  .rw [beq_iff_eq.mpr q,cond_true,q];rfl
  .rw [beq_eq_false_iff_ne.mpr q,cond_false,map_cons,List.getElem?_cons_succ]
   exact q7 f (by cases h with
    |head=>exact absurd rfl q
    |tail _ h=>exact h)
theorem tY.get (K:tY e κ){l:List α}{f:α->T}{a:α}(h:a∈l):idxD (.dct (l.map e) (l.map f)) (e a)=some (f a):=by
 show o1 (mn (l.map e) (e a)) _=_
 rw [K.fd,if_pos h];exact q7 f h
theorem tY.has (K:tY e κ){l:List α}{vs:List T}(a:α):CR (e a) (.dct (l.map e) vs)=some (decide (a∈l)):=by
 show o1 (mn (l.map e) (e a)) _=_
 rw [K.fd]
 by_cases h:a∈l
 .rw [if_pos h,decide_eq_true h];rfl
 .rw [if_neg h,decide_eq_false h];rfl
theorem tY.put (K:tY e κ){l:List α}{vs:List T}{a:α}{v:T}(h:a∉l)(hl:l.length < lim):eG (.dct (l.map e) vs) (e a) v=some (.dct ((l++[a]).map e) (vs++[v])):=by
 show o1 (mn (l.map e) (e a)) _=_
 rw [K.fd,if_neg h]
 show qg _ _=_
 rw [qg,length_map,show cT (l.length+1)=true from ble_eq_true_of_le hl,map_append];rfl
theorem tY.fresh (K:tY e κ):∀(l us:List α),(us++l).Nodup->fM (l.map e) (us.map e)=true
 | [],_,_=>rfl
 |a::l,us,h=>by
  have ha:a∉us:=fun q=>(aS h).2.2 a q a (.head _) rfl
  rw [map_cons,oh,K.fd,if_neg ha]
  show fM (l.map e) (us.map e++[e a])=true
  have:=K.fresh l (us++[a]) (by rw [List.append_assoc];exact h)
  rw [map_append] at this;exact this
end
structure Kn where
 p:Nat
 g:List Bool
noncomputable instance:DecidableEq Kn:=fun a b=>Classical.propDecidable (a=b)
theorem y0:∀{a c:Kn},a.p=c.p->a.g=c.g->a=c
 | ⟨_,_⟩,⟨_,_⟩,rfl,rfl=>rfl
noncomputable def bh (k:Kn):T:=.tup [.int k.p,.tup (k.g.map .bool)]
noncomputable def GL (k:Kn):PyData:=.tuple [.int k.p,.tuple (k.g.map .bool)]
noncomputable def Jb (k:Kn):Ky:=.tup [.int k.p,.tup (k.g.map fun b=>.int (u5 b))]
theorem n8 (n:Nat):∀g:List Bool,my.go (my n) (g.map .bool)=some (g.map fun b=>.int (u5 b))
 | []=>rfl
 |b::g=>by
  rw [map_cons,w8,n8 n g,show my n (.bool b)=some (.int (u5 b)) by cases n<;>rfl];rfl
theorem Cb {a b:Bool}(h:u5 a=u5 b):a=b:=by revert h;cases a<;>cases b<;>decide
theorem lG:∀{g g':List Bool},(g.map fun b=>Ky.int (u5 b))=g'.map (fun b=>Ky.int (u5 b))->g=g'
 | [],[],_=>rfl
 | [],_::_,h=>by cases h
 |_::_,[],h=>by cases h
 |a::g,b::g',h=>by
  have h1:=List.cons.inj h
  rw [Cb (Ky.int.inj h1.1),lG h1.2]
theorem c9:tY bh Jb:=⟨fun a=>by
  show o1 (my.go (my 5) [.int a.p,.tup (a.g.map .bool)]) _=_
  rw [w8,w8,show my 5 (.tup (a.g.map .bool))=some (.tup (a.g.map fun b=>.int (u5 b))) by rw [CO,n8];rfl];rfl,
 fun a c h=>by
  have h1:=List.cons.inj (Ky.tup.inj h)
  have h2:=List.cons.inj h1.2
  exact y0 (ofNat.inj (Ky.int.inj h1.1)) (lG (Ky.tup.inj h2.1))⟩
theorem lu:jP bh GL 2 (fun _=>True):=⟨fun a m _ hm=>by
  obtain ⟨m,rfl⟩:=Nat.exists_eq_add_of_le' hm
  show (gt (di (m+1)) [.int a.p,.tup (a.g.map .bool)]).map PyData.tuple=_
  rw [gt,mI,gt,kG.tup.dat a.g (m+1) (fun _ _=>trivial) (le_add_left _ _)];rfl,
 fun a c=>by
  show (((a.p:Int)==(c.p:Int))&&(PyData.eqvAll (a.g.map .bool) (c.g.map .bool)&&true))=true↔_
  rw [Bool.and_true,and_eq_true,beq_iff_eq,kG.eqs]
  exact ⟨fun h=>y0 (ofNat.inj h.1) h.2,fun h=>by rw [h];exact ⟨rfl,rfl⟩⟩⟩
noncomputable def lj (l:List Kn):T:=.dct (l.map bh) (l.map fun _=>.bool true)
noncomputable def f9 (b p m kn:T)(K:List Kn)(n:Nat)(th:Kn->List Kn):T:=.obj 10 [b,p,m,kn,.lst (K.map bh),.int n,.dct (K.map bh) (K.map fun k=>.lst ((th k).map bh))]
theorem DJ (l:List Kn)(k:Kn):CR (bh k) (lj l)=some (decide (k∈l)):=c9.has k
theorem ja (l:List Kn)(k:Kn):fK (bh k) (lj l)=some (!decide (k∈l)):=by show (CR _ _).map _=_;rw [DJ];rfl
theorem ke {l:List Kn}{k:Kn}(h:k∉l)(hl:l.length < lim):eG (lj l) (bh k) (.bool true)=some (lj (l++[k])):=by
 rw [lj,c9.put h hl,lj,map_append (f:=fun _=>T.bool true)];rfl
theorem fO (a c:Int):ck (.int a) (.int c)=some (decide (a=c)):=congrArg some (by show (a==c)=_;by_cases h:a=c<;>simp [h])
noncomputable def Cy (s:Kn×Nat):T:=.tup [bh s.1,.int s.2]
noncomputable def IZ (s:Kn×Nat):PyData:=.tuple [GL s.1,.int s.2]
theorem El:jP Cy IZ 3 (fun _=>True):=⟨fun a m _ hm=>by
  obtain ⟨m,rfl⟩:=Nat.exists_eq_add_of_le' hm
  show (gt (di (m+2)) [bh a.1,.int a.2]).map PyData.tuple=_
  rw [gt,lu.dat a.1 (m+2) trivial (le_add_left _ _),gt,mI];rfl,
 fun a c=>by
  show (PyData.eqv (GL a.1) (GL c.1)&&(((a.2:Int)==(c.2:Int))&&true))=true↔_
  rw [Bool.and_true,and_eq_true,beq_iff_eq,lu.eq]
  exact ⟨fun h=>Prod.ext h.1 (ofNat.inj h.2),fun h=>by rw [h];exact ⟨rfl,rfl⟩⟩⟩
theorem jP.some {α:Type}{e:α->T}{d:α->PyData}{n:Nat}(E:jP e d n (fun _=>True))(hn:n < cB)(l:List α):o8 (.lst (l.map e)) (.lst [])=Option.some (!l.isEmpty):=by
 have h1:=E.lst.dat l cB (fun _ _=>trivial) hn
 show (ck _ _).map _=_
 rw [ck,h1]
 cases l with
 |nil=>rfl
 |cons a l=>rfl
theorem Ad {l:List T}{v:T}(h:l.length < lim):d9 (.lst l) v=some (.lst (l++[v])):=by
 show qg _ _=_
 rw [qg,show cT (l.length+1)=true from ble_eq_true_of_le h];rfl
theorem zr {l m:List T}(h:l.length+m.length<=lim):jk (.lst l) (.lst m)=some (.lst (l++m)):=by
 show qg _ _=_
 rw [qg,show cT (l.length+m.length)=true from ble_eq_true_of_le h];rfl
theorem bC:lim=1000000:=rfl
theorem dj {α:Type}{e:α->T}{l:List α}(a:α)(h:l.length < lim):d9 (.lst (l.map e)) (e a)=some (.lst ((l++[a]).map e)):=by
 rw [Ad (by rw [length_map];exact h),map_append];rfl
theorem rh {α:Type}{e:α->T}{l m:List α}(h:l.length+m.length<=lim):jk (.lst (l.map e)) (.lst (m.map e))=some (.lst ((l++m).map e)):=by
 rw [zr (by rw [length_map,length_map];exact h),map_append]
theorem jv {i:Nat}(h:i<=lim):sm (i:Int)=true:=ble_eq_true_of_le (le_trans (m:=i) (le_of_eq (Int.natAbs_natCast i)) (le_trans h (by decide)))
theorem jY {i n:Nat}(h:i < n):seqIndex? (i:Int) n=some i:=by
 show (if (decide (0<=(if (i:Int) < 0 then (i:Int)+n else i))&&decide ((if (i:Int) < 0 then (i:Int)+n else i) < (n:Int)))=true then some (if (i:Int) < 0 then (i:Int)+n else i).toNat else none)=some i
 rw [if_neg (not_lt.mpr (natCast_nonneg i)),decide_eq_true (natCast_nonneg i),decide_eq_true (cH h)];rfl
theorem u8 {α:Type}{e:α->T}{l:List α}{i:Nat}{a:α}(h:l[i]?=some a)(hi:i<=lim):z0 i (l.map e)=some (e a):=by
 rw [z0,jv hi,cond_true,jY (by rw [length_map];exact (ak h).1)]
 show (l.map e)[i]?=_
 rw [getElem?_map,h];rfl
theorem CC {α z:Type}(a:α)(f:α->Option z):o1 (some a) f=f a:=rfl
theorem q0 (xs:List T)(i:Int):au (.lst xs) (.int i)=z0 i xs:=by
 rw [au,show jJ (.int i)=some i from rfl,CC,show ir (.lst xs)=some xs from rfl]
theorem bF {α:Type}{e:α->T}{l:List α}{i:Nat}{a:α}(h:l[i]?=some a)(hi:i<=lim):au (.lst (l.map e)) (.int i)=some (e a):=(q0 _ _).trans (u8 h hi)
theorem vq {z:Type}{f:Kn->z}{o:Kn}{v:z}:∀{K:List Kn},K.Nodup->o∈K->(K.map f).set (K.idxOf o) v=K.map fun k=>if k=o then v else f k
 |k::K,hn,ho=>by
  have h1:=bi hn
  rw [idxOf_cons]
  by_cases q:k=o
  .subst q
   rw [beq_iff_eq.mpr rfl,cond_true,map_cons,List.set_cons_zero,map_cons,if_pos rfl]
   refine congrArg _ (map_congr_left fun x hx=>?_)
   exact (if_neg fun (e:x=k)=>h1.1 (e▸hx)).symm
  .rw [beq_eq_false_iff_ne.mpr q,cond_false,map_cons,List.set_cons_succ,map_cons,if_neg q,vq h1.2 (by cases ho with
    |head=>exact absurd rfl q
    |tail _ h=>exact h)]
theorem sV {K:List Kn}{kn:Kn}(hK:K.Nodup):∀(os:List Kn) (h:Kn->List Kn),(∀o∈os,o∈K)->(∀k,(h k).length+os.length<=lim)->
  ∃h':Kn->List Kn,lk (K.map bh) (bh kn) (os.map bh) (K.map fun k=>(h k).map bh)=some (K.map fun k=>(h' k).map bh)/\(∀k x,x∈h' k↔x∈h k\/(x=kn/\k∈os))/\∀k,(h' k).length<=(h k).length+os.length
 | [],h,_,_=>⟨h,rfl,fun k x=>⟨.inl,fun q=>q.elim id fun q=>nomatch q.2⟩,fun k=>le_refl _⟩
 |o::os,h,hs,hl=>by
  have ho:=hs o (.head _)
  have l1:cT ((h o).length+1)=true:=ble_eq_true_of_le (by have:=hl o;rw [length_cons] at this;lia -abstractProof)
  obtain ⟨h',e1,e2,e3⟩:=sV (kn:=kn) hK os (fun k=>if k=o then h k++[kn] else h k) (fun x hx=>hs x (.tail _ hx)) fun k=>by
   have:=hl k
   rw [length_cons] at this
   by_cases q:k=o
   .simp only [if_pos q,List.length_append,length_cons,length_nil];lia
   .simp only [if_neg q];lia
  refine ⟨h',?_,fun k x=>?_,fun k=>?_⟩
  .rw [map_cons,DR,c9.fd,if_pos ho]
   show (o1 (K.map fun k=>(h k).map bh)[K.idxOf o]? _)=_
   rw [q7 _ ho]
   show (bif cT (((h o).map bh).length+1) then lk _ _ _ ((K.map fun k=>(h k).map bh).set (K.idxOf o) ((h o).map bh++[bh kn])) else none)=_
   rw [length_map,l1,cond_true,vq hK ho,<-e1]
   congr 1
   refine map_congr_left fun k hk=>?_
   by_cases q:k=o
   .rw [if_pos q,if_pos q,q,map_append];rfl
   .rw [if_neg q,if_neg q]
  .refine (e2 k x).trans ?_
   by_cases q:k=o
   .rw [if_pos q,mem_append,mem_singleton]
    constructor
    .rintro ((h |h) |h)
     .exact .inl h
     .exact .inr ⟨h,q▸.head _⟩
     .exact .inr ⟨h.1,.tail _ h.2⟩
    .rintro (h |h)
     .exact .inl (.inl h)
     .exact .inl (.inr h.1)
   .rw [if_neg q,mem_cons]
    exact ⟨fun h=>h.imp id fun h=>⟨h.1,.inr h.2⟩,fun h=>h.imp id fun h=>⟨h.1,h.2.resolve_left q⟩⟩
  .have:=e3 k
   rw [length_cons]
   by_cases q:k=o
   .simp only [if_pos q,List.length_append,length_cons,length_nil] at this;lia
   .simp only [if_neg q] at this;lia
theorem sT {K:List Kn}{th:Kn->List Kn}(hK:K.Nodup)(hc:∀k∈K,∀y∈th k,y∈K)(hw:∀k∈K,(th k).length<=1000):∀(ns:List Kn) (h:Kn->List Kn),(∀n∈ns,n∈K)->(∀k,(h k).length+ns.length * 1000<=lim)->
  ∃h':Kn->List Kn,sU (K.map bh) (.dct (K.map bh) (K.map fun k=>.lst ((th k).map bh))) (ns.map bh) (K.map fun k=>(h k).map bh)=some (K.map fun k=>(h' k).map bh)/\∀k x,x∈h' k↔x∈h k\/(x∈ns/\k∈th x)
 | [],h,_,_=>⟨h,rfl,fun k x=>⟨.inl,fun q=>q.elim id fun q=>nomatch q.1⟩⟩
 |n::ns,h,hs,hl=>by
  have hn:=hs n (.head _)
  have lw:=hw n hn
  obtain ⟨ha,e1,e2,e3⟩:=sV (kn:=n) hK (th n) h (fun o ho=>hc n hn o ho) fun k=>by have:=hl k;rw [length_cons] at this;lia
  obtain ⟨h2,e4,e5⟩:=sT hK hc hw ns ha (fun x hx=>hs x (.tail _ hx)) fun k=>by have:=hl k;have:=e3 k;rw [length_cons] at *;lia
  refine ⟨h2,?_,fun k x=>?_⟩
  .rw [map_cons,DQ,c9.get hn]
   show (o1 (lk (K.map bh) (bh n) ((th n).map bh) _) _)=_
   rw [e1];exact e4
  .rw [e5,e2]
   constructor
   .rintro ((h | ⟨rfl,h⟩) | ⟨h,h'⟩)
    .exact .inl h
    .exact .inr ⟨.head _,h⟩
    .exact .inr ⟨.tail _ h,h'⟩
   .rintro (h | ⟨h,h'⟩)
    .exact .inl (.inl h)
    .rcases az h with rfl |h
     .exact .inl (.inr ⟨rfl,h'⟩)
     .exact .inr ⟨h,h'⟩
theorem Bp {b p m kn:T}{K:List Kn}{bg:Nat}{th:Kn->List Kn}(hK:K.Nodup)(hl:K.length<=1000)(hc:∀k∈K,∀y∈th k,y∈K)(hw:∀k∈K,(th k).length<=1000):
  ∃bk:Kn->List Kn,sS (f9 b p m kn K bg th)=some (.dct (K.map bh) (K.map fun k=>.lst ((bk k).map bh)))/\∀k x,x∈bk k↔x∈K/\k∈th x:=by
 obtain ⟨bk,e1,e2⟩:=sT hK hc hw K (fun _=>[]) (fun _ h=>h) fun k=>by rw [bC,length_nil];lia -abstractProof
 refine ⟨bk,?_,fun k x=>⟨fun h=>((e2 k x).mp h).elim (fun h=>nomatch h) id,fun h=>(e2 k x).mpr (.inr h)⟩⟩
 show (bif cT (K.map bh).length&&fM (K.map bh) [] then o1 (sU (K.map bh) _ (K.map bh) ((K.map bh).map fun _=>[])) fun ds=>some (T.dct (K.map bh) (ds.map .lst)) else none)=_
 have f1:cT (K.map bh).length=true:=by rw [length_map];exact ble_eq_true_of_le (by rw [bC];lia -abstractProof)
 have f2:fM (K.map bh) []=true:=c9.fresh K [] hK
 rw [f1,f2,map_map]
 show o1 (sU _ _ _ (K.map fun k=>((fun _=>[]) k:List Kn).map bh)) _=_
 rw [e1]
 show some (T.dct (K.map bh) ((K.map fun k=>(bk k).map bh).map .lst))=_
 rw [map_map];rfl
theorem xR (n:Nat):Builtin.Range.rangeSize 0 n 1=n:=by
 unfold Builtin.Range.rangeSize
 simp only [show (1:Int) > 0 by decide,if_true,ediv_one]
 split<;>lia -abstractProof
theorem gh {n:Nat}(h:n<=100000):vv [.int n]=some ((List.range n).map fun j:Nat=>T.int j):=by
 have e:cY 0 n 1=(List.range n).map fun j:Nat=>T.int j:=by
  rw [cY,xR]
  exact map_congr_left fun k _=>by rw [Int.zero_add,Int.mul_one]
 unfold vv
 show rg 0 n=_
 rw [rg,e,show sm 0=true from rfl,jv (by rw [bC];lia),length_map,length_range,show cT n=true from ble_eq_true_of_le (by rw [bC];lia)];rfl
theorem ju {α:Type}(q:α->Bool):∀C:List α,fb (C.map fun k=>.bool (q k))=some (C.map q)
 | []=>rfl
 |a::C=>by rw [map_cons,show fb (_::C.map fun k=>.bool (q k))=o2 (some (q a)) (fb (C.map fun k=>.bool (q k))) fun b bs=>some (b::bs) from rfl,ju q C];rfl
theorem any_map {α:Type}(C:List α)(q:α->Bool):u9 (.lst (C.map fun k=>.bool (q k)))=some (.bool (C.any q)):=by
 show o1 (fb _) _=_
 rw [ju]
 exact congrArg (fun b=>some (T.bool b)) (List.any_map.trans rfl)
theorem all_map {α:Type}(C:List α)(q:α->Bool):kU (.lst (C.map fun k=>.bool (q k)))=some (.bool (C.all q)):=by
 show o1 (fb _) _=_
 rw [ju]
 exact congrArg (fun b=>some (T.bool b)) (List.all_map.trans rfl)
theorem tr {α:Type}(l:List α):cut (some 1) none l=l.drop 1:=by
 cases l with
 |nil=>rfl
 |cons a l=>
  have e:clipAt (a::l).length 1=1:=(kH _ 1).trans (Nat.min_eq_left (succ_le_succ (zero_le _)))
  simp only [cut,Option.elim,e]
  rw [List.drop_one,List.tail_cons,length_cons,Nat.add_sub_cancel,take_length]
theorem iR {α:Type}(n:Nat)(l:List α):cut none (some (n:Int)) l=l.take n:=by
 have e:clipAt l.length n=min n l.length:=kH _ _
 simp only [cut,Option.elim,e,drop_zero,Nat.sub_zero]
 rw [<-List.take_take,take_length]
theorem oA {α:Type}(l:List α):cut none (some (-1)) l=l.dropLast:=by
 have e:clipAt l.length (-1)=l.length - 1:=rt _
 simp only [cut,Option.elim,e,drop_zero,Nat.sub_zero,List.dropLast_eq_take]
theorem zA {α:Type}(l:List α)(a:α):cut (some (-1)) none (l++[a])=[a]:=by
 have e:clipAt (l++[a]).length (-1)=l.length:=by rw [rt,List.length_append];rfl
 simp only [cut,Option.elim,e]
 rw [List.drop_left,List.length_append,length_cons,length_nil,Nat.add_sub_cancel_left];rfl
theorem v6 {α z:Type}(f:α->z)(lo hi:Option Int)(l:List α):cut lo hi (l.map f)=(cut lo hi l).map f:=by
 unfold cut;rw [length_map,List.map_take,map_drop]
end
end Mine
namespace Mine.L08
noncomputable section
open PySem
noncomputable abbrev kE (f:Nat):PK aW:=fun _ σ=>bif kW f then .bad else .ret .none σ
theorem aU {n f:Nat}{args:List T}{σ:Sg}{F:gK}{o:cg}(h:Ψ f=some F)(hl:Nat.beq args.length F.np=true)(hb:F.body ⟨aj Ψ n⟩ (frame args F.ns) σ (kE f)=o)(ho:(match o with |.ret _ _=>true |.exc _ _=>true |_=>false)=true):aj Ψ (n+1) f args σ=o:=by
 rw [mM,h]
 show (bif Nat.beq args.length F.np then (match F.body ⟨aj Ψ n⟩ (frame args F.ns) σ (kE f) with
  |.ret t σ=>cg.ret t σ
  |.exc c σ=>.exc c σ
  |_=>.bad) else .bad)=o
 rw [hl,hb]
 cases o<;>first |rfl |cases ho
theorem dp {n f:Nat}{args:List T}{σ:Sg}{F:gK}{Q:T->Sg->Prop}(h:Ψ f=some F)(hl:Nat.beq args.length F.np=true)(hb:bb Q (F.body ⟨aj Ψ n⟩ (frame args F.ns) σ (kE f))):bb Q (aj Ψ (n+1) f args σ):=by
 obtain ⟨t,σ',h1,h2⟩:=hb
 exact ⟨t,σ',aU h hl h1 rfl,h2⟩
theorem xn {n:Nat}{a0:T}{σ σ':Sg}{t:T}(h:gz ⟨aj Ψ n⟩ [some a0,none] σ (kE 1)=.ret t σ'):aj Ψ (n+1) 1 [a0] σ=.ret t σ':=aU (F:=⟨1,1,gz⟩) rfl rfl h rfl
theorem uV {n:Nat}{a0:T}{σ σ':Sg}{t:T}(h:fE ⟨aj Ψ n⟩ [some a0] σ (kE 2)=.ret t σ'):aj Ψ (n+1) 2 [a0] σ=.ret t σ':=aU (F:=⟨1,0,fE⟩) rfl rfl h rfl
theorem oL {n:Nat}{a0:T}{σ σ':Sg}{t:T}(h:fF ⟨aj Ψ n⟩ [some a0] σ (kE 3)=.ret t σ'):aj Ψ (n+1) 3 [a0] σ=.ret t σ':=aU (F:=⟨1,0,fF⟩) rfl rfl h rfl
theorem tG {n:Nat}{a0 a1:T}{σ σ':Sg}{t:T}(h:eK ⟨aj Ψ n⟩ [some a0,some a1,none] σ (kE 4)=.ret t σ'):aj Ψ (n+1) 4 [a0,a1] σ=.ret t σ':=aU (F:=⟨2,1,eK⟩) rfl rfl h rfl
theorem tH {n:Nat}{a0:T}{σ σ':Sg}{t:T}(h:eL ⟨aj Ψ n⟩ [some a0] σ (kE 5)=.ret t σ'):aj Ψ (n+1) 5 [a0] σ=.ret t σ':=aU (F:=⟨1,0,eL⟩) rfl rfl h rfl
theorem tE {n:Nat}{a0:T}{σ σ':Sg}{t:T}(h:eJ ⟨aj Ψ n⟩ [some a0,none] σ (kE 6)=.ret t σ'):aj Ψ (n+1) 6 [a0] σ=.ret t σ':=aU (F:=⟨1,1,eJ⟩) rfl rfl h rfl
theorem uY {n:Nat}{a0:T}{σ σ':Sg}{t:T}(h:fG ⟨aj Ψ n⟩ [some a0,none,none,none,none] σ (kE 500)=.ret t σ'):aj Ψ (n+1) 500 [a0] σ=.ret t σ':=aU (F:=⟨1,4,fG⟩) rfl rfl h rfl
theorem pE {n:Nat}{a0:T}{σ σ':Sg}{t:T}(h:du ⟨aj Ψ n⟩ [some a0] σ (kE 7)=.ret t σ'):aj Ψ (n+1) 7 [a0] σ=.ret t σ':=aU (F:=⟨1,0,du⟩) rfl rfl h rfl
theorem tC {n:Nat}{a0 a1 a2:T}{σ σ':Sg}{t:T}(h:iB ⟨aj Ψ n⟩ [some a0,some a1,some a2,none,none,none,none] σ (kE 53)=.ret t σ'):aj Ψ (n+1) 53 [a0,a1,a2] σ=.ret t σ':=aU (F:=⟨3,4,iB⟩) rfl rfl h rfl
theorem hE {n:Nat}{a0 a1 a2:T}{σ σ':Sg}{t:T}(h:gj ⟨aj Ψ n⟩ [some a0,some a1,some a2,none,none,none,none,none,none,none,none,none] σ (kE 54)=.ret t σ'):aj Ψ (n+1) 54 [a0,a1,a2] σ=.ret t σ':=aU (F:=⟨3,9,gj⟩) rfl rfl h rfl
theorem zR {n:Nat}{a0 a1 a2:T}{σ σ':Sg}{t:T}(h:nO ⟨aj Ψ n⟩ [some a0,some a1,some a2] σ (kE 55)=.ret t σ'):aj Ψ (n+1) 55 [a0,a1,a2] σ=.ret t σ':=aU (F:=⟨3,0,nO⟩) rfl rfl h rfl
theorem B0 {n:Nat}{a0 a1 a2:T}{σ σ':Sg}{t:T}(h:qJ ⟨aj Ψ n⟩ [some a0,some a1,some a2] σ (kE 56)=.ret t σ'):aj Ψ (n+1) 56 [a0,a1,a2] σ=.ret t σ':=aU (F:=⟨3,0,qJ⟩) rfl rfl h rfl
theorem dy {n:Nat}{a0:T}{σ σ':Sg}{t:T}(h:dw ⟨aj Ψ n⟩ [some a0,none,none,none,none] σ (kE 8)=.ret t σ'):aj Ψ (n+1) 8 [a0] σ=.ret t σ':=aU (F:=⟨1,4,dw⟩) rfl rfl h rfl
theorem xo {n:Nat}{a0 a1 a2:T}{σ σ':Sg}{t:T}(h:gA ⟨aj Ψ n⟩ [some a0,some a1,some a2] σ (kE 9)=.ret t σ'):aj Ψ (n+1) 9 [a0,a1,a2] σ=.ret t σ':=aU (F:=⟨3,0,gA⟩) rfl rfl h rfl
theorem ft {n:Nat}{a0 a1 a2 a3:T}{σ σ':Sg}{t:T}(h:j6 ⟨aj Ψ n⟩ [some a0,some a1,some a2,some a3,none] σ (kE 10)=.ret t σ'):aj Ψ (n+1) 10 [a0,a1,a2,a3] σ=.ret t σ':=aU (F:=⟨4,1,j6⟩) rfl rfl h rfl
theorem oJ {n:Nat}{a0 a1 a2 a3:T}{σ σ':Sg}{t:T}(h:iA ⟨aj Ψ n⟩ [some a0,some a1,some a2,some a3] σ (kE 11)=.ret t σ'):aj Ψ (n+1) 11 [a0,a1,a2,a3] σ=.ret t σ':=aU (F:=⟨4,0,iA⟩) rfl rfl h rfl
theorem xp {n:Nat}{a0 a1 a2:T}{σ σ':Sg}{t:T}(h:gB ⟨aj Ψ n⟩ [some a0,some a1,some a2,none] σ (kE 12)=.ret t σ'):aj Ψ (n+1) 12 [a0,a1,a2] σ=.ret t σ':=aU (F:=⟨3,1,gB⟩) rfl rfl h rfl
theorem pD {n:Nat}{a0:T}{σ σ':Sg}{t:T}(h:dt ⟨aj Ψ n⟩ [some a0,none] σ (kE 13)=.ret t σ'):aj Ψ (n+1) 13 [a0] σ=.ret t σ':=aU (F:=⟨1,1,dt⟩) rfl rfl h rfl
theorem oK {n:Nat}{a0 a1 a2 a3:T}{σ σ':Sg}{t:T}(h:iD ⟨aj Ψ n⟩ [some a0,some a1,some a2,some a3] σ (kE 14)=.ret t σ'):aj Ψ (n+1) 14 [a0,a1,a2,a3] σ=.ret t σ':=aU (F:=⟨4,0,iD⟩) rfl rfl h rfl
theorem uW {n:Nat}{a0:T}{σ σ':Sg}{t:T}(h:rQ ⟨aj Ψ n⟩ [some a0,none,none,none,none] σ (kE 35)=.ret t σ'):aj Ψ (n+1) 35 [a0] σ=.ret t σ':=aU (F:=⟨1,4,rQ⟩) rfl rfl h rfl
theorem rB {n:Nat}{a0 a1:T}{σ σ':Sg}{t:T}(h:dQ ⟨aj Ψ n⟩ [some a0,some a1] σ (kE 37)=.ret t σ'):aj Ψ (n+1) 37 [a0,a1] σ=.ret t σ':=aU (F:=⟨2,0,dQ⟩) rfl rfl h rfl
theorem uX {n:Nat}{a0 a1:T}{σ σ':Sg}{t:T}(h:jy ⟨aj Ψ n⟩ [some a0,some a1] σ (kE 15)=.ret t σ'):aj Ψ (n+1) 15 [a0,a1] σ=.ret t σ':=aU (F:=⟨2,0,jy⟩) rfl rfl h rfl
theorem pG {n:Nat}{a0 a1:T}{σ σ':Sg}{t:T}(h:gk ⟨aj Ψ n⟩ [some a0,some a1,none,none] σ (kE 16)=.ret t σ'):aj Ψ (n+1) 16 [a0,a1] σ=.ret t σ':=aU (F:=⟨2,2,gk⟩) rfl rfl h rfl
theorem tF {n:Nat}{a0 a1 a2:T}{σ σ':Sg}{t:T}(h:fY ⟨aj Ψ n⟩ [some a0,some a1,some a2,none,none,none] σ (kE 57)=.ret t σ'):aj Ψ (n+1) 57 [a0,a1,a2] σ=.ret t σ':=aU (F:=⟨3,3,fY⟩) rfl rfl h rfl
theorem pH {n:Nat}{a0 a1 a2:T}{σ σ':Sg}{t:T}(h:gn ⟨aj Ψ n⟩ [some a0,some a1,some a2,none,none] σ (kE 58)=.ret t σ'):aj Ψ (n+1) 58 [a0,a1,a2] σ=.ret t σ':=aU (F:=⟨3,2,gn⟩) rfl rfl h rfl
theorem oM {n:Nat}{a0:T}{σ σ':Sg}{t:T}(h:jA ⟨aj Ψ n⟩ [some a0,none,none] σ (kE 21)=.ret t σ'):aj Ψ (n+1) 21 [a0] σ=.ret t σ':=aU (F:=⟨1,2,jA⟩) rfl rfl h rfl
theorem rC {n:Nat}{a0:T}{σ σ':Sg}{t:T}(h:gQ ⟨aj Ψ n⟩ [some a0,none,none,none,none] σ (kE 22)=.ret t σ'):aj Ψ (n+1) 22 [a0] σ=.ret t σ':=aU (F:=⟨1,4,gQ⟩) rfl rfl h rfl
theorem rF {n:Nat}{a0 a1 a2:T}{σ σ':Sg}{t:T}(h:gR ⟨aj Ψ n⟩ [some a0,some a1,some a2,none,none,none] σ (kE 44)=.ret t σ'):aj Ψ (n+1) 44 [a0,a1,a2] σ=.ret t σ':=aU (F:=⟨3,3,gR⟩) rfl rfl h rfl
theorem tJ {n:Nat}{a0 a1 a2:T}{σ σ':Sg}{t:T}(h:iE ⟨aj Ψ n⟩ [some a0,some a1,some a2,none] σ (kE 45)=.ret t σ'):aj Ψ (n+1) 45 [a0,a1,a2] σ=.ret t σ':=aU (F:=⟨3,1,iE⟩) rfl rfl h rfl
theorem b8 {n:Nat}{a0 a1 a2:T}{σ σ':Sg}{t:T}(h:bA ⟨aj Ψ n⟩ [some a0,some a1,some a2,none,none,none,none,none,none,none,none,none,none,none,none] σ (kE 46)=.ret t σ'):aj Ψ (n+1) 46 [a0,a1,a2] σ=.ret t σ':=aU (F:=⟨3,12,bA⟩) rfl rfl h rfl
theorem rE {n:Nat}{a0 a1 a2 a3 a4:T}{σ σ':Sg}{t:T}(h:fi ⟨aj Ψ n⟩ [some a0,some a1,some a2,some a3,some a4,none,none,none,none] σ (kE 60)=.ret t σ'):aj Ψ (n+1) 60 [a0,a1,a2,a3,a4] σ=.ret t σ':=aU (F:=⟨5,4,fi⟩) rfl rfl h rfl
theorem l6 {n:Nat}{a0 a1 a2:T}{σ σ':Sg}{t:T}(h:eO ⟨aj Ψ n⟩ [some a0,some a1,some a2] σ (kE 1005)=.ret t σ'):aj Ψ (n+1) 1005 [a0,a1,a2] σ=.ret t σ':=aU (F:=⟨3,0,eO⟩) rfl rfl h rfl
theorem jF {n:Nat}{a0 a1 a2 a3:T}{σ σ':Sg}{t:T}(h:dF ⟨aj Ψ n⟩ [some a0,some a1,some a2,some a3,none,none,none] σ (kE 1006)=.ret t σ'):aj Ψ (n+1) 1006 [a0,a1,a2,a3] σ=.ret t σ':=aU (F:=⟨4,3,dF⟩) rfl rfl h rfl
theorem oN {n:Nat}{a0 a1:T}{σ σ':Sg}{t:T}(h:c8 ⟨aj Ψ n⟩ [some a0,some a1] σ (kE 1007)=.ret t σ'):aj Ψ (n+1) 1007 [a0,a1] σ=.ret t σ':=aU (F:=⟨2,0,c8⟩) rfl rfl h rfl
theorem mq {n:Nat}{a0 a1:T}{σ σ':Sg}{t:T}(h:cM ⟨aj Ψ n⟩ [some a0,some a1] σ (kE 1008)=.ret t σ'):aj Ψ (n+1) 1008 [a0,a1] σ=.ret t σ':=aU (F:=⟨2,0,cM⟩) rfl rfl h rfl
theorem lE {n:Nat}{a0:T}{σ σ':Sg}{t:T}(h:cz ⟨aj Ψ n⟩ [some a0] σ (kE 1009)=.ret t σ'):aj Ψ (n+1) 1009 [a0] σ=.ret t σ':=aU (F:=⟨1,0,cz⟩) rfl rfl h rfl
theorem qB {n:Nat}{a0:T}{σ:Sg}{Q:T->Sg->Prop}(h:bb Q (dP ⟨aj Ψ n⟩ [some a0,none,none,none,none,none,none,none] σ (kE 34))):bb Q (aj Ψ (n+1) 34 [a0] σ):=dp (F:=⟨1,7,dP⟩) rfl rfl h
theorem su {n:Nat}{a0:T}{σ:Sg}{Q:T->Sg->Prop}(h:bb Q (eM ⟨aj Ψ n⟩ [some a0,none,none,none,none,none,none,none] σ (kE 36))):bb Q (aj Ψ (n+1) 36 [a0] σ):=dp (F:=⟨1,7,eM⟩) rfl rfl h
theorem AQ {n:Nat}{a0 a1:T}{σ:Sg}{Q:T->Sg->Prop}(h:bb Q (j5 ⟨aj Ψ n⟩ [some a0,some a1,none,none] σ (kE 38))):bb Q (aj Ψ (n+1) 38 [a0,a1] σ):=dp (F:=⟨2,2,j5⟩) rfl rfl h
theorem wy {n:Nat}{a0 a1 a2:T}{σ:Sg}{Q:T->Sg->Prop}(h:bb Q (gy ⟨aj Ψ n⟩ [some a0,some a1,some a2,none,none,none,none,none] σ (kE 39))):bb Q (aj Ψ (n+1) 39 [a0,a1,a2] σ):=dp (F:=⟨3,5,gy⟩) rfl rfl h
theorem sk {n:Nat}{a0 a1:T}{σ:Sg}{Q:T->Sg->Prop}(h:bb Q (eH ⟨aj Ψ n⟩ [some a0,some a1,none] σ (kE 40))):bb Q (aj Ψ (n+1) 40 [a0,a1] σ):=dp (F:=⟨2,1,eH⟩) rfl rfl h
theorem wx {n:Nat}{a0 a1:T}{σ:Sg}{Q:T->Sg->Prop}(h:bb Q (gx ⟨aj Ψ n⟩ [some a0,some a1,none,none,none,none,none,none] σ (kE 41))):bb Q (aj Ψ (n+1) 41 [a0,a1] σ):=dp (F:=⟨2,6,gx⟩) rfl rfl h
theorem sv {n:Nat}{a0 a1:T}{σ:Sg}{Q:T->Sg->Prop}(h:bb Q (eN ⟨aj Ψ n⟩ [some a0,some a1,none,none,none] σ (kE 42))):bb Q (aj Ψ (n+1) 42 [a0,a1] σ):=dp (F:=⟨2,3,eN⟩) rfl rfl h
theorem yb {n:Nat}{a0 a1:T}{σ:Sg}{Q:T->Sg->Prop}(h:bb Q (iC ⟨aj Ψ n⟩ [some a0,some a1,none,none,none,none,none,none,none] σ (kE 43))):bb Q (aj Ψ (n+1) 43 [a0,a1] σ):=dp (F:=⟨2,7,iC⟩) rfl rfl h
theorem nG {n:Nat}{a0 a1:T}{σ:Sg}{Q:T->Sg->Prop}(h:bb Q (fI ⟨aj Ψ n⟩ [some a0,some a1] σ (kE 17))):bb Q (aj Ψ (n+1) 17 [a0,a1] σ):=dp (F:=⟨2,0,fI⟩) rfl rfl h
theorem sC {n:Nat}{a0 a1:T}{σ:Sg}{Q:T->Sg->Prop}(h:bb Q (iH ⟨aj Ψ n⟩ [some a0,some a1,none] σ (kE 18))):bb Q (aj Ψ (n+1) 18 [a0,a1] σ):=dp (F:=⟨2,1,iH⟩) rfl rfl h
theorem qF {n:Nat}{a0:T}{σ:Sg}{Q:T->Sg->Prop}(h:bb Q (gP ⟨aj Ψ n⟩ [some a0,none,none,none,none,none,none,none,none,none] σ (kE 19))):bb Q (aj Ψ (n+1) 19 [a0] σ):=dp (F:=⟨1,9,gP⟩) rfl rfl h
theorem sB {n:Nat}{a0 a1 a2 a3:T}{σ:Sg}{Q:T->Sg->Prop}(h:bb Q (iG ⟨aj Ψ n⟩ [some a0,some a1,some a2,some a3,none,none,none,none,none] σ (kE 20))):bb Q (aj Ψ (n+1) 20 [a0,a1,a2,a3] σ):=dp (F:=⟨4,5,iG⟩) rfl rfl h
theorem uo {n:Nat}{a0 a1:T}{σ:Sg}{Q:T->Sg->Prop}(h:bb Q (jz ⟨aj Ψ n⟩ [some a0,some a1] σ (kE 23))):bb Q (aj Ψ (n+1) 23 [a0,a1] σ):=dp (F:=⟨2,0,jz⟩) rfl rfl h
theorem sy {n:Nat}{a0 a1 a2:T}{σ:Sg}{Q:T->Sg->Prop}(h:bb Q (iF ⟨aj Ψ n⟩ [some a0,some a1,some a2,none,none,none] σ (kE 24))):bb Q (aj Ψ (n+1) 24 [a0,a1,a2] σ):=dp (F:=⟨3,3,iF⟩) rfl rfl h
theorem nE {n:Nat}{a0 a1 a2 a3:T}{σ:Sg}{Q:T->Sg->Prop}(h:bb Q (fH ⟨aj Ψ n⟩ [some a0,some a1,some a2,some a3,none,none,none,none,none,none] σ (kE 25))):bb Q (aj Ψ (n+1) 25 [a0,a1,a2,a3] σ):=dp (F:=⟨4,6,fH⟩) rfl rfl h
theorem sw {n:Nat}{a0 a1 a2 a3:T}{σ:Sg}{Q:T->Sg->Prop}(h:bb Q (fZ ⟨aj Ψ n⟩ [some a0,some a1,some a2,some a3,none,none,none,none,none,none,none] σ (kE 59))):bb Q (aj Ψ (n+1) 59 [a0,a1,a2,a3] σ):=dp (F:=⟨4,7,fZ⟩) rfl rfl h
theorem qD {n:Nat}{a0 a1:T}{σ:Sg}{Q:T->Sg->Prop}(h:bb Q (dR ⟨aj Ψ n⟩ [some a0,some a1,none,none,none,none] σ (kE 47))):bb Q (aj Ψ (n+1) 47 [a0,a1] σ):=dp (F:=⟨2,4,dR⟩) rfl rfl h
theorem qC {n:Nat}{a0 a1 a2 a3:T}{σ:Sg}{Q:T->Sg->Prop}(h:bb Q (gO ⟨aj Ψ n⟩ [some a0,some a1,some a2,some a3,none,none,none,none,none,none] σ (kE 48))):bb Q (aj Ψ (n+1) 48 [a0,a1,a2,a3] σ):=dp (F:=⟨4,6,gO⟩) rfl rfl h
theorem nH {n:Nat}{a0 a1 a2:T}{σ:Sg}{Q:T->Sg->Prop}(h:bb Q (c7 ⟨aj Ψ n⟩ [some a0,some a1,some a2,none,none] σ (kE 1001))):bb Q (aj Ψ (n+1) 1001 [a0,a1,a2] σ):=dp (F:=⟨3,2,c7⟩) rfl rfl h
theorem uq {n:Nat}{a0:T}{σ:Sg}{Q:T->Sg->Prop}(h:bb Q (fJ ⟨aj Ψ n⟩ [some a0,none,none,none,none,none] σ (kE 1002))):bb Q (aj Ψ (n+1) 1002 [a0] σ):=dp (F:=⟨1,5,fJ⟩) rfl rfl h
theorem qG {n:Nat}{a0 a1:T}{σ:Sg}{Q:T->Sg->Prop}(h:bb Q (dS ⟨aj Ψ n⟩ [some a0,some a1,none,none,none,none] σ (kE 1003))):bb Q (aj Ψ (n+1) 1003 [a0,a1] σ):=dp (F:=⟨2,4,dS⟩) rfl rfl h
theorem iy {n:Nat}{a0 a1 a2:T}{σ:Sg}{Q:T->Sg->Prop}(h:bb Q (bR ⟨aj Ψ n⟩ [some a0,some a1,some a2,none,none] σ (kE 1004))):bb Q (aj Ψ (n+1) 1004 [a0,a1,a2] σ):=dp (F:=⟨3,2,bR⟩) rfl rfl h
section
variable {b p m kn:T} {K:List Kn} {bg:Nat} {th:Kn->List Kn} {σ:Sg}
noncomputable def EP (w:T)(found met:List Kn)(r:List (Option T)):aW:=some w::some (.lst (found.map bh))::some (lj met)::r
theorem tj {p:Prop} [Decidable p] (h:(!decide p)=true):¬p:=fun q=>by rw [decide_eq_true q] at h;cases h
theorem tm {p:Prop} [Decidable p] (h:(!decide p)=false):p:=by
 cases q:decide p with
 |true=>exact of_decide_eq_true q
 |false=>rw [q] at h;cases h
theorem yQ {found met:List Kn}{st:List (Kn×Nat)}(hl:K.length<=1000)(D:rP th K found st met):met.length < lim:=by
 have:=aY D.ndm D.sub
 rw [bC];lia -abstractProof
theorem Dp {w:T}{f m:List Kn}{x3 x5 x6 x7:Option T}(S:List (Kn×Nat))(k:Kn)(n:Nat):(o1 (bV (EP w f m [x3,some (.lst ((S++[(k,n)]).map Cy)),x5,x6,x7]) 4) fun x=>o1 (gI x) fun xs=>o1 xs.getLast? fun t=>o1 (rH t) fun ts=>fh [5,6] ts (List.set (EP w f m [x3,some (.lst ((S++[(k,n)]).map Cy)),x5,x6,x7]) 4 (some (.lst xs.dropLast))))=some (EP w f m [x3,some (.lst (S.map Cy)),some (bh k),some (.int n),x7]):=by
 show (o1 ((S++[(k,n)]).map Cy).getLast? fun t=>o1 (rH t) fun ts=>fh [5,6] ts (List.set (EP w f m [x3,some (.lst ((S++[(k,n)]).map Cy)),x5,x6,x7]) 4 (some (.lst ((S++[(k,n)]).map Cy).dropLast))))=_
 rw [map_append,map_cons,map_nil,getLast?_concat,List.dropLast_concat];rfl
theorem rR (met:List Kn):∀K:List Kn,fV th met K<=fV th [] K
 | []=>le_refl _
 |x::r=>by
  rw [k6,k6,if_neg (show x∉[] from fun h=>nomatch h)]
  refine add_le_add ?_ (rR met r)
  by_cases h:x∈met
  .rw [if_pos h];exact zero_le _
  .rw [if_neg h];exact le_refl _
inductive LI (W:T) (th:Kn->List Kn) (K:List Kn) (σ:Sg):List Kn->aW->Sg->Prop
 |mk {pre found met:List Kn} {x3 x4 x5 x6 x7:Option T} (D:rP th K found [] met) (hm:∀x∈pre,x∈met):LI W th K σ pre (EP W found met [x3,x4,x5,x6,x7]) σ
inductive LW (W:T) (th:Kn->List Kn) (K:List Kn) (σ:Sg) (a:Kn) (pre:List Kn):List Kn×List (Kn×Nat)×List Kn->aW->Sg->Prop
 |mk {found:List Kn} {st:List (Kn×Nat)} {met:List Kn} {x5 x6 x7:Option T} (D:rP th K found st met) (hm:∀x∈pre,x∈met) (ha:a∈met):LW W th K σ a pre (found,st,met) (EP W found met [some (bh a),some (.lst (st.map Cy)),x5,x6,x7]) σ
theorem Bm (hK:K.Nodup)(hK1:K.length<=1000)(hc:∀k∈K,∀y∈th k,y∈K)(hs:fV th [] K < 20000)(hw:∀k∈K,(th k).length<=1000)(n:Nat):bb (fun t σ'=>σ'=σ/\∃L:List Kn,t=.lst (L.map bh)/\L.Nodup/\(∀x,x∈L↔x∈K)/\GT th L) (aj Ψ (n+1) 34 [f9 b p m kn K bg th] σ):=by
 refine qB ?_
 repeat (refine aC rfl ?_)
 refine te (e:=bh) (l:=K) (LI (f9 b p m kn K bg th) th K σ) ?_ ?_ (pre:=[]) rfl (.mk .nil fun _ h=>nomatch h)
 .rintro pre a suf _ _ hl @⟨found,met,x3,x4,x5,x6,x7,D,hm⟩ k hk
  refine eY (ja met a) ?_
  refine fu (fun h=>?_) fun h=>?_
  .have ha:=tj h
   have hk1:a∈K:=by rw [hl];exact mem_append_right _ (.head _)
   refine eY (ke ha (yQ hK1 D)) ?_
   repeat (refine o6 rfl ?_)
   refine js (S:=List Kn×List (Kn×Nat)×List Kn) (LW (f9 b p m kn K bg th) th K σ a pre) (fun s=>!s.2.1.isEmpty) (fun s=>fV th s.2.2 K+gN th s.2.1) ?_ ?_ ?_ (s:=(found,[(a,0)],met++[a])) ?_ ?_
   .rintro _ _ _ @⟨found,st,met,x5,x6,x7,D,hm,ha⟩ k hk
    exact eY (El.some (by decide) st) hk
   .rintro _ _ _ @⟨found,st,met,x5,x6,x7,D,hm,ha⟩ hg k hk
    rcases eq_nil_or_concat st with rfl | ⟨S,⟨kn,at_⟩,rfl⟩
    .cases hg
    rw [concat_eq_append] at D hk ⊢
    have D:rP th K found (S++[(kn,at_)]) met:=D
    have kK:kn∈K:=D.sub kn ((D.same kn).mpr (.inr (by rw [map_append];exact mem_append_right _ (.head _))))
    refine aC (Dp S kn at_) ?_
    have S1:gN th (S++[(kn,at_)])=gN th S+((th kn).length - at_+1):=jW _ _
    have tk1:at_<=(th kn).length:=(D.take (kn,at_) (mem_append_right _ (.head _))).1
    have fl:found.length < lim:=by
     have:=aY (aS D.nd).1 fun x hx=>D.sub x ((D.same x).mpr (.inl hx))
     rw [bC];lia -abstractProof
    have sl:S.length+2 < lim:=by
     have:=aY (aS D.nd).2.1 fun x hx=>D.sub x ((D.same x).mpr (.inr hx))
     rw [length_map,List.length_append] at this
     rw [bC];simp only [length_cons,length_nil] at this;lia -abstractProof
    refine eY (c9.get kK) ?_
    refine aC rfl ?_
    refine aC (fO _ _) ?_
    refine fu (fun h=>?_) fun h=>?_
    .have e:at_=(th kn).length:=by
      have:=of_decide_eq_true h
      rw [length_map] at this;lia -abstractProof
     refine eY (dj kn fl) ?_
     refine hk (found++[kn],S,met) _ _ ?_ ⟨D.leave e,hm,ha⟩
     show fV th met K+gN th S < fV th met K+gN th (S++[(kn,at_)])
     rw [S1];exact Nat.add_lt_add_left (Nat.lt_add_of_pos_right (succ_pos _)) _
    .have e:at_ < (th kn).length:=by
      have:=of_decide_eq_false h
      rw [length_map] at this;lia -abstractProof
     have ty:(th kn)[at_]?=some (th kn)[at_]:=getElem?_eq_getElem e
     have yK:=hc kn kK _ (getElem_mem e)
     have tl:at_<=lim:=by rw [bC];have:=hw kn kK;lia
     generalize (th kn)[at_]=y at ty yK
     have S2:gN th (S++[(kn,at_+1)])=gN th S+((th kn).length - (at_+1)+1):=jW _ _
     refine eY (dj (kn,at_+1) (by lia -abstractProof)) ?_
     refine eY (c9.get kK) ?_
     refine eY (bF ty tl) ?_
     refine eY (ja met y) ?_
     refine fu (fun h=>?_) fun h=>?_
     .have hy:=tj h
      refine eY (ke hy (yQ hK1 D)) ?_
      refine eY (dj (y,0) (by rw [List.length_append];exact Nat.lt_of_succ_lt sl)) ?_
      refine hk (found,S++[(kn,at_+1)]++[(y,0)],met++[y]) _ _ ?_ ⟨D.push ty yK hy,fun x hx=>mem_append_left _ (hm x hx),mem_append_left _ ha⟩
      show fV th (met++[y]) K+gN th (S++[(kn,at_+1)]++[(y,0)]) < fV th met K+gN th (S++[(kn,at_)])
      have:=kZ (th:=th) hy yK
      have S3:gN th (S++[(kn,at_+1)]++[(y,0)])=gN th (S++[(kn,at_+1)])+((th y).length - 0+1):=jW _ _
      have q:(th kn).length - at_=(th kn).length - (at_+1)+1:=(Nat.succ_pred_eq_of_pos (sub_pos_of_lt e)).symm
      rw [S3,S2,S1,q,Nat.sub_zero]
      generalize (th kn).length - (at_+1)=c
      lia
     .refine hk (found,S++[(kn,at_+1)],met) _ _ ?_ ⟨D.on ty (tm h),hm,ha⟩
      show fV th met K+gN th (S++[(kn,at_+1)]) < fV th met K+gN th (S++[(kn,at_)])
      have q:(th kn).length - at_=(th kn).length - (at_+1)+1:=(Nat.succ_pred_eq_of_pos (sub_pos_of_lt e)).symm
      rw [S2,S1,q];exact Nat.add_lt_add_left (Nat.add_lt_add_left (lt_succ_self _) _) _
   .rintro _ _ _ @⟨found,st,met,x5,x6,x7,D,hm,ha⟩ hg
    cases st with
    |cons=>cases hg
    |nil=>
     refine hk _ _ (.mk D fun x hx=>?_)
     rcases ah hx with hx |hx
     .exact hm x hx
     .rw [ae hx];exact ha
   .show fV th (met++[a]) K+((th a).length - 0+1+0) < 20000
    have:=kZ (th:=th) ha hk1
    have:=rR (th:=th) met K
    lia -abstractProof
   .exact ⟨D.start hk1 ha,fun x hx=>mem_append_left _ (hm x hx),mem_append_right _ (.head _)⟩
  .have ha:=tm h
   refine hk _ _ (.mk D fun x hx=>?_)
   rcases ah hx with hx |hx
   .exact hm x hx
   .rw [ae hx];exact ha
 .rintro _ _ @⟨found,met,x3,x4,x5,x6,x7,D,hm⟩
  repeat (refine o6 rfl ?_)
  refine cR ⟨rfl,found,rfl,?_,fun x=>?_,D.ord⟩
  .have:=D.nd;rw [map_nil,append_nil] at this;exact this
  .have:=D.same x
   simp only [map_nil,not_mem_nil,or_false] at this
   rw [<-this];exact ⟨D.sub x,hm x⟩
end
section
variable {b p m kn:T} {K:List Kn} {bg:Nat} {th:Kn->List Kn} {σ:Sg}
noncomputable def zO (C:List Kn):T:=.lst (C.map bh)
theorem Bq {w t:T}(h:sS w=some t)(n:Nat):aj Ψ (n+1) 35 [w] σ=.ret t σ:=by
 refine uW ?_
 show (match sS w with |some t=>cg.ret t σ |none=>cg.bad)=_
 rw [h]
noncomputable abbrev cF (W:T)(bk:Kn->List Kn)(K m:List Kn)(Cs:List (List Kn))(x4 x5 x6 x7:Option T):aW:=[some W,some (.dct (K.map bh) (K.map fun k=>.lst ((bk k).map bh))),some (lj m),some (.lst (Cs.map zO)),x4,x5,x6,x7]
inductive CI (W:T) (bk th:Kn->List Kn) (K:List Kn) (σ:Sg):List Kn->aW->Sg->Prop
 |mk {pre:List Kn} {Cs:List (List Kn)} {x4 x5 x6 x7:Option T} (H:xz th K Cs) (hp:∀x∈pre,x∈Cs.flatten):CI W bk th K σ pre (cF W bk K Cs.flatten Cs x4 x5 x6 x7) σ
inductive CW (W:T) (bk th:Kn->List Kn) (K:List Kn) (σ:Sg) (a:Kn) (Cs:List (List Kn)):List Kn×Nat->aW->Sg->Prop
 |mk {C:List Kn} {i:Nat} {x7:Option T} (c:Da th K Cs.flatten a C) (hi:i<=C.length) (hd:∀j c,j < i->C[j]?=some c->∀x∈K,c∈th x->x∈Cs.flatten++C):CW W bk th K σ a Cs (C,i) (cF W bk K (Cs.flatten++C) Cs (some (bh a)) (some (.lst (C.map bh))) (some (.int i)) x7) σ
inductive CX (W:T) (bk th:Kn->List Kn) (K:List Kn) (σ:Sg) (a y:Kn) (i:Nat) (Cs:List (List Kn)):List Kn->aW->Sg->Prop
 |mk {pre D:List Kn} {x7:Option T} (c:Da th K Cs.flatten a D) (hy:D[i]?=some y) (hd:∀j c,j < i->D[j]?=some c->∀x∈K,c∈th x->x∈Cs.flatten++D) (hp:∀x∈pre,x∈Cs.flatten++D):CX W bk th K σ a y i Cs pre (cF W bk K (Cs.flatten++D) Cs (some (bh a)) (some (.lst (D.map bh))) (some (.int i)) x7) σ
theorem xj (hK:K.Nodup)(hK1:K.length<=300)(hc:∀k∈K,∀y∈th k,y∈K)(hs:fV th [] K < 20000)(hw:∀k∈K,(th k).length<=1000)(n:Nat):bb (fun t σ'=>σ'=σ/\∃Cs:List (List Kn),t=.lst (Cs.map zO)/\xz th K Cs/\∀x∈K,x∈Cs.flatten) (aj Ψ (n+2) 36 [f9 b p m kn K bg th] σ):=by
 obtain ⟨bk,hb1,hb2⟩:=Bp (b:=b) (p:=p) (m:=m) (kn:=kn) (bg:=bg) hK (le_trans hK1 (by decide)) hc hw
 refine su ?_
 repeat (refine o6 rfl ?_)
 refine gD (Bq hb1 n) ?_
 repeat (refine o6 rfl ?_)
 refine bY (Bm hK (le_trans hK1 (by decide)) hc hs hw n) ?_
 rintro _ σ ⟨rfl,L,rfl,ln,lm,lo⟩
 refine aC rfl ?_
 rw [<-List.map_reverse]
 refine aC rfl ?_
 refine te (e:=bh) (l:=L.reverse) (CI (f9 b p m kn K bg th) bk th K σ) ?_ ?_ (pre:=[]) rfl (.mk (Cs:=[]) .nil fun _ h=>nomatch h)
 .rintro pre a suf _ _ hl @⟨Cs,x4,x5,x6,x7,H,hp⟩ k hk
  have hL:L=suf.reverse++a::pre.reverse:=by
   rw [<-List.reverse_reverse L,hl,List.reverse_append,List.reverse_cons,List.append_assoc];rfl
  have aK:a∈K:=(lm a).mp (by rw [hL];exact mem_append_right _ (.head _))
  have fl:=aY H.nd H.sub
  have cl:∀C:List Kn,(∀x∈C,x∈Cs.flatten++C):=fun C x h=>mem_append_right _ h
  have nCs:Cs.length<=300:=by
   have:∀Ds:List (List Kn),(∀C∈Ds,C≠[])->Ds.length<=Ds.flatten.length:=fun Ds=>by
    induction Ds with
    |nil=>exact fun _=>le_refl _
    |cons D Ds ih=>
     intro h
     have:=ih fun C hC=>h C (.tail _ hC)
     have:=List.length_pos_iff.mpr (h D (.head _))
     rw [flatten_cons,List.length_append,length_cons];lia -abstractProof
   have:=this Cs H.ne
   lia
  refine eY (ja _ a) ?_
  refine fu (fun h=>?_) fun h=>?_
  .have ha:=tj h
   refine eY (ke ha (by rw [bC];lia -abstractProof)) ?_
   repeat (refine o6 rfl ?_)
   refine js (S:=List Kn×Nat) (CW (f9 b p m kn K bg th) bk th K σ a Cs) (fun s=>decide ((s.2:Int) < ((s.1.map bh).length:Int))) (fun s=>350 - s.2) ?_ ?_ ?_ (s:=([a],0)) (show 350 - 0 < 400 by decide) (.mk (.start H.nd aK ha) (zero_le _) fun i c h=>absurd h (not_lt_zero _))
   .rintro _ _ _ @⟨C,i,x7,c,hi,hd⟩ k hk
    repeat (refine o6 rfl ?_)
    refine aC rfl ?_
    exact aC rfl hk
   .rintro _ _ _ @⟨C,i,x7,c,hi,hd⟩ hg k hk
    have hi:i < C.length:=by have:=of_decide_eq_true hg;rw [length_map] at this;exact ofNat_lt.mp this
    have cK:=aY c.nd fun x hx=>(ah hx).elim (H.sub x) (c.sub x)
    rw [List.length_append] at cK
    have hC:C[i]?=some C[i]:=getElem?_eq_getElem hi
    have cm:C[i]∈C:=getElem_mem hi
    generalize C[i]=y at hC cm
    refine eY (bF hC (by rw [bC];lia)) ?_
    refine aC (c9.get (c.sub y cm)) ?_
    refine aC rfl ?_
    refine te (e:=bh) (l:=bk y) (CX (f9 b p m kn K bg th) bk th K σ a y i Cs) ?_ ?_ (pre:=[]) rfl (.mk c hC hd fun _ h=>nomatch h)
    .rintro pre o suf _ _ hl @⟨D,x7,c,hy,hd,hp⟩ k hk
     have ho:=(hb2 y o).mp (by rw [hl];exact mem_append_right _ (.head _))
     have cK:=aY c.nd fun x hx=>(ah hx).elim (H.sub x) (c.sub x)
     have dl:D.length < lim:=by rw [List.length_append] at cK;rw [bC];lia -abstractProof
     have ml:(Cs.flatten++D).length < lim:=by rw [bC];lia -abstractProof
     have ym:y∈D:=mem_of_getElem? hy
     refine eY (ja _ o) ?_
     refine fu (fun h=>?_) fun h=>?_
     .have no:=tj h
      refine eY (ke no ml) ?_
      refine eY (dj o dl) ?_
      rw [List.append_assoc]
      refine hk _ _ (.mk (D:=D++[o]) (c.push no ho.1 ym ho.2) ?_ (fun j z hj hz x hx e=>?_) fun x hx=>?_)
      .rw [getElem?_append_left (ak hy).1];exact hy
      .rw [getElem?_append_left (Nat.lt_trans hj (ak hy).1)] at hz
       rw [<-List.append_assoc];exact mem_append_left _ (hd j z hj hz x hx e)
      .rw [<-List.append_assoc]
       rcases ah hx with hx |hx
       .exact mem_append_left _ (hp x hx)
       .exact mem_append_right _ hx
     .refine hk _ _ (.mk c hy hd fun x hx=>?_)
      rcases ah hx with hx |hx
      .exact hp x hx
      .rw [ae hx];exact tm h
    .rintro _ _ @⟨D,x7,c,hy,hd,hp⟩
     have li:=(ak hy).1
     repeat (refine o6 rfl ?_)
     refine aC rfl ?_
     refine hk (D,i+1) _ _ (show 350 - (i+1) < 350 - i by lia) (.mk c li fun j z hj hz x hx e=>?_)
     rcases Nat.lt_succ_iff_lt_or_eq.mp hj with hj |rfl
     .exact hd j z hj hz x hx e
     .rw [show D[j]?=some y from hy] at hz;cases hz
      exact hp x ((hb2 y x).mpr ⟨hx,e⟩)
   .rintro _ _ _ @⟨C,i,x7,c,hi,hd⟩ hg
    have hi:C.length<=i:=by have:=of_decide_eq_false hg;rw [length_map] at this;exact le_of_not_lt fun h=>this (cH h)
    refine eY (dj (e:=zO) C (by exact lt_of_le_of_lt (by assumption) (by decide))) ?_
    refine (fun h1 h2=>by have:=CI.mk (W:=f9 b p m kn K bg th) (bk:=bk) (σ:=σ) (pre:=pre++[a]) (Cs:=Cs++[C]) (x4:=some (bh a)) (x5:=some (.lst (C.map bh))) (x6:=some (.int i)) (x7:=x7) (H.add lo ln (fun x hx=>(lm x).mpr hx) hL (fun x hx=>hp x (List.mem_reverse.mp hx)) c h1) h2;rw [dW] at this;exact hk _ _ this) (fun z hz x hx e=>?_) (fun x hx=>?_)
    .obtain ⟨j,hj⟩:=getElem?_of_mem hz
     exact hd j z (lt_of_lt_of_le (ak hj).1 hi) hj x hx e
    .rw [dW]
     rcases ah hx with hx |hx
     .exact mem_append_left _ (hp x hx)
     .rw [ae hx];exact mem_append_right _ c.hd
  .refine hk _ _ (.mk H fun x hx=>?_)
   rcases ah hx with hx |hx
   .exact hp x hx
   .rw [ae hx];exact tm h
 .rintro _ _ @⟨Cs,x4,x5,x6,x7,H,hp⟩
  repeat (refine o6 rfl ?_)
  exact cR ⟨rfl,Cs,rfl,H,fun x hx=>hp x (List.mem_reverse.mpr ((lm x).mpr hx))⟩
end
section
variable {b p m kn:T} {K:List Kn} {bg:Nat} {th:Kn->List Kn} {σ:Sg}
noncomputable def Hg:Option Kn->T
 |none=>.none
 |some k=>bh k
noncomputable def jp (l:List Kn)(f:Kn->Option Kn):T:=.dct (l.map bh) (l.map fun k=>Hg (f k))
inductive BI (l:List Kn) (f:Kn->Option Kn) (P:List Kn) (σ:Sg):Option Kn×List Kn×List Kn->aW->Sg->Prop
 |done:BI l f P σ (none,P,[]) [some (jp l f),some .none,some (.lst (P.map bh))] σ
 |more {y:Kn} {fo re:List Kn} (hb:lO f y re) (e:fo++re=P):BI l f P σ (some y,fo,re) [some (jp l f),some (bh y),some (.lst (fo.map bh))] σ
theorem Ca {l:List Kn}{f:Kn->Option Kn}{x:Kn}{P:List Kn}(hB:lO f x P)(hs:∀y∈P,y∈l)(hl:P.length<=300)(n:Nat):bb (fun t σ'=>σ'=σ/\t=.lst (P.reverse.map bh)) (aj Ψ (n+1) 40 [jp l f,bh x] σ):=by
 refine sk ?_
 refine js (S:=Option Kn×List Kn×List Kn) (BI l f P σ) (fun s=>s.1.isSome) (fun s=>s.2.2.length) ?_ ?_ ?_ (s:=(some x,[],P)) (show P.length < 400 by lia) (.more hB rfl)
 .rintro _ _ _ (_ |_) k hk
  .exact aC rfl (aC rfl hk)
  .exact aC rfl (aC rfl hk)
 .rintro _ _ _ (_ | @⟨y,fo,re,hb,e⟩) hg k hk
  .cases hg
  .have fl:fo.length < lim:=by have:=congrArg List.length e;rw [List.length_append] at this;rw [bC];lia
   have yl:=hs y (by rw [<-e];cases hb<;>exact mem_append_right _ (.head _))
   refine eY (dj y fl) (eY (c9.get yl) ?_)
   cases hb with
   |nil e1=>rw [e1,e];exact hk (none,P,[]) _ _ Nat.zero_lt_one .done
   | @cons _ z q e1 hb=>rw [e1];exact hk (some z,fo++[y],q) _ _ (lt_succ_self _) (.more hb (by rw [List.append_assoc];exact e))
 .rintro _ _ _ (_ |_) hg
  .exact aC rfl (aC rfl (cR ⟨rfl,by rw [List.map_reverse]⟩))
  .cases hg
theorem zP {l:List Kn}{f:Kn->Option Kn}{y here:Kn}(hy:y∉l)(hl:l.length < lim):eG (jp l f) (bh y) (bh here)=some (jp (l++[y]) fun x=>if x=y then some here else f x):=by
 rw [jp,c9.put hy hl,jp,map_append (f:=fun k=>Hg _)]
 refine congrArg some (congrArg (T.dct _) ?_)
 refine congr (congrArg _ (map_congr_left fun k hk=>?_)) ?_
 .rw [if_neg fun (e:k=y)=>hy (e▸hk)]
 .show _=[Hg (if y=y then some here else f y)]
  rw [if_pos rfl];rfl
theorem lC {v:T}:∀(l us:List Kn) (vs:List T),(us++l).Nodup->ox (l.map fun k=>.tup [bh k,v]) (us.map bh) vs=some ((us++l).map bh,vs++l.map fun _=>v)
 | [],us,vs,_=>by
  rw [append_nil]
  show some (us.map bh,vs)=some (us.map bh,vs++[])
  rw [append_nil]
 |k::l,us,vs,h=>by
  have hk:k∉us:=fun q=>(aS h).2.2 k q k (.head _) rfl
  show o1 (mn (us.map bh) (bh k)) _=_
  rw [c9.fd,if_neg hk]
  show ox (l.map fun k=>.tup [bh k,v]) (us.map bh++[bh k]) (vs++[v])=_
  have:=lC (v:=v) l (us++[k]) (vs++[v]) (by rw [List.append_assoc];exact h)
  rw [map_append] at this
  rw [show us.map bh++[bh k]=us.map bh++[k].map bh from rfl,this,List.append_assoc,List.append_assoc];rfl
theorem AS {w s g c:T}{here:Kn}{ws:List Kn}{x5 x6 x7:Option T}:(o1 (bV [some w,some s,some g,some c,some (.lst ((here::ws).map bh)),x5,x6,x7] 4) fun x=>o1 (gI x) fun xs=>o1 xs.head? fun y=>some ((List.set [some w,some s,some g,some c,some (.lst ((here::ws).map bh)),x5,x6,x7] 4 (some (.lst xs.tail))).set 5 (some y)))=some [some w,some s,some g,some c,some (.lst (ws.map bh)),some (bh here),x6,x7]:=rfl
noncomputable abbrev pF (W:T)(starts goals l w:List Kn)(f:Kn->Option Kn)(x5 x6 x7:Option T):aW:=[some W,some (.lst (starts.map bh)),some (.lst (goals.map bh)),some (jp l f),some (.lst (w.map bh)),x5,x6,x7]
inductive PW (W:T) (th:Kn->List Kn) (K starts goals:List Kn) (σ:Sg):List Kn×List Kn×(Kn->Option Kn)->aW->Sg->Prop
 |mk {dn wt:List Kn} {f:Kn->Option Kn} {x5 x6 x7:Option T} (B:uc th K starts goals dn wt f):PW W th K starts goals σ (dn,wt,f) (pF W starts goals (dn++wt) wt f x5 x6 x7) σ
inductive PI (W:T) (th:Kn->List Kn) (K starts goals:List Kn) (σ:Sg) (dn:List Kn) (here:Kn):List Kn->aW->Sg->Prop
 |mk {pre w:List Kn} {f:Kn->Option Kn} {x6 x7:Option T} (B:uc th K starts goals dn (here::w) f) (hp:∀x∈pre,x∈dn++here::w):PI W th K starts goals σ dn here pre (pF W starts goals (dn++here::w) w f (some (bh here)) x6 x7) σ
theorem qI {starts goals:List Kn}(hK1:K.length<=300)(hc:∀k∈K,∀y∈th k,y∈K)(hn:starts.Nodup)(hs:∀x∈starts,x∈K)(n:Nat):bb (fun t σ'=>σ'=σ/\∃P:List Kn,t=.lst (P.map bh)/\((∃g∈goals,Cg th K starts g P)\/(P=[]/\∀s∈starts,∀g∈goals,¬l8 th s g))) (aj Ψ (n+2) 39 [f9 b p m kn K bg th,.lst (starts.map bh),.lst (goals.map bh)] σ):=by
 refine wy ?_
 repeat (refine o6 rfl ?_)
 refine aC rfl ?_
 refine g9 (e:=bh) (l:=starts) (fun k=>.tup [bh k,.none]) (fun a _=>⟨_,rfl,fun k=>by with_unfolding_all rfl⟩) ?_
 refine aC (a:=jp starts fun _=>none) ?_ ?_
 .show o1 (ox (starts.map fun k=>.tup [bh k,.none]) ([].map bh) []) _=_
  rw [lC starts [] [] hn];rfl
 repeat (refine o6 rfl ?_)
 refine aC rfl ?_
 refine js (S:=List Kn×List Kn×(Kn->Option Kn)) (PW (f9 b p m kn K bg th) th K starts goals σ) (fun s=>!s.2.1.isEmpty) (fun s=>350 - s.1.length) ?_ ?_ ?_ (s:=([],starts,fun _=>none)) (show 350 - 0 < 400 by decide) (.mk (.start hn hs))
 .rintro _ _ _ @⟨dn,wt,f,x5,x6,x7,B⟩ k hk
  exact eY (lu.some (by decide) wt) hk
 .rintro _ _ _ @⟨dn,wt,f,x5,x6,x7,B⟩ hg k hk
  cases wt with
  |nil=>cases hg
  |cons here ws=>
   have B:uc th K starts goals dn (here::ws) f:=B
   have hm:here∈dn++here::ws:=mem_append_right _ (.head _)
   have hK:=B.sub here hm
   have ll:=aY B.nd B.sub
   rw [List.length_append,length_cons] at ll
   refine aC AS ?_
   refine eY (lu.mem (by decide) (l:=goals) trivial (fun _ _=>trivial) rfl) ?_
   refine fu (fun h=>?_) fun h=>?_
   .obtain ⟨P,h1,h2,h3⟩:=B.way hm
    repeat (refine o6 rfl ?_)
    refine bY (Ca h1 h2 (by have:=h3.len;rw [length_reverse] at this;lia -abstractProof) n) ?_
    rintro _ σ ⟨rfl,rfl⟩
    exact cR ⟨rfl,P.reverse,rfl,.inl ⟨here,of_decide_eq_true h,h3⟩⟩
   .repeat (refine o6 rfl ?_)
    refine eY (c9.get hK) ?_
    refine aC rfl ?_
    refine te (e:=bh) (l:=th here) (PI (f9 b p m kn K bg th) th K starts goals σ dn here) ?_ ?_ (pre:=[]) rfl (.mk B fun _ h=>nomatch h)
    .rintro pre o suf _ _ hl @⟨w,f,x6,x7,B,hp⟩ k hk
     have ho:o∈th here:=by rw [hl];exact mem_append_right _ (.head _)
     have ll:=aY B.nd B.sub
     have wl:w.length < lim:=by rw [List.length_append,length_cons] at ll;rw [bC];lia
     repeat (refine o6 rfl ?_)
     refine aC (a:=!decide (o∈dn++here::w)) ?_ ?_
     .show (CR _ _).map _=_
      rw [jp,c9.has];rfl
     refine fu (fun h=>?_) fun h=>?_
     .have no:=tj h
      repeat (refine o6 rfl ?_)
      refine aC (zP no (by rw [bC];lia -abstractProof)) ?_
      refine eY (dj o wl) ?_
      have e:(dn++here::w)++[o]=dn++here::(w++[o]):=by rw [List.append_assoc];rfl
      rw [e]
      refine hk _ _ (.mk (w:=w++[o]) (B.push (mem_append_right _ (.head _)) ho (hc here hK o ho) no) fun x hx=>?_)
      rw [<-e]
      rcases ah hx with hx |hx
      .exact mem_append_left _ (hp x hx)
      .exact mem_append_right _ hx
     .refine hk _ _ (.mk B fun x hx=>?_)
      rcases ah hx with hx |hx
      .exact hp x hx
      .rw [ae hx];exact tm h
    .rintro _ _ @⟨w,f,x6,x7,B,hp⟩
     have e:(dn++[here])++w=dn++here::w:=by rw [List.append_assoc];rfl
     refine hk (dn++[here],w,f) _ _ ?_ (by rw [<-e];exact .mk (B.done (of_decide_eq_false h) hp))
     show 350 - (dn++[here]).length < 350 - dn.length
     rw [List.length_append,length_cons,length_nil];lia
 .rintro _ _ _ @⟨dn,wt,f,x5,x6,x7,B⟩ hg
  cases wt with
  |cons=>cases hg
  |nil=>exact cR ⟨rfl,[],rfl,.inr ⟨rfl,fun s hs g hg r=>B.none hs hg r⟩⟩
end
section
variable {b m kn:T} {ps:List T} {K:List Kn} {bg:Nat} {th:Kn->List Kn} {σ:Sg} {mt:Kn->Nat->Bool}
theorem xH {C:List Kn}(hC:∀x∈C,x∈K)(hp:ps.length<=1000){n:Nat}(hm:∀k∈K,∀j,j < ps.length->aj Ψ n 1005 [f9 b (.lst ps) m kn K bg th,bh k,.int j] σ=.ret (.bool (mt k j)) σ):
  bb (fun t σ'=>σ'=σ/\((t=.none/\∀j,j < ps.length->∃k∈C,mt k j=true)\/∃j:Nat,j < ps.length/\t=.int j/\∀k∈C,mt k j=false)) (aj Ψ (n+1) 38 [f9 b (.lst ps) m kn K bg th,.lst (C.map bh)] σ):=by
 refine AQ ?_
 repeat (refine o6 rfl ?_)
 refine aC rfl ?_
 refine aC rfl ?_
 refine aC (gh (le_trans hp (by decide))) ?_
 refine te (e:=fun j:Nat=>T.int j) (l:=List.range ps.length) (fun pre ρ σ'=>σ'=σ/\(∃x2,ρ=[some (f9 b (.lst ps) m kn K bg th),some (.lst (C.map bh)),x2,none])/\∀j∈pre,∃k∈C,mt k j=true) ?_ ?_ (pre:=[]) rfl ⟨rfl,⟨_,rfl⟩,fun _ h=>nomatch h⟩
 .rintro pre j suf _ σ hl ⟨rfl,⟨x2,rfl⟩,h⟩ k hk
  have hj:j < ps.length:=bp (by rw [hl];exact mem_append_right _ (.head _))
  repeat (refine o6 rfl ?_)
  refine aC rfl ?_
  refine g9 (e:=bh) (l:=C) (fun k=>.bool (mt k j)) (fun a ha=>⟨_,rfl,fun k=>?_⟩) ?_
  .exact ab rfl (ab rfl (ab rfl (aB (hm a (hC a ha) j hj) rfl)))
  refine aC (a:=.bool (C.any fun k=>mt k j)) ?_ ?_
  .exact any_map C _
  refine aC rfl ?_
  refine fu (fun q=>?_) fun q=>?_
  .have q:(C.any fun k=>mt k j)=false:=by cases e:C.any fun k=>mt k j<;>rw [e] at q<;>first |rfl |cases q
   repeat (refine o6 rfl ?_)
   refine cR ⟨rfl,.inr ⟨j,hj,rfl,fun x hx=>?_⟩⟩
   rw [List.any_eq_false] at q
   exact Bool.eq_false_iff.mpr (q x hx)
  .have q:(C.any fun k=>mt k j)=true:=by cases e:C.any fun k=>mt k j<;>rw [e] at q<;>first |rfl |cases q
   refine hk _ _ ⟨rfl,⟨_,rfl⟩,fun i hi=>?_⟩
   rcases ah hi with hi |hi
   .exact h i hi
   .rw [ae hi];exact any_eq_true.mp q
 .rintro _ σ ⟨rfl,⟨x2,rfl⟩,h⟩
  exact cR ⟨rfl,.inl ⟨rfl,fun j hj=>h j (bI hj)⟩⟩
theorem xY {p:T}{c0:Kn}{r:List Kn}(h0:c0∈K)(n:Nat):aj Ψ (n+1) 37 [f9 b p m kn K bg th,.lst ((c0::r).map bh)] σ=.ret (.bool (!r.isEmpty||decide (c0∈th c0))) σ:=by
 refine rB ?_
 refine ab rfl (ab rfl (ab (a:=!r.isEmpty) ?_ ?_))
 .show some (decide ((((c0::r).map bh).length:Int) > 1))=_
  cases r with
  |nil=>rfl
  |cons d r=>exact congrArg some (decide_eq_true (by rw [length_map,length_cons,length_cons];lia -abstractProof))
 .cases r with
  |cons=>rfl
  |nil=>
   refine ab rfl (ab (bF (i:=0) rfl (zero_le _)) (ab rfl (ab rfl (ab rfl (ab (bF (i:=0) rfl (zero_le _)) (ab (c9.get h0) (ab (lu.mem (by decide) (l:=th c0) trivial (fun _ _=>trivial) rfl) rfl)))))))
end
section
variable {b m kn:T} {ps:List T} {K:List Kn} {bg:Nat} {th:Kn->List Kn} {σ:Sg} {mt:Kn->Nat->Bool}
theorem eC {α:Type}{e:α->T}{l q:List α}(h:l.length+q.length<=lim):bc (.lst (l.map e)) (.lst (q.map e))=some (.lst ((l++q).map e)):=by
 show qg _ _=_
 rw [<-map_append,length_map,List.length_append,qg,show cT (l.length+q.length)=true from ble_eq_true_of_le h];rfl
theorem dO {α:Type}{e:α->T}{l q:List α}{lo hi:Option Int}(h:cut lo hi l=q):ci (.lst (l.map e)) lo hi=some (.lst (q.map e)):=by
 rw [r9]
 show some (T.lst (cut lo hi (l.map e)))=_
 rw [v6,h]
theorem zf {α:Type}{e:α->T}(F:List α)(z:α):au (.lst ((F++[z]).map e)) (.int (-1))=some (e z):=by
 have h:seqIndex? (-1) ((F++[z]).map e).length=some F.length:=by
  rw [length_map,List.length_append]
  show (if (decide (0<=(if (-1:Int) < 0 then -1+((F.length+1:Nat):Int) else -1))&&decide ((if (-1:Int) < 0 then -1+((F.length+1:Nat):Int) else -1) < ((F.length+1:Nat):Int)))=true then some (if (-1:Int) < 0 then -1+((F.length+1:Nat):Int) else -1).toNat else none)=_
  rw [if_pos (show (-1:Int) < 0 by decide),show (-1:Int)+((F.length+1:Nat):Int)=F.length from (Int.add_comm _ _).trans (Int.add_sub_cancel (F.length:Int) 1),decide_eq_true (natCast_nonneg _),decide_eq_true (cH (lt_succ_self _))];rfl
 rw [q0,z0,show sm (-1)=true from rfl,cond_true,h,CC,getElem?_map,getElem?_append_right (le_refl _),sub_self];rfl
noncomputable abbrev Fe:PS:=af (aG 5 (aV (bv (p2 idxD (p1 (kO 10 6) (pV 0)) (p2 au (pV 2) (p1 eQ (pC (.int 1)))))) (bj 7) (p2 lX (pV 7) (pV 1)) (pV 7)))
  (af (aH (p2 bc (pV 2) (p3 ci (aw 39 (aa (pV 0) (aa (pV 5) (aa (p3 ci (pV 1) jB (p1 cN (pC (.int 1)))) ao)))) jB (p1 cN (p1 eQ (pC (.int 1)))))))
  an)
theorem xZ {c0 z:Kn}{r F:List Kn}{w:T}(hw:w=f9 b (.lst ps) m kn K bg th)(hK1:K.length<=300)(hc:∀k∈K,∀y∈th k,y∈K)(hn:∀k∈K,(th k).Nodup)(hC:∀x∈c0::r,x∈K)(scc:∀x∈c0::r,∀y∈c0::r,l8 th x y)(hs:∀u∈c0::r,∃s∈th u,s∈c0::r)
  (hz:z∈c0::r)(hlen:(F++[z]).length<=4000){Q:T->Sg->Prop}(hQ:∀P:List Kn,Cg th K ((th z).filter fun k=>decide (k∈c0::r)) c0 P->Q (.lst ((F++[z]++P.dropLast).map bh)) σ){n:Nat}{x3 x4 x5:Option T}{k:PK aW}:
  bb Q (Fe ⟨aj Ψ (n+2)⟩ [some w,some (.lst ((c0::r).map bh)),some (.lst ((F++[z]).map bh)),x3,x4,x5,none,none] σ k):=by
 have zK:=hC z hz
 repeat (refine o6 rfl ?_)
 refine aC (a:=T.dct (K.map bh) (K.map fun k=>.lst ((th k).map bh))) (by rw [hw];rfl) ?_
 refine eY (zf F z) ?_
 refine aC (c9.get zK) ?_
 refine aC rfl ?_
 refine zI (e:=bh) (l:=th z) (fun k=>decide (k∈c0::r)) bh (fun a ha=>⟨_,rfl,fun k=>?_,fun _ k=>by with_unfolding_all rfl⟩) ?_
 .exact ab rfl (ab rfl (ab (lu.mem (by decide) (l:=c0::r) trivial (fun _ _=>trivial) rfl) rfl))
 refine eY (dO (iR 1 (c0::r))) ?_
 rw [hw]
 refine bY (qI (starts:=(th z).filter fun k=>decide (k∈c0::r)) (goals:=[c0]) hK1 hc ((hn z zK).filter _) (fun x hx=>hC x (of_decide_eq_true (cb hx).2)) n) ?_
 rintro _ σ ⟨rfl,P,rfl,h⟩
 obtain ⟨s,s1,s2⟩:=hs z hz
 have W:Cg th K ((th z).filter fun k=>decide (k∈c0::r)) c0 P:=by
  rcases h with ⟨g,h1,h2⟩ | ⟨_,h⟩
  .cases ae h1;exact h2
  .exact absurd (scc s s2 c0 (.head _)) (h s (dA ⟨s1,decide_eq_true s2⟩) c0 (.head _))
 have dl:P.dropLast.length<=300:=le_trans (by rw [List.length_dropLast];exact sub_le _ _) (le_trans W.len hK1)
 refine eY (dO (oA P)) ?_
 refine aC (eC (q:=P.dropLast) (by rw [bC];lia -abstractProof)) ?_
 exact cR (hQ P W)
inductive IS (W:T) (th:Kn->List Kn) (K:List Kn) (mt:Kn->Nat->Bool) (c0:Kn) (r:List Kn) (σ:Sg):List Nat->aW->Sg->Prop
 |mk {pre:List Nat} {F:List Kn} {z:Kn} {x3 x4 x5:Option T} (hz:z∈c0::r) (hw:dL th (F++[z])) (hh:(F++[z]).head?=some c0) (hk1:∀x∈F++[z],x∈K) (hm1:∀j∈pre,∃x∈F++[z],mt x j=true) (hlen:(F++[z]).length<=1+pre.length * 127):
  IS W th K mt c0 r σ pre [some W,some (.lst ((c0::r).map bh)),some (.lst ((F++[z]).map bh)),x3,x4,x5,none,none] σ
structure Rg (th:Kn->List Kn) (K:List Kn) (mt:Kn->Nat->Bool) (c0:Kn) (np:Nat) (R:List Kn):Prop where
 w:dL th R
 hd:R.head?=some c0
 la:∃z,R.getLast?=some z/\c0∈th z
 sub:∀x∈R,x∈K
 met:∀j,j < np->∃x∈R,mt x j=true
 len:R.length<=800
theorem AN {c0:Kn}{r:List Kn}(hK2:K.length<=128)(hc:∀k∈K,∀y∈th k,y∈K)(hn:∀k∈K,(th k).Nodup)(hC:∀x∈c0::r,x∈K)(hp:ps.length<=5)(scc:∀x∈c0::r,∀y∈c0::r,l8 th x y)(hs:∀u∈c0::r,∃s∈th u,s∈c0::r)(hmet:∀j,j < ps.length->∃k∈c0::r,mt k j=true)
  {n:Nat}(hm:∀k∈K,∀j,j < ps.length->aj Ψ (n+2) 1005 [f9 b (.lst ps) m kn K bg th,bh k,.int j] σ=.ret (.bool (mt k j)) σ):
  bb (fun t σ'=>σ'=σ/\∃R:List Kn,t=.lst (R.map bh)/\Rg th K mt c0 ps.length R) (aj Ψ (n+3) 41 [f9 b (.lst ps) m kn K bg th,.lst ((c0::r).map bh)] σ):=by
 have hK1:K.length<=300:=le_trans hK2 (by decide)
 refine wx ?_
 refine eY (bF (i:=0) rfl (zero_le _)) (oq rfl ?_)
 repeat (refine o6 rfl ?_)
 refine aC rfl ?_
 refine aC rfl ?_
 refine aC (gh (le_trans hp (by decide))) ?_
 refine te (e:=fun j:Nat=>T.int j) (l:=List.range ps.length) (IS (f9 b (.lst ps) m kn K bg th) th K mt c0 r σ) ?_ ?_ (pre:=[]) rfl (.mk (F:=[]) (z:=c0) (.head _) (.one _) rfl (fun x hx=>ae hx▸hC c0 (.head _)) (fun _ h=>nomatch h) (le_refl _))
 .rintro pre j suf _ _ hl @⟨F,z,x3,x4,x5,hz,hw,hh,hk1,hm1,hlen⟩ k hk
  have hj:j < ps.length:=bp (by rw [hl];exact mem_append_right _ (.head _))
  have prl:pre.length<=5:=by have:=congrArg List.length hl;rw [length_range,List.length_append] at this;lia -abstractProof
  repeat (refine o6 rfl ?_)
  refine aC rfl ?_
  refine zI (e:=bh) (l:=c0::r) (fun k=>mt k j) bh (fun a ha=>⟨_,rfl,fun k=>?_,fun _ k=>by with_unfolding_all rfl⟩) ?_
  .exact ab rfl (ab rfl (ab rfl (aB (hm a (hC a ha) j hj) (ab rfl rfl))))
  refine eY (dO (zA F z)) ?_
  repeat (refine o6 rfl ?_)
  refine bY (qI (starts:=[z]) (goals:=(c0::r).filter fun k=>mt k j) hK1 hc (by simp) (fun x hx=>ae hx▸hC z hz) n) ?_
  rintro _ σ ⟨rfl,P,rfl,h⟩
  obtain ⟨g,hg,W⟩:∃g∈(c0::r).filter (fun k=>mt k j),Cg th K [z] g P:=by
   rcases h with h | ⟨_,h⟩
   .exact h
   .obtain ⟨g,h1,h2⟩:=hmet j hj
    exact absurd (scc z hz g h1) (h z (.head _) g (dA ⟨h1,h2⟩))
  obtain ⟨a,ha,hz'⟩:=W.hd
  obtain rfl:=ae hz'
  cases P with
  |nil=>cases ha
  |cons q P=>
   cases ha
   have gC:=cb hg
   have pl:P.length<=127:=by have:=W.len;rw [length_cons] at this;lia -abstractProof
   have hlen':(F++[a]).length<=1+3000:=le_trans hlen (by lia -abstractProof)
   refine eY (dO (tr (a::P))) ?_
   refine aC (eC (q:=P) (by rw [bC];lia -abstractProof)) ?_
   obtain ⟨F',e⟩:∃F',(F++[a])++P=F'++[g]:=by
    rcases eq_nil_or_concat P with rfl | ⟨P',y,rfl⟩
    .have:=W.lst;cases this;exact ⟨F,append_nil _⟩
    .rw [concat_eq_append] at W ⊢
     have:=W.lst
     rw [List.getLast?_cons,getLast?_concat] at this
     cases this
     exact ⟨F++[a]++P',(List.append_assoc _ _ _).symm⟩
   rw [e]
   refine hk _ _ (.mk gC.1 ?_ ?_ (fun x hx=>?_) (fun i hi=>?_) ?_)
   .rw [<-e]
    exact hw.app (W.walk.drop 1) fun u v hu hv=>by
     rw [getLast?_concat] at hu;cases hu
     exact W.walk 0 a v rfl (by rw [<-List.getElem?_drop (i:=1) (j:=0),<-head?_eq_getElem?];exact hv)
   .rw [<-e,head?_append,hh];rfl
   .rw [<-e] at hx
    exact (ah hx).elim (hk1 x) fun h=>W.sub x (.tail _ h)
   .rcases ah hi with hi |hi
    .obtain ⟨x,h1,h2⟩:=hm1 i hi
     exact ⟨x,by rw [<-e];exact mem_append_left _ h1,h2⟩
    .rw [ae hi]
     exact ⟨g,mem_append_right _ (.head _),gC.2⟩
   .rw [<-e,List.length_append,List.length_append (as:=pre)]
    show _<=1+(pre.length+1) * 127
    lia -abstractProof
 .rintro _ _ @⟨F,z,x3,x4,x5,hz,hw,hh,hk1,hm1,hlen⟩
  rw [length_range] at hlen
  refine xZ rfl hK1 hc hn hC scc hs hz (le_trans hlen (by lia -abstractProof)) fun P W=>?_
  obtain ⟨h1,h2⟩:=hw.close W fun x hx=>(cb hx).1
  refine ⟨rfl,_,rfl,h1,?_,h2,fun x hx=>(ah hx).elim (hk1 x) fun h=>W.sub x (List.dropLast_subset _ h),fun j hj=>?_,?_⟩
  .rw [head?_append,hh];rfl
  .obtain ⟨x,h3,h4⟩:=hm1 j (bI hj)
   exact ⟨x,mem_append_left _ h3,h4⟩
  .have:=W.len
   rw [List.length_append,List.length_dropLast];lia -abstractProof
end
end
end Mine.L08
namespace Mine.L08
noncomputable section
open PySem Ltl
section
variable {bs:List Sy} {g g':List Bool} {m m':Str} {σ:Sg}
noncomputable abbrev je (bs:List Sy):T:=.lst (bs.map bx)
noncomputable abbrev gT (g:List Bool):T:=.tup (g.map .bool)
structure Co (bs:List Sy) (g:List Bool):Prop where
 dep:∀x∈bs,dep x<=40
 len:g.length=bs.length
 few:bs.length<=1000
theorem mD {α:Type}{e:α->T}{l:List α}{i:Nat}{a:α}(h:l[i]?=some a)(hi:i<=lim):au (.tup (l.map e)) (.int i)=some (e a):=u8 (e:=e) h hi
theorem Bj {x:Sy}(B:Co bs g)(hx:x∈bs):g[bs.idxOf x]?=some (look bs g x):=by
 have h:bs.idxOf x < g.length:=by rw [B.len];exact List.idxOf_lt_length_iff.mpr hx
 rw [look,getElem?_eq_getElem h];rfl
theorem dG (B:Co bs g){x:Sy}(hx:x∈bs)(n:Nat):aj Ψ (n+1) 9 [bx x,je bs,gT g] σ=.ret (.bool (look bs g x)) σ:=by
 refine xo ?_
 have h1:=(zt 40).idx (by decide) (B.dep x hx) B.dep hx
 have h2:=mD (e:=T.bool) (Bj B hx) (le_trans (le_of_lt (List.idxOf_lt_length_iff.mpr hx)) (le_trans B.few (by decide)))
 show up (jD (je bs) (bx x)) σ (fun j σ=>up (au (gT g) j) σ fun v σ=>.ret v σ)=_
 rw [h1]
 show up (au (gT g) (.int (bs.idxOf x))) σ (fun v σ=>.ret v σ)=_
 rw [h2];rfl
theorem Fb {m:Str}{bs:List Sy}{g:List Bool}{a c:Sy}:so m bs g (.and a c)=(so m bs g a&&so m bs g c):=rfl
theorem Fa {m:Str}{bs:List Sy}{g:List Bool}{a c:Sy}:so m bs g (.or a c)=(so m bs g a||so m bs g c):=rfl
theorem m8 (B:Co bs g):∀(s:Sy) (n:Nat),dep s<=n->dY bs s->aj Ψ (n+2) 10 [bx s,.str m,je bs,gT g] σ=.ret (.bool (so m bs g s)) σ:=by
 intro s
 induction s with
 |mark x=>exact fun n _ _=>ft rfl
 |yes=>exact fun n _ _=>ft rfl
 |not a ih=>
  rintro (_ |n) h cl
  .cases h
  .exact ft (aB (ih n (le_of_succ_le_succ h) (aP cl (.head _))) rfl)
 |and a c ih ih'=>
  rintro (_ |n) h cl
  .cases h
  .have h:=max_le.mp (le_of_succ_le_succ h)
   have e:=ih n h.1 (aP cl (.head _))
   have e':=ih' n h.2 (aP cl (.tail _ (.head _)))
   refine ft (aB e ?_)
   cases q:so m bs g a with
   |false=>rw [Fb,q];rfl
   |true=>rw [Fb,q];exact aB e' rfl
 |or a c ih ih'=>
  rintro (_ |n) h cl
  .cases h
  .have h:=max_le.mp (le_of_succ_le_succ h)
   have e:=ih n h.1 (aP cl (.head _))
   have e':=ih' n h.2 (aP cl (.tail _ (.head _)))
   refine ft (aB e ?_)
   cases q:so m bs g a with
   |true=>rw [Fa,q];rfl
   |false=>rw [Fa,q];exact aB e' rfl
 |next a=>exact fun n _ cl=>ft (aB (dG B (bE cl _ (.head _)) n) rfl)
 |till a c=>exact fun n _ cl=>ft (aB (dG B (bE cl _ (.head _)) n) rfl)
 |always a=>exact fun n _ cl=>ft (aB (dG B (bE cl _ (.head _)) n) rfl)
 |again a=>exact fun n _ cl=>ft (aB (dG B (bE cl _ (.tail _ (.head _))) n) rfl)
noncomputable abbrev xC (m:Str)(g:List Bool):T:=.tup [.str m,gT g]
theorem wk (B:Co bs g)(B':Co bs g'){x:Sy}(hx:x∈bs)(hk:(∃a,x=.next a)\/(∃a c,x=.till a c)\/∃a,x=.always a)(cl:∀p∈cZ x,dY bs p){n:Nat}(hn:dep x<=n):
  aj Ψ (n+2) 11 [bx x,je bs,xC m g,xC m' g'] σ=.ret (.bool (io bs m g m' g' x)) σ:=by
 obtain _ |n:=n
 .rcases hk with ⟨a,rfl⟩ | ⟨a,c,rfl⟩ | ⟨a,rfl⟩<;>cases hn
 have gd:=dG (σ:=σ) B' hx (n+1)
 rcases hk with ⟨a,rfl⟩ | ⟨a,c,rfl⟩ | ⟨a,rfl⟩
 .exact oJ (aB (m8 B' a n (le_of_succ_le_succ hn) (cl a (.head _))) rfl)
 .have h:=max_le.mp (le_of_succ_le_succ hn)
  have ea:=m8 (m:=m) (σ:=σ) B a n h.1 (cl a (.head _))
  refine oJ (aB (m8 B c n h.2 (cl c (.tail _ (.head _)))) ?_)
  rw [im]
  cases so m bs g c with
  |true=>rfl
  |false=>
   refine aB ea ?_
   cases so m bs g a with
   |false=>rfl
   |true=>exact aB gd rfl
 .refine oJ (aB (m8 B a n (le_of_succ_le_succ hn) (cl a (.head _))) ?_)
  rw [gf]
  cases so m bs g a with
  |false=>rfl
  |true=>exact aB gd rfl
theorem DI (B:Co bs g){x:Sy}(hx:x∈bs)(hk:(∃a c,x=.till a c)\/∃a,x=.always a)(cl:∀p∈cZ x,dY bs p){n:Nat}(hn:dep x<=n):
  aj Ψ (n+2) 14 [bx x,.str m,je bs,gT g] σ=.ret (.bool (met bs m g x)) σ:=by
 obtain _ |n:=n
 .rcases hk with ⟨a,c,rfl⟩ | ⟨a,rfl⟩<;>cases hn
 have gd:=dG (σ:=σ) B hx (n+1)
 rcases hk with ⟨a,c,rfl⟩ | ⟨a,rfl⟩
 .have h:=max_le.mp (le_of_succ_le_succ hn)
  refine oK (aB gd ?_)
  rw [j9]
  cases look bs g (.till a c) with
  |false=>rfl
  |true=>exact aB (m8 B c n h.2 (cl c (.tail _ (.head _)))) rfl
 .refine oK (aB gd ?_)
  rw [gU]
  cases look bs g (.always a) with
  |true=>rfl
  |false=>exact aB (m8 B a n (le_of_succ_le_succ hn) (cl a (.head _))) rfl
theorem yF {t:T}(n:Nat):aj Ψ (n+1) 14 [.none,.str m,t,gT g] σ=.ret (.bool true) σ:=oK rfl
end
section
variable {bs:List Sy} {g g':List Bool} {m m':Str} {σ:Sg}
theorem BF {s:Sy}(hs:bs=bonds s)(B:Co bs g)(B':Co bs g'){n:Nat}(hn:∀x∈bs,dep x<=n):
  aj Ψ (n+3) 12 [je bs,xC m g,xC m' g'] σ=.ret (.bool (q6 bs m g m' g')) σ:=by
 have lp:∀(l:List Sy) (x3:Option T) (k:PK aW),(∀x∈l,x∈bs)->(∀x3,k [some (je bs),some (xC m g),some (xC m' g'),x3] σ=.ret (.bool true) σ)->
   cD (bj 3) (af (bK (p2 o8 (aw 9 (aa (pV 3) (aa (pV 0) (aa (p2 au (pV 1) (pC (.int 1))) ao)))) (aw 11 (aa (pV 3) (aa (pV 0) (aa (pV 1) (aa (pV 2) ao)))))) (af (aH (pC (.bool false))) an) an) an) ⟨aj Ψ (n+2)⟩ (l.map bx) [some (je bs),some (xC m g),some (xC m' g'),x3] σ k=.ret (.bool (l.all fun x=>look bs g x==io bs m g m' g' x)) σ:=by
  intro l
  induction l with
  |nil=>exact fun x3 k _ hk=>hk x3
  |cons x l ih=>
   intro x3 k hl hk
   have hx:=hl x (.head _)
   have e:=ih (some (bx x)) k (fun y hy=>hl y (.tail _ hy)) hk
   refine aB (dG B hx (n+1)) (aB (wk B B' hx (fy (hs▸hx)) (fun p hp=>hs▸dc (hs▸hx) hp) (hn x hx)) ?_)
   rw [List.all_cons]
   cases look bs g x<;>cases io bs m g m' g' x<;>first |rfl |exact e
 exact xp (lp bs none _ (fun _ h=>h) fun _=>rfl)
theorem pT {α z:Type}{f:α->z}(inj:∀x y,f x=f y->x=y){l:List α}(h:l.Nodup):(l.map f).Nodup:=List.pairwise_map.mpr (List.Pairwise.imp (fun q e=>q (inj _ _ e)) h)
noncomputable def iW:Nat->List (List Bool)
 | 0=>[[]]
 |n+1=>(iW n).map (·++[false])++(iW n).map (·++[true])
theorem gJ:∀{n:Nat} {g:List Bool},g∈iW n->g.length=n:=by
 intro n
 induction n with
 |zero=>intro g h;cases ae h;rfl
 |succ n ih=>
  intro g h
  rcases ah h with h |h<;>(obtain ⟨a,ha,rfl⟩:=aT h;rw [List.length_append,ih ha];rfl)
theorem oV:∀{n:Nat} {g:List Bool},g.length=n->g∈iW n:=by
 intro n
 induction n with
 |zero=>intro g h;rw [List.length_eq_zero_iff.mp h];exact .head _
 |succ n ih=>
  intro g h
  rcases eq_nil_or_concat g with rfl | ⟨a,b,rfl⟩
  .cases h
  .rw [concat_eq_append] at h ⊢
   rw [List.length_append] at h
   have ha:=ih (Nat.succ.inj h)
   cases b with
   |false=>exact mem_append_left _ (eu ⟨a,ha,rfl⟩)
   |true=>exact mem_append_right _ (eu ⟨a,ha,rfl⟩)
theorem oU:∀n:Nat,(iW n).Nodup:=by
 intro n
 induction n with
 |zero=>exact pairwise_singleton _ _
 |succ n ih=>
  have inj:∀b:Bool,((iW n).map (·++[b])).Nodup:=fun b=>pT (fun x y h=>List.append_inj_left' h rfl) ih
  refine nodup_append.mpr ⟨inj _,inj _,fun a ha b hb e=>?_⟩
  obtain ⟨x,_,rfl⟩:=aT ha
  obtain ⟨y,_,rfl⟩:=aT hb
  cases List.append_inj_right' e rfl
theorem og (n:Nat):∀(l:List T),l.length<=4->aj Ψ (n+1) 8 [.lst l] σ=.ret (.lst ((iW l.length).map gT)) σ
 | [],_=>dy (by kernel_rfl)
 | [_],_=>dy (by kernel_rfl)
 | [_,_],_=>dy (by kernel_rfl)
 | [_,_,_],_=>dy (by kernel_rfl)
 | [_,_,_,_],_=>dy (by kernel_rfl)
 |_::_::_::_::_::_,h=>absurd h (by rw [length_cons,length_cons,length_cons,length_cons,length_cons];lia -abstractProof)
end
section
variable {σ:Sg}
theorem nN (s:Sy)(n:Nat):aj Ψ (n+1) 2 [bx s] σ=.ret (.lst ((cZ s).map bx)) σ:=by cases s<;>exact uV (by kernel_rfl)
theorem Dq (s:Sy)(n:Nat):aj Ψ (n+1) 6 [bx s] σ=.ret (je (cA s)) σ:=by cases s<;>exact tE (by kernel_rfl)
theorem dX {s p:Sy}(h:p∈cZ s):dep p < dep s:=by
 cases s with
 |mark |yes=>cases h
 |not |next |always |again=>cases ae h;exact lt_succ_self _
 |and |or |till=>
  rcases az h with rfl |h
  .exact lt_succ_of_le (le_max_left _ _)
  .cases ae h;exact lt_succ_of_le (le_max_right _ _)
theorem zV (s:Sy):bonds s=ext ((cZ s).foldl (fun f a=>ext f (bonds a)) []) (cA s):=by cases s<;>rfl
theorem wd:∀{s t:Sy},t∈all s->dep t<=dep s:=by
 have two:∀(s a c:Sy),(∀{t},t∈all a->dep t<=dep a)->(∀{t},t∈all c->dep t<=dep c)->dep s=max (dep a) (dep c)+1->∀{t},t∈s::(all a++all c)->dep t<=dep s:=fun s a c ha hc e t h=>by
  rcases az h with rfl |h
  .exact le_refl _
  .rw [e]
   rcases ah h with h |h
   .exact le_succ_of_le (le_trans (ha h) (le_max_left _ _))
   .exact le_succ_of_le (le_trans (hc h) (le_max_right _ _))
 have one:∀(s a:Sy),(∀{t},t∈all a->dep t<=dep a)->dep s=dep a+1->∀{t},t∈s::all a->dep t<=dep s:=fun s a ha e t h=>by
  rcases az h with rfl |h
  .exact le_refl _
  .rw [e];exact le_succ_of_le (ha h)
 intro s
 induction s with
 |mark |yes=>intro t h;cases ae h;exact le_refl _
 |not a ih |next a ih |always a ih |again a ih=>exact one _ a ih rfl
 |and a c ih ih' |or a c ih ih' |till a c ih ih'=>exact two _ a c ih ih' rfl
theorem g8 (s:Sy):1<=dep s:=by cases s<;>exact succ_le_succ (zero_le _)
theorem fS {s x:Sy}(h:x∈bonds s):dep x<=dep s+1:=by
 obtain ⟨t,h1,h2⟩:=bu.mp h
 refine le_trans ?_ (succ_le_succ (wd h1))
 cases t with
 |mark |yes |not |and |or=>cases h2
 |next |till |always=>cases ae h2;exact le_succ _
 |again a=>
  have e:max 1 (dep a)=dep a:=Nat.max_eq_right (g8 a)
  rcases az h2 with rfl |h2
  .show max 1 (dep a)+1<=dep a+1+1
   rw [e];exact le_succ _
  .cases ae h2
   show max 1 (dep a)+1+1<=dep a+1+1
   rw [e];exact le_refl _
theorem f6 (f xs:List Sy):(ext f xs).length<=f.length+xs.length:=by
 rw [ext,List.length_append];exact add_le_add_left (length_filter_le _ _) _
theorem xr:∀s:Sy,(bonds s).length+2<=2 ^ (dep s+1):=by
 have p0:∀n,2<=2 ^ (n+1):=fun n=>by rw [pow_succ];have:=Nat.one_le_two_pow (n:=n);lia -abstractProof
 have two:∀(s a c:Sy),(bonds a).length+2<=2 ^ (dep a+1)->(bonds c).length+2<=2 ^ (dep c+1)->dep s=max (dep a) (dep c)+1->bonds s=ext (ext (ext [] (bonds a)) (bonds c)) (cA s)->(cA s).length<=1->(bonds s).length+2<=2 ^ (dep s+1):=fun s a c ha hc e e2 h=>by
  have h1:=pow_le_pow_right (n:=2) (by decide) (succ_le_succ (le_max_left (dep a) (dep c)))
  have h2:=pow_le_pow_right (n:=2) (by decide) (succ_le_succ (le_max_right (dep a) (dep c)))
  rw [e,e2,pow_succ]
  have h3:=f6 (ext (ext [] (bonds a)) (bonds c)) (cA s)
  have h4:=f6 (ext [] (bonds a)) (bonds c)
  have h5:=f6 [] (bonds a)
  rw [length_nil] at h5
  lia -abstractProof
 have one:∀(s a:Sy),(bonds a).length+2<=2 ^ (dep a+1)->dep s=dep a+1->bonds s=ext (ext [] (bonds a)) (cA s)->(cA s).length<=2->(bonds s).length+2<=2 ^ (dep s+1):=fun s a ha e e2 h=>by
  rw [e,e2,pow_succ]
  have h3:=f6 (ext [] (bonds a)) (cA s)
  have h5:=f6 [] (bonds a)
  rw [length_nil] at h5
  lia -abstractProof
 intro s
 induction s with
 |mark |yes=>exact p0 _
 |not a ih |next a ih |always a ih |again a ih=>exact one _ a ih rfl rfl (le_of_ble_eq_true rfl)
 |and a c ih ih' |or a c ih ih' |till a c ih ih'=>exact two _ a c ih ih' rfl rfl (le_of_ble_eq_true rfl)
end
section
variable {σ:Sg}
theorem oB {ρ:aW}{i:Nat}{f xs:List Sy}{c:cr}{k:PK (List T)}{r:cg}(h1:∀v,bV (ρ.set i (some v)) i=some v)(h2:∀v,bV (ρ.set i (some v)) 1=some (je f))(hf:∀x∈f,dep x<=40)(hx:∀x∈xs,dep x<=40)
  (hk:k ((xs.filter fun x=>!f.contains x).map bx) σ=r):br (bj i) (p2 eP (pV i) (pV 1)) (pV i) c ρ (xs.map bx) σ [] k=r:=by
 refine iT (fun x=>!f.contains x) bx (fun a ha=>⟨_,rfl,fun k=>?_,fun _ k=>?_⟩) hk
 .show up (bV (List.set ρ i (some (bx a))) i) σ (fun v σ=>up (bV (List.set ρ i (some (bx a))) 1) σ fun w σ=>up (eP v w) σ k)=_
  rw [h1,h2,List.contains_eq_mem]
  show up (eP (bx a) (je f)) σ k=_
  exact ab ((zt 40).nin (by decide) (hx a ha) hf rfl) rfl
 .show up (bV (List.set ρ i (some (bx a))) i) σ k=_
  rw [h1];rfl
theorem zU {a:Sy}{d:Nat}(h:dep a<=d)(hd:d<=8):(bonds a).length<=1024:=
 le_trans (le_trans (le_add_right _ 2) (xr a)) (pow_le_pow_right (j:=10) (by decide) (succ_le_succ (le_trans h (le_succ_of_le hd))))
theorem ro {x:Sy}{d:Nat}(h:dep x<=d+1)(hd:d<=8):dep x<=40:=le_trans h (le_trans (succ_le_succ hd) (by decide))
theorem qM (f xs:List Sy)(h:f.length+xs.length<=20000):f.length+(xs.filter fun x=>!f.contains x).length<=lim:=
 le_trans (add_le_add_left (length_filter_le _ _) _) (le_trans h (by decide))
noncomputable abbrev Gj:PS:=af (ii 1 jk (aV (bv (aw 500 (aa (pV 2) ao))) (bj 3) (p2 eP (pV 3) (pV 1)) (pV 3))) an
theorem uZ {c:cr}{t:Option T}{d:Nat}(hd:d<=8):∀(l:List Sy),(∀a∈l,dep a<=d/\c.call 500 [bx a] σ=.ret (je (bonds a)) σ)->∀(f:List Sy) (x2:Option T) {k:PK aW} {r:cg},(∀x∈f,dep x<=d+1)->f.length+l.length * 1024<=10240->
  (∀f' x2,f'=l.foldl (fun f a=>ext f (bonds a)) f->(∀x∈f',dep x<=d+1)->f'.length<=10240->k [t,some (je f'),x2,none,none] σ=r)->cD (bj 2) Gj c (l.map bx) [t,some (je f),x2,none,none] σ k=r:=by
 intro l
 induction l with
 |nil=>intro _ f x2 k r h1 h2 hk;exact hk f x2 rfl h1 (le_trans (le_add_right _ _) h2)
 |cons a l ih=>
  intro hl f x2 k r hf hlen hk
  obtain ⟨h1,h2⟩:=hl a (.head _)
  have d1:∀x∈bonds a,dep x<=d+1:=fun x hx=>le_trans (fS hx) (succ_le_succ h1)
  have bl:=zU h1 hd
  have el:=f6 f (bonds a)
  rw [length_cons] at hlen
  refine aB h2 (oB (fun _=>rfl) (fun _=>rfl) (fun x hx=>ro (hf x hx) hd) (fun x hx=>ro (d1 x hx) hd) (ab (rh (l:=f) (qM f _ ?_)) ?_))
  .lia
  .exact ih (fun b hb=>hl b (.tail _ hb)) (ext f (bonds a)) _ (fun x hx=>(kg.mp hx).elim (hf x) (d1 x)) (by lia -abstractProof) hk
theorem oO:∀(n:Nat) (s:Sy),dep s<=n->dep s<=8->aj Ψ (n+1) 500 [bx s] σ=.ret (je (bonds s)) σ:=by
 intro n
 induction n with
 |zero=>intro s h;exact absurd (g8 s) (dH (lt_succ_of_le h))
 |succ n ih=>
  intro s h hn
  have hp:∀a∈cZ s,dep a<=7:=fun a ha=>le_of_lt_succ (lt_of_lt_of_le (dX ha) hn)
  have pl:(cZ s).length<=2:=by cases s<;>exact le_of_ble_eq_true rfl
  have ol:(cA s).length<=2:=by cases s<;>exact le_of_ble_eq_true rfl
  rw [zV s]
  refine uY (aB (nN s n) (uZ (d:=7) (by decide) (cZ s) (fun a ha=>⟨hp a ha,ih a (le_of_lt_succ (lt_of_lt_of_le (dX ha) h)) (le_succ_of_le (hp a ha))⟩) [] none (fun _ h=>nomatch h) (by rw [length_nil];lia -abstractProof) ?_))
  rintro f' x2 rfl h1 h2
  exact aB (Dq s n) (oB (fun _=>rfl) (fun _=>rfl) (fun x hx=>ro (h1 x hx) (by decide)) (fun x hx=>ro (fS (bu.mpr ⟨s,j0 s,hx⟩)) hn) (ab (rh (l:=(cZ s).foldl (fun f a=>ext f (bonds a)) []) (qM _ _ (by lia -abstractProof))) rfl))
end
noncomputable def Ai:Str:=ofString "abcdefghijklmnopqrstuvwxyz"
noncomputable def H0 (c:Nat):Bool:=Nat.ble 97 c&&Nat.ble c 122
noncomputable def Lw (x:Str):Prop:=∀c∈x.cps.toList,H0 c=true
theorem qZ {c:Nat}(h:H0 c=true):97<=c/\c<=122:=⟨le_of_ble_eq_true (df h),le_of_ble_eq_true (dB h)⟩
theorem uM:∀k,k < 26->Txt.contains Ai ⟨#[97+k]⟩=true:=by decide+kernel
theorem Ee {c:Nat}(h:H0 c=true):Txt.contains Ai ⟨#[c]⟩=true:=by
 obtain ⟨h1,h2⟩:=qZ h
 obtain ⟨k,rfl⟩:=exists_eq_add_of_le h1
 exact uM k (Nat.lt_of_add_lt_add_left (n:=97) (lt_succ_of_le h2))
theorem oS {α:Type}(l:List α):kU (.lst (l.map fun _=>.bool true))=some (.bool true):=by rw [all_map l fun _=>true,all_eq_true.mpr fun _ _=>rfl]
theorem rA {α:Type}{n:Nat}{x:α}(h:n<=lim):qg n x=some x:=by rw [qg,show cT n=true from ble_eq_true_of_le h];rfl
structure Mk (x:Str):Prop where
 len:x.length<=6
 lw:Lw x
section
variable {σ:Sg}
theorem od {x:Str}(h:Mk x)(n:Nat):aj Ψ (n+1) 1 [.str x] σ=.ret (.bool true) σ:=by
 refine xn ?_
 have e1:decide ((x.length:Int) > 6)=false:=decide_eq_false (by have:=h.len;lia -abstractProof)
 have e2:x.cps.all (· < 128)=true:=Array.all_eq_true_iff_forall_mem.mpr fun c hc=>decide_eq_true (by have:=qZ (h.lw c (Array.mem_toList_iff.mpr hc));lia -abstractProof)
 show (bif decide ((x.length:Int) > 6) then cg.ret (.bool false) σ else up (bif x.cps.all (· < 128) then some (x.cps.toList.map fun c=>T.str ⟨#[c]⟩) else none) σ fun xs σ=>br (bj 1) aJ (pB (p2 GM (pV 1) (pC (.str Ai)))) ⟨aj Ψ n⟩ [some (.str x),none] xs σ [] fun ys σ=>up (kU (.lst ys)) σ fun v σ=>.ret v σ)=_
 rw [e1,e2]
 show br _ _ _ _ _ (x.cps.toList.map fun c=>T.str ⟨#[c]⟩) σ [] _=_
 refine bw (fun _=>.bool true) (fun c hc=>⟨_,rfl,fun k=>?_⟩) ?_
 .show k (.bool (Txt.contains Ai ⟨#[c]⟩)) σ=_
  rw [Ee (h.lw c hc)]
 .exact ab (oS _) rfl
noncomputable def Gm (s:Sy):Prop:=∀x,.mark x∈all s->Mk x/\x≠ofString ""
theorem BH {s:Sy}(h:Gm s)(n:Nat):aj Ψ (n+2) 3 [bx s] σ=.ret (.bool true) σ:=by
 cases s with
 |mark x=>
  obtain ⟨h1,h2⟩:=h x (.head _)
  refine oL (aB (od h1 n) ?_)
  show up (o8 (.str x) (.str (ofString ""))) σ (fun b σ=>.ret (.bool b) σ)=_
  rw [BN.isN (by decide) trivial trivial,decide_eq_false h2];rfl
 |_=>exact oL (by kernel_rfl)
theorem wj:∀(n d:Nat) (s:Sy),dep s<=d->d<=n->Gm s->aj Ψ (n+2) 4 [bx s,.int d] σ=.ret (.bool true) σ:=by
 intro n
 induction n with
 |zero=>intro d s h h';exact absurd (g8 s) (dH (lt_succ_of_le (le_trans h h')))
 |succ n ih=>
  rintro (_ |d) s h h' hg
  .exact absurd (g8 s) (dH (lt_succ_of_le h))
  refine tG (aB (BH hg n) (aB (nN s _) ?_))
  refine bw (e:=bx) (fun _=>.bool true) (fun p hp=>⟨_,rfl,fun k=>?_⟩) ?_
  .have:=ih d p (le_of_lt_succ (lt_of_lt_of_le (dX hp) h)) (le_of_succ_le_succ h') fun x hx=>hg x (kS hp hx)
   refine aB (t:=.bool true) (σ:=σ) ?_ rfl
   rw [show (((d+1:Nat):Int) - 1)=(d:Int) by lia -abstractProof];exact this
  .exact ab (oS (cZ s)) rfl
structure Gs (s:Sy):Prop where
 dep:dep s<=5
 few:(bonds s).length<=4
 gm:Gm s
theorem A1 {s:Sy}(h:Gs s)(n:Nat):aj Ψ (n+9) 7 [bx s] σ=.ret (bx s) σ:=by
 have e:decide (((((bonds s).map bx).length:Nat):Int) > 4)=false:=decide_eq_false (by have:=h.few;rw [length_map];lia -abstractProof)
 refine pE (aB (tH (aB (wj (n+5) 5 s h.dep (le_add_left _ _) h.gm) rfl)) (aB (oO _ s ?_ ?_) ?_))
 .exact le_trans h.dep (le_add_left _ (n+2))
 .exact le_trans h.dep (by decide)
 .show (bif decide (((((bonds s).map bx).length:Nat):Int) > 4) then cg.bad else .ret (bx s) σ)=_
  rw [e];rfl
noncomputable def HZ:Sy->Bool
 |.till _ _=>true
 |.always _=>true
 |_=>false
noncomputable def sD (s:Sy):List Sy:=(bonds s).filter HZ
noncomputable abbrev wz (s:Sy):List T:=.none::(sD s).map bx
theorem sE {s:Sy}(h:dep s<=8)(hl:(bonds s).length<=1000)(n:Nat):aj Ψ (n+10) 13 [bx s] σ=.ret (.lst (wz s)) σ:=by
 refine pD (aB (oO (n+8) s (le_trans h (le_add_left _ _)) h) (iT HZ bx (fun x hx=>⟨_,rfl,fun k=>?_,fun _ _=>rfl⟩) ?_))
 .rcases fy hx with ⟨a,rfl⟩ | ⟨a,c,rfl⟩ | ⟨a,rfl⟩<;>kernel_rfl
 .refine ab (a:=.lst (wz s)) ?_ rfl
  show qg ((T.none::(sD s).map bx).length) (T.lst (wz s))=_
  exact rA (Nat.succ_le_of_lt (lt_of_le_of_lt (le_trans (le_of_eq (length_map ..)) (le_trans (length_filter_le ..) hl)) (by decide)))
end
noncomputable abbrev nT (p:Nat):T:=.int p
noncomputable abbrev bz (r:List Nat):T:=.lst (r.map nT)
structure Mc where
 names:List Str
 roads:List (List Nat)
 firsts:List Nat
structure xD (n:Nat) (r:List Nat):Prop where
 ne:r≠[]
 nd:r.Nodup
 lt:∀p∈r,p < n
structure Mc.Ok (M:Mc):Prop where
 pos:1<=M.names.length
 few:M.names.length<=12
 marks:∀x∈M.names,Mk x
 len:M.roads.length=M.names.length
 rows:∀r∈M.roads,xD M.names.length r
 firsts:xD M.names.length M.firsts
noncomputable abbrev Mc.fs (M:Mc):List T:=[.lst (M.names.map .str),.lst (M.roads.map bz),bz M.firsts]
noncomputable abbrev Mc.t (M:Mc):T:=.obj 0 M.fs
noncomputable def Mc.mark (M:Mc)(p:Nat):Str:=(M.names[p]?).getD default
noncomputable def Mc.road (M:Mc)(p:Nat):List Nat:=(M.roads[p]?).getD []
section
variable {σ:Sg} {M:Mc}
theorem Mc.Ok.lim (O:M.Ok){p:Nat}(h:p < M.names.length):p<=lim:=le_trans (le_of_lt h) (le_trans O.few (by decide))
theorem td {α:Type}{l:List α}{i:Nat}{d:α}(h:i < l.length):l[i]?=some ((l[i]?).getD d):=by rw [getElem?_eq_getElem h];rfl
theorem jb (O:M.Ok){p:Nat}(h:p < M.names.length)(n:Nat):aj Ψ (n+1) 1007 [M.t,nT p] σ=.ret (.str (M.mark p)) σ:=
 oN (mt (bF (e:=T.str) (td h) (O.lim h)) rfl)
theorem yT (O:M.Ok){p:Nat}(h:p < M.names.length)(n:Nat):aj Ψ (n+1) 1008 [M.t,nT p] σ=.ret (bz (M.road p)) σ:=
 mq (mt (bF (e:=bz) (td (O.len▸h)) (O.lim h)) rfl)
theorem wp (n:Nat):aj Ψ (n+1) 1009 [M.t] σ=.ret (bz M.firsts) σ:=lE rfl
theorem sF {p n:Nat}(h:p < n)(k:Nat):aj Ψ (k+1) 15 [nT p,nT n] σ=.ret (.bool true) σ:=
 uX (show cg.ret (.bool (decide ((p:Int) < (n:Int)))) σ=_ by rw [decide_eq_true (cH h)])
theorem pP {n:Nat}{r:List Nat}(R:xD n r)(hr:r.length<=1000)(k:Nat):aj Ψ (k+2) 16 [bz r,nT n] σ=.ret .none σ:=by
 have lp:∀(suf pre:List Nat) (x2 x3:Option T),r=pre++suf->cD (AA 2 3) (af (bK (hJ (dK (qE (aw 15 (aa (pV 3) (aa (pV 1) ao))))) (hJ (p2 lX (pV 3) (p3 ci (pV 0) jB (p1 cN (pV 2)))) cS)) (af eS an) an) an)
   ⟨aj Ψ (k+1)⟩ (lY pre.length (suf.map nT)) [some (bz r),some (nT n),x2,x3] σ (fun ρ σ=>an ⟨aj Ψ (k+1)⟩ ρ σ (kE 16))=.ret .none σ:=fun suf=>by
  induction suf with
  |nil=>intro pre x2 x3 _;rfl
  |cons p suf ih=>
   intro pre x2 x3 e
   have hp:p∈r:=e▸mem_append_right _ (.head _)
   have e1:lX (nT p) (.lst (cut none (some (pre.length:Int)) (r.map nT)))=some false:=by
    rw [v6,iR,e,List.take_left]
    refine (dE.mem (by decide) (l:=pre) trivial (fun _ _=>trivial) rfl).trans (congrArg some (decide_eq_false fun q=>?_))
    have:=R.nd
    rw [e] at this
    exact (aS this).2.2 p q p (.head _) rfl
   refine aB (sF (R.lt p hp) k) ?_
   refine mt r9 (mt e1 ?_)
   have:=ih (pre++[p]) (some (nT pre.length)) (some (nT p)) (by rw [e,List.append_assoc];rfl)
   rw [List.length_append] at this
   exact this
 have e:ck (.int ((r.map nT).length:Nat)) (.int 0)=some false:=by
  rw [fO];exact congrArg some (decide_eq_false fun q=>R.ne (List.length_eq_zero_iff.mp (by rw [length_map] at q;exact ofNat.inj q)))
 exact pG (aL (Option.some.inj e) (lp r [] none none rfl))
theorem I7 {o:Option Bool}{x y z r:cg}(h:o=some true)(h2:x=r):(match (generalizing:=false) o with |some true=>x |some false=>y |none=>z)=r:=by rw [h];exact h2
theorem yU {a c:Nat}(h:a<=c):Bs (.int a) (.int c)=some true:=congrArg some (decide_eq_true (b9 h))
theorem DA {a c:Nat}(h:a=c):o8 (.int a) (.int c)=some false:=by rw [o8,fO,decide_eq_true (by rw [h])];rfl
theorem BB (O:M.Ok){sp:Int}(n:Nat):aj Ψ (n+3) 1006 [.self,.lst (M.names.map .str),.lst (M.roads.map bz),bz M.firsts] ⟨sp,some (0,[])⟩=.ret .none ⟨sp,some (0,M.fs)⟩:=by
 have l1:(M.names.map T.str).length=M.names.length:=length_map ..
 have rl:∀{r:List Nat},xD M.names.length r->r.length<=1000:=fun {r} R=>le_trans (aY (m:=List.range M.names.length) R.nd fun p hp=>bI (R.lt p hp)) (by rw [length_range];exact le_trans O.few (by decide))
 have lp:∀(l:List (List Nat)),(∀r∈l,xD M.names.length r)->∀(x4:Option T) {k:PK aW} {r:cg},(∀x4,k [some .self,some (.lst (M.names.map .str)),some (.lst (M.roads.map bz)),some (bz M.firsts),x4,none,none] ⟨sp,some (0,[])⟩=r)->
   cD (bj 4) (af (jQ (aw 16 (aa (pV 4) (aa (p1 ba (pV 1)) ao)))) an) ⟨aj Ψ (n+2)⟩ (l.map bz) [some .self,some (.lst (M.names.map .str)),some (.lst (M.roads.map bz)),some (bz M.firsts),x4,none,none] ⟨sp,some (0,[])⟩ k=r:=fun l=>by
  induction l with
  |nil=>exact fun _ x4 _ _ hk=>hk x4
  |cons r l ih=>
   intro hl x4 k _ hk
   have R:=hl r (.head _)
   rw [<-l1] at R
   exact aB (pP R (rl (hl r (.head _))) n) (ih (fun r h=>hl r (.tail _ h)) _ hk)
 refine jF (I7 (yU (a:=1) (l1▸O.pos)) (aL (c:=!decide _) (congrArg not (Option.some.inj (yU (c:=12) (l1▸le_trans O.few (by decide))))) ?_))
 refine bw (e:=T.str) (fun _=>.bool true) (fun x hx=>⟨_,rfl,fun k=>aB (od (O.marks x hx) _) rfl⟩) (mt (oS _) (aL (Option.some.inj (DA (a:=(M.roads.map bz).length) (c:=(M.names.map T.str).length) (by rw [length_map,length_map,O.len]))) ?_))
 refine lp M.roads O.rows none fun x4=>?_
 refine aB (pP (l1▸O.firsts) (rl O.firsts) n) ?_
 exact bw (e:=bz) bz (fun r _=>⟨_,rfl,fun k=>rfl⟩) rfl
end
structure Kw where
 m:Str
 g:List Bool
 b:Str
noncomputable instance:DecidableEq Kw:=fun a b=>Classical.propDecidable (a=b)
noncomputable abbrev FL (k:Kw):T:=.tup [xC k.m k.g,.str k.b]
noncomputable def I8 (k:Kw):Ky:=.tup [.tup [.str k.m,.tup (k.g.map fun b=>.int (u5 b))],.str k.b]
theorem DZ {a c:Kw}(h1:a.m=c.m)(h2:a.g=c.g)(h3:a.b=c.b):a=c:=by
 show Kw.mk a.m a.g a.b=Kw.mk c.m c.g c.b
 rw [h1,h2,h3]
theorem oc:tY FL I8:=⟨fun a=>by
  have e:my 4 (gT a.g)=some (.tup (a.g.map fun b=>.int (u5 b))):=by rw [CO,n8];rfl
  show o1 (o2 (o1 (o2 (some (Ky.str a.m)) (o2 (my 4 (gT a.g)) (some []) fun k ks=>some (k::ks)) fun k ks=>some (k::ks)) fun ks=>some (Ky.tup ks)) (some [Ky.str a.b]) fun k ks=>some (k::ks)) (fun ks=>some (Ky.tup ks))=_
  rw [e];rfl,
 fun a c h=>by
  have h1:=List.cons.inj (Ky.tup.inj h)
  have h2:=List.cons.inj (Ky.tup.inj h1.1)
  exact DZ (Ky.str.inj h2.1) (lG (Ky.tup.inj (List.cons.inj h2.2).1)) (Ky.str.inj (List.cons.inj h1.2).1)⟩
theorem vN {α:Type}{e:α->T}{κ:α->Ky} [DecidableEq α] (K:tY e κ){l:List α}{vs:List T}(a:α):fK (e a) (.dct (l.map e) vs)=some (!decide (a∈l)):=by
 show (CR _ _).map _=_
 rw [K.has];rfl
section
variable {M:Mc} {s:Sy}
noncomputable def beh (s:Sy)(m:Str)(g:List Bool)(m':Str):List (List Bool):=(iW (bonds s).length).filter fun g'=>q6 (bonds s) m g m' g'
noncomputable def th (M:Mc)(s:Sy)(k:Kn):List Kn:=(M.road k.p).flatMap fun q=>(beh s (M.mark k.p) k.g (M.mark q)).map (Kn.mk q)
noncomputable abbrev gp (s:Sy)(kk:List Kw):T:=.dct (kk.map FL) (kk.map fun k=>.lst ((beh s k.m k.g k.b).map gT))
noncomputable abbrev E8 (M:Mc)(s:Sy)(D:List Kn):T:=.dct (D.map bh) (D.map fun k=>.lst ((th M s k).map bh))
noncomputable abbrev wS (M:Mc)(s:Sy)(sp:Int)(kk:List Kw)(K:List Kn)(bg:Nat)(D:List Kn):Sg:=⟨sp,some (10,[je (bonds s),.lst (wz s),M.t,gp s kk,.lst (K.map bh),.int bg,E8 M s D])⟩
theorem Gs.bds (G:Gs s){g:List Bool}(h:g.length=(bonds s).length):Co (bonds s) g:=⟨fun x hx=>le_trans (fS hx) (le_trans (succ_le_succ G.dep) (by decide)),h,le_trans G.few (by decide)⟩
variable {sp:Int} {kk:List Kw} {K:List Kn} {bg:Nat} {D:List Kn}
theorem xt (G:Gs s){m m':Str}{g:List Bool}(hg:g.length=(bonds s).length)(hl:kk.length < lim)(n:Nat):
  bb (fun t σ'=>t=.lst ((beh s m g m').map gT)/\∃kk',kk'.length<=kk.length+1/\σ'=wS M s sp kk' K bg D) (aj Ψ (n+20) 1004 [.self,xC m g,.str m'] (wS M s sp kk K bg D)):=by
 refine iy ?_
 by_cases h:(⟨m,g,m'⟩:Kw)∈kk
 .refine eY (o:=fK (FL ⟨m,g,m'⟩) (gp s kk)) (a:=false) ?_ ?_
  .rw [gp,vN oc,decide_eq_true h];rfl
  .exact eY (oc.get (a:=⟨m,g,m'⟩) h) (cR ⟨rfl,kk,le_succ _,rfl⟩)
 .refine eY (o:=fK (FL ⟨m,g,m'⟩) (gp s kk)) (a:=true) ?_ ?_
  .rw [gp,vN oc,decide_eq_false h];rfl
  .have gl:=og (σ:=wS M s sp kk K bg D) (n+18) ((bonds s).map bx) (by rw [length_map];exact G.few)
   rw [length_map] at gl
   refine gD gl (zI (e:=gT) (fun g'=>q6 (bonds s) m g m' g') gT (fun g' hg'=>⟨_,rfl,fun k=>aB (BF rfl (G.bds hg) (G.bds (gJ hg')) (n:=n+16) fun x hx=>?_) rfl,fun _ k=>rfl⟩) ?_)
   .exact le_trans (fS hx) (le_trans (succ_le_succ G.dep) (le_trans (by decide) (le_add_left 16 n)))
   .refine eY (o:=eG (gp s kk) (FL ⟨m,g,m'⟩) (.lst ((beh s m g m').map gT))) (a:=gp s (kk++[⟨m,g,m'⟩])) ?_ ?_
    .rw [gp,oc.put h hl,gp,map_append (f:=fun k:Kw=>T.lst _)];rfl
    .refine eY (oc.get (l:=kk++[⟨m,g,m'⟩]) (a:=⟨m,g,m'⟩) (mem_append_right _ (.head _))) (cR ⟨rfl,_,?_,rfl⟩)
     rw [List.length_append];exact le_refl _
theorem lN:∀n:Nat,(iW n).length=2 ^ n:=by
 intro n
 induction n with
 |zero=>rfl
 |succ n ih=>
  show ((iW n).map _++(iW n).map _).length=_
  rw [List.length_append,length_map,length_map,ih,pow_succ,Nat.mul_two]
theorem B9 (G:Gs s)(m:Str)(g:List Bool)(m':Str):(beh s m g m').length<=16:=
 le_trans (length_filter_le _ _) (by rw [lN];exact pow_le_pow_right (j:=4) (by decide) G.few)
theorem DO (O:M.Ok)(G:Gs s){k:Kn}(hp:k.p < M.names.length)(hg:k.g.length=(bonds s).length)(hr:∀q∈M.road k.p,q < M.names.length)(hl:(M.road k.p).length<=12)(hk:kk.length<=10000)(n:Nat):
  bb (fun t σ'=>t=.lst ((th M s k).map bh)/\∃kk',kk'.length<=kk.length+12/\σ'=wS M s sp kk' K bg D) (aj Ψ (n+21) 1003 [.self,bh k] (wS M s sp kk K bg D)):=by
 have lp:∀(l:List Nat),(∀q∈l,q < M.names.length)->∀(F:List Kn) (kk:List Kw) (x4:Option T) {κ:PK aW} {Q:T->Sg->Prop},F.length+l.length * 16<=10000->kk.length+l.length<=20000->
   (∀kk' x4,kk'.length<=kk.length+l.length->bb Q (κ [some .self,some (bh k),some (xC (M.mark k.p) k.g),some (.lst ((F++l.flatMap fun q=>(beh s (M.mark k.p) k.g (M.mark q)).map (Kn.mk q)).map bh)),x4,none] (wS M s sp kk' K bg D)))->
   bb Q (cD (bj 4) (af (ii 3 jk (aV (bv (sG 10 1004 (aa (pV 2) (aa (rN 0 1007 (fX 10 2) (aa (pV 4) ao)) ao)))) (bj 5) aJ (aM (aa (pV 4) (aa (pV 5) ao))))) an) ⟨aj Ψ (n+20)⟩ (l.map nT) [some .self,some (bh k),some (xC (M.mark k.p) k.g),some (.lst (F.map bh)),x4,none] (wS M s sp kk K bg D) κ):=fun l=>by
  induction l with
  |nil=>intro _ F kk x4 κ Q _ _ hk;rw [List.flatMap_nil,append_nil] at hk;exact hk kk x4 (le_refl _)
  |cons q l ih=>
   intro hq F kk x4 κ Q h1 h2 hk
   rw [length_cons] at h1 h2 hk
   have bl:=B9 G (M.mark k.p) k.g (M.mark q)
   refine gD (jb O (hq q (.head _)) _) (bY (xt G hg (lt_of_le_of_lt (le_trans (le_add_right _ _) h2) (by decide)) n) ?_)
   rintro _ _ ⟨rfl,kk',h3,rfl⟩
   refine g9 (e:=gT) (fun g=>bh ⟨q,g⟩) (fun g _=>⟨_,rfl,fun _=>rfl⟩) (eY (o:=jk (.lst (F.map bh)) _) (a:=.lst ((F++(beh s (M.mark k.p) k.g (M.mark q)).map (Kn.mk q)).map bh)) ?_ (ih (fun q h=>hq q (.tail _ h)) _ kk' _ ?_ ?_ fun kk'' x4 h4=>?_))
   .rw [<-rh (by rw [length_map,bC];lia),map_map];rfl
   .rw [List.length_append,length_map];lia -abstractProof
   .lia -abstractProof
   .have:=hk kk'' x4 (by lia)
    rw [List.flatMap_cons,<-List.append_assoc] at this
    exact this
 refine qG (gD (jb O hp _) (gD (yT O hp _) (lp (M.road k.p) hr [] kk none (by rw [length_nil];lia -abstractProof) (by lia) fun kk' x4 h=>cR ⟨rfl,kk',by lia,rfl⟩)))
end
theorem yG {S:List Kn}(h:S.Nodup):ti (.lst (S.map fun k=>.tup [bh k,.bool true]))=some (lj S):=by
 show o1 (ox (S.map fun k=>.tup [bh k,.bool true]) ([].map bh) []) _=_
 rw [lC S [] [] h];rfl
section
variable {M:Mc} {s:Sy}
noncomputable def t6 (M:Mc)(s:Sy):List Kn:=(List.range M.names.length).flatMap fun p=>(iW (bonds s).length).map (Kn.mk p)
theorem gV {k:Kn}:k∈t6 M s↔k.p < M.names.length/\k.g.length=(bonds s).length:=by
 constructor
 .intro h
  obtain ⟨p,h1,h2⟩:=mem_flatMap.mp h
  obtain ⟨g,h3,rfl⟩:=aT h2
  exact ⟨bp h1,gJ h3⟩
 .exact fun h=>mem_flatMap.mpr ⟨k.p,bI h.1,eu ⟨k.g,oV h.2,rfl⟩⟩
theorem mu:(t6 M s).length=M.names.length * 2 ^ (bonds s).length:=by
 have:∀l:List Nat,(l.flatMap fun p=>(iW (bonds s).length).map (Kn.mk p)).length=l.length * 2 ^ (bonds s).length:=fun l=>by
  induction l with
  |nil=>exact (Nat.zero_mul _).symm
  |cons p l ih=>rw [List.flatMap_cons,List.length_append,ih,length_map,lN,length_cons,Nat.succ_mul,add_comm]
 rw [t6,this,length_range]
theorem iw (O:M.Ok){p:Nat}(h:p < M.names.length):xD M.names.length (M.road p):=by
 have h:=O.len▸h
 refine O.rows _ ?_
 rw [Mc.road,getElem?_eq_getElem h];exact getElem_mem h
theorem Di (O:M.Ok){k y:Kn}(hp:k.p < M.names.length)(h:y∈th M s k):y∈t6 M s:=by
 obtain ⟨q,h1,h2⟩:=mem_flatMap.mp h
 obtain ⟨g,h3,rfl⟩:=aT h2
 exact gV.mpr ⟨(iw O hp).lt q h1,gJ (cb h3).1⟩
structure wg (M:Mc) (s:Sy) (S D R:List Kn):Prop where
 nd:(D++R).Nodup
 sub:∀k∈D++R,k∈t6 M s
 clo:∀k∈D,∀y∈th M s k,y∈D++R
 rch:∀k∈D++R,∃a∈S,l8 (th M s) a k
 pre:S <+:D++R
theorem wg.push {S D R:List Kn}{k y:Kn}(P:wg M s S D R)(hk:k∈D++R)(hy:y∈th M s k)(hu:y∈t6 M s)(hn:y∉D++R):wg M s S D (R++[y]):=by
 have e:D++(R++[y])=(D++R)++[y]:=(List.append_assoc ..).symm
 refine ⟨?_,?_,?_,?_,?_⟩
 .rw [e,nodup_append]
  exact ⟨P.nd,pairwise_singleton _ _,fun a ha b hb q=>hn (ae hb▸q▸ha)⟩
 .rw [e];exact fun x hx=>(ah hx).elim (P.sub x) fun h=>ae h▸hu
 .rw [e];exact fun x hx z hz=>mem_append_left _ (P.clo x hx z hz)
 .rw [e]
  intro x hx
  rcases ah hx with h |h
  .exact P.rch x h
  .obtain ⟨a,h1,h2⟩:=P.rch k hk
   exact ⟨a,h1,ae h▸h2.trans (.one hy)⟩
 .rw [e];exact P.pre.trans (List.prefix_append _ _)
theorem wg.done {S D R:List Kn}{k:Kn}(P:wg M s S D (k::R))(h:∀y∈th M s k,y∈D++k::R):wg M s S (D++[k]) R:=by
 have e:(D++[k])++R=D++k::R:=by rw [List.append_assoc];rfl
 refine ⟨e▸P.nd,e▸P.sub,fun x hx=>?_,e▸P.rch,e▸P.pre⟩
 rw [e]
 rcases ah hx with hx |hx
 .exact P.clo x hx
 .exact ae hx▸h
inductive SW (M:Mc) (s:Sy) (S:List Kn) (sp:Int) (bg:Nat):List Kn×List Kn×List Kw->aW->Sg->Prop
 |mk {D R:List Kn} {kk:List Kw} {x3 x4:Option T} (P:wg M s S D R) (hk:kk.length<=12 * D.length):SW M s S sp bg (D,R,kk) [some .self,some (lj (D++R)),some (.int D.length),x3,x4,none] (wS M s sp kk (D++R) bg D)
inductive SF (M:Mc) (s:Sy) (S:List Kn) (sp:Int) (bg:Nat) (D:List Kn) (k:Kn) (kk:List Kw):List Kn->aW->Sg->Prop
 |mk {pre R':List Kn} {x4:Option T} (P:wg M s S D (k::R')) (hp:∀y∈pre,y∈D++k::R'):SF M s S sp bg D k kk pre [some .self,some (lj (D++k::R')),some (.int D.length),some (bh k),x4,none] (wS M s sp kk (D++k::R') bg (D++[k]))
theorem AG (O:M.Ok)(G:Gs s)(U:(t6 M s).length<=128){S:List Kn}{sp:Int}(hS:S.Nodup)(hu:∀k∈S,k∈t6 M s)(bg:Nat)(n:Nat):
  bb (fun t v'=>t=.none/\∃kk K,v'=wS M s sp kk K bg K/\wg M s S K []) (aj Ψ (n+22) 1002 [.self] (wS M s sp [] S bg [])):=by
 have ul:=U
 refine uq (g9 (e:=bh) (fun k=>.tup [bh k,.bool true]) (fun k _=>⟨_,rfl,fun _=>rfl⟩) (eY (yG hS) ?_))
 refine js (S:=List Kn×List Kn×List Kw) (SW M s S sp bg)
  (fun x=>decide ((x.1.length:Int) < (((x.1++x.2.1).map bh).length:Int))) (fun x=>128 - x.1.length) ?_ ?_ ?_ (s:=([],S,[])) (show 128 - 0 < 400 by decide) (.mk ⟨hS,hu,fun _ h=>(nomatch h),fun k hk=>⟨k,hk,.refl _⟩,List.prefix_rfl⟩ (le_refl _))
 .rintro _ _ _ ⟨⟩ k hk
  exact hk
 .rintro _ _ _ @⟨D,R,kk,x3,x4,P,hk⟩ hg κ hκ
  have len:=le_trans (aY P.nd P.sub) ul
  obtain _ | ⟨k,R⟩:=R
  .have:=of_decide_eq_true hg
   rw [length_map,append_nil] at this
   exact absurd this (Int.lt_irrefl _)
  have km:k∈D++k::R:=mem_append_right _ (.head _)
  obtain ⟨hp,hgl⟩:=gV.mp (P.sub k km)
  have rr:=iw O hp
  have kD:k∉D:=fun h=>(aS P.nd).2.2 k h k (.head _) rfl
  rw [List.length_append,length_cons] at len
  have e1:(D++k::R)[D.length]?=some k:=by rw [getElem?_append_right (le_refl _),sub_self];rfl
  refine eY (bF (e:=bh) e1 (by rw [bC];lia)) (bY (DO O G hp hgl rr.lt ?_ ?_ n) ?_)
  .have:=aY (m:=List.range M.names.length) rr.nd fun p hp=>bI (rr.lt p hp)
   rw [length_range] at this;exact le_trans this O.few
  .lia
  rintro _ _ ⟨rfl,kk',h1,rfl⟩
  refine eY (o:=eG (E8 M s D) (bh k) _) (a:=E8 M s (D++[k])) ?_ ?_
  .rw [E8,c9.put kD (by rw [bC];lia -abstractProof),E8,map_append (f:=fun k=>T.lst _)];rfl
  refine eY (c9.get (l:=D++[k]) (a:=k) (mem_append_right _ (.head _))) ?_
  refine te (e:=bh) (l:=th M s k) (SF M s S sp bg D k kk') ?_ ?_ (pre:=[]) rfl (.mk P fun _ h=>nomatch h)
  .rintro pre y suf _ _ hl @⟨R',x4,P,hp'⟩ κ' hκ'
   have yt:y∈th M s k:=by rw [hl];exact mem_append_right _ (.head _)
   have len:=le_trans (aY P.nd P.sub) ul
   by_cases h:y∈D++k::R'
   .refine eY (o:=fK (bh y) (lj (D++k::R'))) (a:=false) (by rw [ja,decide_eq_true h];rfl) (hκ' _ _ (.mk P fun z hz=>?_))
    exact (ah hz).elim (hp' z) fun q=>ae q▸h
   .have ll:(D++k::R').length < lim:=by exact lt_of_le_of_lt (by assumption) (by decide)
    refine eY (o:=fK (bh y) (lj (D++k::R'))) (a:=true) (by rw [ja,decide_eq_false h];rfl) (eY (ke h ll) (eY (dj y ll) ?_))
    have e:(D++k::R')++[y]=D++k::(R'++[y]):=List.append_assoc ..
    rw [e]
    refine hκ' _ _ (.mk (R':=R'++[y]) (P.push (mem_append_right _ (.head _)) yt (Di O hp yt) h) fun z hz=>?_)
    rw [<-e]
    exact (ah hz).elim (fun q=>mem_append_left _ (hp' z q)) fun q=>mem_append_right _ q
  .rintro _ _ @⟨R',x4,P,hp'⟩
   have e:(D++[k])++R'=D++k::R':=by rw [List.append_assoc];rfl
   have l:(D++[k]).length=D.length+1:=List.length_append ..
   have w:=SW.mk (sp:=sp) (bg:=bg) (kk:=kk') (x3:=some (bh k)) (x4:=x4) (P.done hp') (by rw [l];lia)
   rw [e,l] at w
   exact hκ _ _ _ (show 128 - (D++[k]).length < 128 - D.length by rw [l];lia) w
 .rintro _ _ _ @⟨D,R,kk,x3,x4,P,_⟩ hg
  obtain _ | ⟨k,R⟩:=R
  .exact cR ⟨rfl,kk,D,by rw [append_nil],P⟩
  .have:=of_decide_eq_false hg
   rw [length_map,List.length_append,length_cons] at this
   exact absurd (cH (by lia -abstractProof)) this
end
section
variable {M:Mc} {s:Sy}
theorem om {f:Nat->List (List Bool)}(hf:∀p,(f p).Nodup):∀{l:List Nat},l.Nodup->(l.flatMap fun p=>(f p).map (Kn.mk p)).Nodup:=by
 intro l
 induction l with
 |nil=>exact fun _=>.nil
 |cons p l ih=>
  intro h
  obtain ⟨h1,h2⟩:=bi h
  rw [List.flatMap_cons,nodup_append]
  refine ⟨pT (fun x y e=>congrArg Kn.g e) (hf p),ih h2,fun a ha b hb e=>?_⟩
  obtain ⟨g,_,rfl⟩:=aT ha
  obtain ⟨q,h3,h4⟩:=mem_flatMap.mp hb
  obtain ⟨g',_,rfl⟩:=aT h4
  exact h1 ((show p=q from congrArg Kn.p e)▸h3)
noncomputable def st (M:Mc)(s:Sy):List Kn:=M.firsts.flatMap fun p=>((iW (bonds s).length).filter fun g=>!so (M.mark p) (bonds s) g s).map (Kn.mk p)
theorem n4 {k:Kn}:k∈st M s↔k.p∈M.firsts/\k.g.length=(bonds s).length/\so (M.mark k.p) (bonds s) k.g s=false:=by
 constructor
 .intro h
  obtain ⟨p,h1,h2⟩:=mem_flatMap.mp h
  obtain ⟨g,h3,rfl⟩:=aT h2
  obtain ⟨h4,h5⟩:=cb h3
  exact ⟨h1,gJ h4,(not_eq_true' _).mp h5⟩
 .exact fun h=>mem_flatMap.mpr ⟨k.p,h.1,eu ⟨k.g,dA ⟨oV h.2.1,(not_eq_true' _).mpr h.2.2⟩,rfl⟩⟩
theorem rY (O:M.Ok){k:Kn}(h:k.p < M.names.length):(th M s k).Nodup:=om (fun _=>(oU _).filter _) (iw O h).nd
noncomputable abbrev iS (M:Mc)(s:Sy)(sp:Int)(F:List Kn):Sg:=⟨sp,some (10,[je (bonds s),.lst (wz s),M.t,.dct [] [],.lst (F.map bh)])⟩
theorem Db (O:M.Ok)(G:Gs s)(U:(t6 M s).length<=128){sp:Int}(n:Nat):
  bb (fun t σ'=>t=.none/\∃kk K,σ'=wS M s sp kk K (st M s).length K/\wg M s (st M s) K []) (aj Ψ (n+23) 1001 [.self,M.t,bx s] ⟨sp,some (10,[])⟩):=by
 have inner:∀(p:Nat),p < M.names.length->∀(l:List (List Bool)),(∀g∈l,g.length=(bonds s).length)->∀(F:List Kn) (x4:Option T) {k:PK aW} {Q:T->Sg->Prop},F.length+l.length<=10000->
   (∀x4,bb Q (k [some .self,some M.t,some (bx s),some (nT p),x4] (iS M s sp (F++(l.filter fun g=>!so (M.mark p) (bonds s) g s).map (Kn.mk p)))))->
   bb Q (cD (bj 4) (af (bK (dK (qE (aw 10 (aa (pV 2) (aa (rN 0 1007 (pV 1) (aa (pV 3) ao)) (aa (fX 10 0) (aa (pV 4) ao))))))) (af (qK 10 4 (aM (aa (pV 3) (aa (pV 4) ao)))) an) an) an) ⟨aj Ψ (n+22)⟩ (l.map gT) [some .self,some M.t,some (bx s),some (nT p),x4] (iS M s sp F) k):=fun p hp l=>by
  induction l with
  |nil=>intro _ F x4 k Q _ hk;rw [List.filter_nil,map_nil,append_nil] at hk;exact hk x4
  |cons g l ih=>
   intro hl F x4 k Q h1 hk
   rw [length_cons] at h1
   refine gD (jb O hp _) (gD (m8 (G.bds (hl g (.head _))) s (n+20) (le_trans G.dep (le_trans (by decide) (le_add_left 20 n))) (fk s)) ?_)
   cases e:so (M.mark p) (bonds s) g s with
   |true=>
    rw [List.filter_cons_of_neg (by rw [e];decide)] at hk
    exact ih (fun g h=>hl g (.tail _ h)) F _ (by lia) hk
   |false=>
    rw [List.filter_cons_of_pos (by rw [e];rfl)] at hk
    refine eY (dj (e:=bh) (l:=F) ⟨p,g⟩ (by rw [bC];lia)) (ih (fun g h=>hl g (.tail _ h)) (F++[⟨p,g⟩]) _ ?_ fun x4=>?_)
    .rw [List.length_append];exact le_trans (le_of_eq (add_assoc ..)) (add_comm 1 _▸h1)
    .rw [List.append_assoc];exact hk x4
 have outer:∀(l:List Nat),(∀p∈l,p < M.names.length)->∀(F:List Kn) (x3 x4:Option T) {k:PK aW} {Q:T->Sg->Prop},F.length+l.length * 16<=10000->
   (∀x3 x4,bb Q (k [some .self,some M.t,some (bx s),x3,x4] (iS M s sp (F++l.flatMap fun p=>((iW (bonds s).length).filter fun g=>!so (M.mark p) (bonds s) g s).map (Kn.mk p)))))->
   bb Q (cD (bj 3) (af (cU (bv (aw 8 (aa (fX 10 0) ao))) (bj 4) (af (bK (dK (qE (aw 10 (aa (pV 2) (aa (rN 0 1007 (pV 1) (aa (pV 3) ao)) (aa (fX 10 0) (aa (pV 4) ao))))))) (af (qK 10 4 (aM (aa (pV 3) (aa (pV 4) ao)))) an) an) an)) an) ⟨aj Ψ (n+22)⟩ (l.map nT) [some .self,some M.t,some (bx s),x3,x4] (iS M s sp F) k):=fun l=>by
  induction l with
  |nil=>intro _ F x3 x4 k Q _ hk;rw [List.flatMap_nil,append_nil] at hk;exact hk x3 x4
  |cons p l ih=>
   intro hl F x3 x4 k Q h1 hk
   rw [length_cons] at h1
   have gl:=og (σ:=iS M s sp F) (n+21) ((bonds s).map bx) (by rw [length_map];exact G.few)
   rw [length_map] at gl
   have al:(iW (bonds s).length).length<=16:=by rw [lN];exact pow_le_pow_right (j:=4) (by decide) G.few
   refine gD gl (inner p (hl p (.head _)) _ (fun g h=>gJ h) F _ (by lia -abstractProof) fun x4=>ih (fun q h=>hl q (.tail _ h)) _ _ _ ?_ fun x3 x4=>?_)
   .have:=length_filter_le (fun g=>!so (M.mark p) (bonds s) g s) (iW (bonds s).length)
    rw [List.length_append,length_map];lia -abstractProof
   .have:=hk x3 x4
    rw [List.flatMap_cons,<-List.append_assoc] at this
    exact this
 have fl:M.firsts.length<=12:=by
  have:=aY (m:=List.range M.names.length) O.firsts.nd fun p hp=>bI (O.firsts.lt p hp)
  rw [length_range] at this;exact le_trans this O.few
 have d8:dep s<=8:=le_trans G.dep (by decide)
 refine nH (gD (A1 G (n+13)) (gD (oO _ s (le_trans d8 (le_trans (by decide) (le_add_left 21 n))) d8) (gD (sE d8 (le_trans G.few (by decide)) (n+12)) (gD (wp (n+21)) ?_))))
 refine outer M.firsts O.firsts.lt [] none none (by rw [length_nil];lia -abstractProof) fun x3 x4=>?_
 refine bY (AG O G U (sp:=sp) (S:=st M s) (om (fun _=>(oU _).filter _) O.firsts.nd) (fun k hk=>gV.mpr ⟨O.firsts.lt _ (n4.mp hk).1,(n4.mp hk).2.1⟩) ((st M s).map bh).length n) ?_
 rintro _ _ ⟨rfl,kk,K,rfl,P⟩
 exact cR ⟨rfl,kk,K,by rw [length_map],P⟩
end
theorem gX {xs:List T}{j:Nat}{t:T}(h:xs[j]?=some t)(hj:j<=lim):au (.lst xs) (.int j)=some t:=by
 have:=bF (e:=id) h hj
 rw [map_id] at this;exact this
theorem I9 (k:Kn):au (bh k) (.int 0)=some (nT k.p):=rfl
theorem Ja (k:Kn):au (bh k) (.int 1)=some (gT k.g):=rfl
section
variable {M:Mc} {s:Sy}
noncomputable def sP (M:Mc)(s:Sy)(k:Kn):Nat->Bool
 | 0=>true
 |j+1=>match (sD s)[j]? with
  |some x=>met (bonds s) (M.mark k.p) k.g x
  |none=>true
noncomputable abbrev Gy (M:Mc)(s:Sy)(kk:List Kw)(K:List Kn):T:=f9 (je (bonds s)) (.lst (wz s)) M.t (gp s kk) K (st M s).length (th M s)
variable {kk:List Kw} {K:List Kn} {σ:Sg}
theorem qH (G:Gs s):(sD s).length<=4:=le_trans (length_filter_le _ _) G.few
theorem sQ (O:M.Ok)(G:Gs s)(hu:∀k∈K,k∈t6 M s)(n:Nat):∀k∈K,∀j,j < (wz s).length->aj Ψ (n+20) 1005 [Gy M s kk K,bh k,.int j] σ=.ret (.bool (sP M s k j)) σ:=by
 intro k hk j hj
 obtain ⟨h1,h2⟩:=gV.mp (hu k hk)
 have pl:=qH G
 obtain _ |j:=j
 .exact l6 (mt (gX (j:=0) rfl (zero_le _)) (aB (jb O h1 (n+18)) (aB (yF (m:=M.mark k.p) (g:=k.g) (t:=je (bonds s)) (n+18)) rfl)))
 .have hj:j < (sD s).length:=by rw [length_cons,length_map] at hj;exact Nat.lt_of_succ_lt_succ hj
  have e1:(sD s)[j]?=some (sD s)[j]:=getElem?_eq_getElem hj
  have m1:=cb (getElem_mem hj)
  have e2:(wz s)[j+1]?=some (bx (sD s)[j]):=by
   show ((sD s).map bx)[j]?=_
   rw [getElem?_map,e1];rfl
  have e3:sP M s k (j+1)=met (bonds s) (M.mark k.p) k.g (sD s)[j]:=by
   show (match (sD s)[j]? with |some x=>met (bonds s) (M.mark k.p) k.g x |none=>true)=_
   rw [e1]
  rw [e3]
  generalize (sD s)[j]=x at m1 e2
  have hk:(∃a c,x=.till a c)\/∃a,x=.always a:=by
   rcases fy m1.1 with ⟨a,rfl⟩ |h
   .cases m1.2
   .exact h
  exact l6 (mt (gX e2 (le_trans (le_trans hj pl) (by decide))) (aB (jb O h1 (n+18)) (aB (DI (G.bds h2) m1.1 hk (fun p hp=>dc m1.1 hp) (n:=n+17) (le_trans (fS m1.1) (le_trans (succ_le_succ G.dep) (le_trans (by decide) (le_add_left 17 n))))) rfl)))
structure GW (M:Mc) (s:Sy) (K P R:List Kn):Prop where
 lasso:jr (th M s) (st M s) P R
 sub:∀x∈P++R,x∈K
 met:∀j,j < (wz s).length->∃x∈R,sP M s x j=true
 len:(P++R).length<=1000
noncomputable abbrev Fg (l:List Kn):T:=.lst (l.map fun k=>nT k.p)
theorem xq (O:M.Ok)(G:Gs s)(U:(t6 M s).length<=128)(S:wg M s (st M s) K []){c0:Kn}{r:List Kn}(hC:∀x∈c0::r,x∈K)(scc:∀x∈c0::r,∀y∈c0::r,l8 (th M s) x y)(hs:∀u∈c0::r,∃v∈th M s u,v∈c0::r)(hmet:∀j,j < (wz s).length->∃k∈c0::r,sP M s k j=true)(n:Nat):
  bb (fun t σ'=>σ'=σ/\∃P R,t=.tup [.str (ofString "breaks"),Fg P,Fg R]/\GW M s K P R) (aj Ψ (n+22) 42 [Gy M s kk K,.lst ((c0::r).map bh)] σ):=by
 have hu:∀k∈K,k∈t6 M s:=fun k hk=>S.sub k (by rw [append_nil];exact hk)
 have nd:K.Nodup:=by have:=S.nd;rw [append_nil] at this;exact this
 have hc:∀k∈K,∀y∈th M s k,y∈K:=fun k hk y hy=>by have:=S.clo k hk y hy;rw [append_nil] at this;exact this
 have k2:K.length<=128:=le_trans (aY nd hu) U
 have k1:K.length<=300:=le_trans k2 (by decide)
 have pl:=qH G
 have pre:st M s <+:K:=by have:=S.pre;rw [append_nil] at this;exact this
 have e1:cut none (some ((st M s).length:Int)) K=st M s:=by rw [iR];exact List.prefix_iff_eq_take.mp pre |>.symm
 refine sv (eY (dO e1) (eY (dO (iR 1 (c0::r))) (bY (qI (starts:=st M s) (goals:=[c0]) k1 hc (nd.sublist pre.sublist) (fun x hx=>pre.subset hx) (n+19)) ?_)))
 rintro _ _ ⟨rfl,P,rfl,h⟩
 have W:Cg (th M s) K (st M s) c0 P:=by
  rcases h with ⟨g,h1,h2⟩ | ⟨_,h⟩
  .cases ae h1;exact h2
  .obtain ⟨a,h1,h2⟩:=S.rch c0 (by rw [append_nil];exact hC c0 (.head _))
   exact absurd h2 (h a h1 c0 (.head _))
 refine eY (dO (oA P)) (g9 (e:=bh) (fun k=>nT k.p) (fun k _=>⟨_,rfl,fun _=>rfl⟩) (bY (AN (n:=n+18) k2 hc (fun k hk=>rY O (gV.mp (hu k hk)).1) hC ?_ scc hs hmet (sQ O G hu n)) ?_))
 .rw [length_cons,length_map];lia
 rintro _ _ ⟨rfl,R,rfl,w1,w2,w3,w4,w5,w6⟩
 refine g9 (e:=bh) (fun k=>nT k.p) (fun k _=>⟨_,rfl,fun _=>rfl⟩) (cR ⟨rfl,P.dropLast,R,rfl,W.lasso w1 w2 w3,fun x hx=>(ah hx).elim (fun h=>W.sub x (List.dropLast_subset _ h)) (w4 x),w5,?_⟩)
 rw [List.length_append,List.length_dropLast];exact le_trans (add_le_add (le_trans (sub_le _ _) (le_trans W.len k2)) w6) (by decide)
end
end
end Mine.L08
namespace Mine.L08
noncomputable section
open PySem
noncomputable def Sf (n:Nat)(t:T):Prop:=∃d,di n t=some d/\PyData.eqv d d=true
theorem qy {n:Nat}{i:Int}:Sf n (.int i):=⟨.int i,mI n i,beq_self_eq_true i⟩
theorem AM {n:Nat}{b:Bool}:Sf n (.bool b):=⟨.bool b,tn n b,beq_self_eq_true b⟩
theorem qw {n:Nat}{x:Str}:Sf n (.str x):=⟨.str x,jc n x,beq_self_eq_true x⟩
theorem xU {n:Nat}:∀{l:List T},(∀x∈l,Sf n x)->∃ds,gt (di n) l=some ds/\PyData.eqvAll ds ds=true:=fun {l}=>by
 induction l with
 |nil=>exact fun _=>⟨[],rfl,rfl⟩
 |cons x l ih=>
  intro h
  obtain ⟨d,h1,h2⟩:=h x (.head _)
  obtain ⟨ds,h3,h4⟩:=ih fun y hy=>h y (.tail _ hy)
  exact ⟨d::ds,oT h1 h3,by rw [PyData.eqvAll,h2,h4];rfl⟩
theorem m9 {n:Nat}{l:List T}(h:∀x∈l,Sf n x):Sf (n+1) (.tup l):=let ⟨ds,h1,h2⟩:=xU h;⟨.tuple ds,mH h1,h2⟩
theorem qx {n:Nat}{l:List T}(h:∀x∈l,Sf n x):Sf (n+1) (.lst l):=let ⟨ds,h1,h2⟩:=xU h;⟨.list ds,congrArg (Option.map PyData.list) h1,h2⟩
theorem nc {α:Type}{n:Nat}{l:List α}{f:α->T}(h:∀x∈l,Sf n (f x)):∀t∈l.map f,Sf n t:=fun t ht=>let ⟨x,h1,h2⟩:=aT ht;h2▸h x h1
theorem ng {n:Nat}{x:T}{l:List T}(h:Sf n x)(hl:∀y∈l,Sf n y):∀y∈x::l,Sf n y:=aq ⟨h,hl⟩
theorem AL {n:Nat}:∀y∈([]:List T),Sf n y:=fun _ h=>nomatch h
theorem Sf.eq {t:T}(h:Sf cB t):ck t t=some true:=by
 obtain ⟨d,h1,h2⟩:=h
 unfold ck;rw [h1];exact congrArg some h2
end
end Mine.L08
namespace Mine.L08
noncomputable section
open PySem Ltl
theorem Fw {Q:T->Sg->Prop}{o:cg}{c:Nat}{sp:Int}{fs:List T}{k:PK T}(h:o=.ret .none ⟨sp,some (c,fs)⟩)(h2:bb Q (k (.obj c fs) ⟨sp,none⟩)):bb Q (mc c o k):=by
 rw [h]
 unfold mc
 show bb Q (bif Nat.beq c c then k (.obj c fs) ⟨sp,none⟩ else .bad)
 rw [beq_refl];exact h2
section
variable {th:Kn->List Kn} {K:List Kn}
noncomputable def EN (th:Kn->List Kn):List Kn->Bool
 | []=>false
 |c::r=>!r.isEmpty||decide (c∈th c)
theorem Do {A B:List (List Kn)}{c:Kn}{r:List Kn}(H:xz th K (A++(c::r)::B))(hK:∀k∈K,∀y∈th k,y∈K)(h:EN th (c::r)=true):∀u∈c::r,∃v∈th u,v∈c::r:=by
 have mem:c::r∈A++(c::r)::B:=mem_append_right _ (.head _)
 have nd:(c::r).Nodup:=by
  have:=H.nd
  rw [flatten_append,flatten_cons] at this
  exact (aS (aS this).2.1).1
 have two:∀u d,u∈c::r->d∈c::r->u≠d->∃v∈th u,v∈c::r:=fun u d hu hd ne=>by
  cases H.scc _ mem u hu d hd with
  |refl=>exact absurd rfl ne
  |step e q=>exact ⟨_,e,H.within hu e hK q hd⟩
 intro u hu
 cases r with
 |nil=>
  cases ae hu
  exact ⟨c,of_decide_eq_true (show decide (c∈th c)=true from h),.head _⟩
 |cons d r=>
  by_cases q:u=c
  .exact two u d hu (.tail _ (.head _)) fun e=>(bi nd).1 (q▸e▸.head _)
  .exact two u c hu (.head _) q
theorem AB {m:Nat}:∀l:List Kn,(∀k∈l,(th k).length<=m)->fV th [] l<=l.length * (m+2):=by
 intro l
 induction l with
 |nil=>exact fun _=>zero_le _
 |cons k l ih=>
  intro h
  have h1:=ih fun x hx=>h x (.tail _ hx)
  have h2:=h k (.head _)
  show (if k∈[] then 0 else (th k).length+2)+fV th [] l<=_
  rw [if_neg (fun q=>nomatch q),length_cons,Nat.succ_mul];lia -abstractProof
end
section
variable {M:Mc} {s:Sy}
structure Cm (M:Mc) (s:Sy):Prop where
 ex:∃K Cs,wg M s (st M s) K []/\xz (th M s) K Cs/\(∀x∈K,x∈Cs.flatten)/\∀C∈Cs,EN (th M s) C=true->∃j,j < (wz s).length/\∀k∈C,sP M s k j=false
noncomputable def GV (M:Mc)(s:Sy)(t:T):Prop:=(∃X,t=.tup [.str (ofString "keeps"),.lst X]/\(∀x∈X,Sf 48 x)/\Cm M s)\/∃K P R,t=.tup [.str (ofString "breaks"),Fg P,Fg R]/\wg M s (st M s) K []/\GW M s K P R
theorem pZ (O:M.Ok)(G:Gs s)(U:(t6 M s).length<=128){sp:Int}(n:Nat):bb (fun t σ'=>σ'=⟨sp,none⟩/\GV M s t) (aj Ψ (n+24) 43 [M.t,bx s] ⟨sp,none⟩):=by
 obtain ⟨_,_,w1,rfl,kk,K,rfl,S⟩:=Db O G U (sp:=sp) n
 have hu:∀k∈K,k∈t6 M s:=fun k hk=>S.sub k (by rw [append_nil];exact hk)
 have nd:K.Nodup:=by have:=S.nd;rw [append_nil] at this;exact this
 have hc:∀k∈K,∀y∈th M s k,y∈K:=fun k hk y hy=>by have:=S.clo k hk y hy;rw [append_nil] at this;exact this
 have k1:K.length<=128:=le_trans (aY nd hu) U
 have hw:∀k∈K,(th M s k).length<=128:=fun k hk=>le_trans (aY (rY O (gV.mp (hu k hk)).1) (hc k hk)) k1
 have ws:fV (th M s) [] K < 20000:=lt_of_le_of_lt (AB K hw) (lt_of_le_of_lt (Nat.mul_le_mul_right _ k1) (by decide))
 refine yb (Fw w1 (bY (xj nd (le_trans k1 (by decide)) hc ws (fun k hk=>le_trans (hw k hk) (by decide)) (n+21)) ?_))
 rintro _ _ ⟨rfl,Cs,rfl,H,cov⟩
 have lp:∀(suf pre:List (List Kn)) (X:List T) (x5 x6 x7:Option T),Cs=pre++suf->(∀C∈pre,EN (th M s) C=true->∃j,j < (wz s).length/\∀k∈C,sP M s k j=false)->(∀x∈X,Sf 48 x)->X.length+suf.flatten.length<=1000->
   bb (fun t σ'=>σ'=⟨sp,none⟩/\GV M s t) (cD (AA 5 6) (af (aG 7 (pC (.int 0))) (af (bK (qE (aw 37 (aa (pV 2) (aa (pV 6) ao)))) (af (aG 7 (aw 38 (aa (pV 2) (aa (pV 6) ao)))) (af (bK (p2 s8 (pV 7) (pC .none)) (af (aH (aw 42 (aa (pV 2) (aa (pV 6) ao)))) an) an) an)) an)
    (af (ii 4 jk (aV (bv (pV 6)) (bj 8) aJ (aM (aa (p2 au (pV 8) (pC (.int 0))) (aa (p2 au (pV 8) (pC (.int 1))) (aa (p2 d5 (p2 d5 (p1 ba (pV 3)) (pC (.int 1))) (pV 5)) (aa (pV 7) ao))))))) an)))
    ⟨aj Ψ (n+23)⟩ (lY pre.length (suf.map zO)) [some M.t,some (bx s),some (Gy M s kk K),some (.lst (Cs.map zO)),some (.lst X),x5,x6,x7,none] ⟨sp,none⟩ fun ρ σ=>af (aH (aM (aa (pC (.str (ofString "keeps"))) (aa (pV 4) ao)))) an ⟨aj Ψ (n+23)⟩ ρ σ (kE 43)):=fun suf=>by
  induction suf with
  |nil=>
   intro pre X x5 x6 x7 e hp hs _
   exact cR ⟨rfl,.inl ⟨_,rfl,hs,⟨K,Cs,S,H,cov,fun C hC=>hp C (by rw [e,append_nil] at hC;exact hC)⟩⟩⟩
  |cons C suf ih=>
   intro pre X x5 x6 x7 e hp hs hX
   obtain _ | ⟨c,r⟩:=C
   .exact absurd rfl (H.ne [] (by rw [e];exact mem_append_right _ (.head _)))
   rw [e] at H
   have CK:∀x∈c::r,x∈K:=fun x hx=>H.sub x (by rw [flatten_append,flatten_cons];exact mem_append_right _ (mem_append_left _ hx))
   have go:∀num:Int,(EN (th M s) (c::r)=true->∃j,j < (wz s).length/\∀k∈c::r,sP M s k j=false)->
     bb (fun t σ'=>σ'=⟨sp,none⟩/\GV M s t) (af (ii 4 jk (aV (bv (pV 6)) (bj 8) aJ (aM (aa (p2 au (pV 8) (pC (.int 0))) (aa (p2 au (pV 8) (pC (.int 1))) (aa (p2 d5 (p2 d5 (p1 ba (pV 3)) (pC (.int 1))) (pV 5)) (aa (pV 7) ao))))))) an
      ⟨aj Ψ (n+23)⟩ [some M.t,some (bx s),some (Gy M s kk K),some (.lst (Cs.map zO)),some (.lst X),some (nT pre.length),some (zO (c::r)),some (.int num),none] ⟨sp,none⟩ fun ρ σ=>cD (AA 5 6) (af (aG 7 (pC (.int 0))) (af (bK (qE (aw 37 (aa (pV 2) (aa (pV 6) ao)))) (af (aG 7 (aw 38 (aa (pV 2) (aa (pV 6) ao)))) (af (bK (p2 s8 (pV 7) (pC .none)) (af (aH (aw 42 (aa (pV 2) (aa (pV 6) ao)))) an) an) an)) an)
    (af (ii 4 jk (aV (bv (pV 6)) (bj 8) aJ (aM (aa (p2 au (pV 8) (pC (.int 0))) (aa (p2 au (pV 8) (pC (.int 1))) (aa (p2 d5 (p2 d5 (p1 ba (pV 3)) (pC (.int 1))) (pV 5)) (aa (pV 7) ao))))))) an)))
    ⟨aj Ψ (n+23)⟩ (lY (pre.length+1) (suf.map zO)) ρ σ fun ρ σ=>af (aH (aM (aa (pC (.str (ofString "keeps"))) (aa (pV 4) ao)))) an ⟨aj Ψ (n+23)⟩ ρ σ (kE 43)):=fun num hn=>by
    rw [flatten_cons,List.length_append] at hX
    refine g9 (e:=bh) (fun k=>.tup [nT k.p,gT k.g,.int ((((Cs.map zO).length:Int) - 1) - pre.length),.int num]) (fun k _=>⟨_,rfl,fun _=>rfl⟩) (eY (zr (by rw [length_map];exact le_trans (le_trans (add_le_add_left (le_add_right _ _) _) hX) (by decide))) ?_)
    have:=ih (pre++[c::r]) (X++(c::r).map fun k=>.tup [nT k.p,gT k.g,.int ((((Cs.map zO).length:Int) - 1) - pre.length),.int num]) (some (nT pre.length)) (some (zO (c::r))) (some (.int num)) (by rw [e,List.append_assoc];rfl) (fun C hC=>(ah hC).elim (hp C) fun q=>ae q▸hn) (fun x hx=>(ah hx).elim (hs x) (nc (fun k _=>m9 (ng qy (ng (m9 (nc fun _ _=>AM)) (ng qy (ng qy AL))))) x)) (by rw [List.length_append,length_map];exact le_trans (le_of_eq (add_assoc ..)) hX)
    rw [List.length_append] at this
    exact this
   refine gD (xY (CK c (.head _)) (n+22)) ?_
   cases hr:EN (th M s) (c::r) with
   |false=>
    rw [show (!r.isEmpty||decide (c∈th M s c))=false from hr]
    exact go 0 fun q=>absurd (hr.symm.trans q) (by decide)
   |true=>
    rw [show (!r.isEmpty||decide (c∈th M s c))=true from hr]
    refine bY (xH CK ?_ (sQ O G hu (n+2))) ?_
    .rw [length_cons,length_map];exact le_trans (succ_le_succ (qH G)) (by decide)
    rintro _ _ ⟨rfl,⟨rfl,h⟩ | ⟨j,h1,rfl,h2⟩⟩
    .refine bY (xq O G U S CK (H.scc _ (mem_append_right _ (.head _))) (Do H hc hr) h (n+1)) ?_
     rintro _ _ ⟨rfl,P,R,rfl,B⟩
     exact cR ⟨rfl,.inr ⟨K,P,R,rfl,S,B⟩⟩
    .exact go j fun _=>⟨j,h1,h2⟩
 exact lp Cs [] [] none none none rfl (fun _ h=>nomatch h) (fun _ h=>nomatch h) (by rw [length_nil,zero_add];exact le_trans (aY H.nd H.sub) (le_trans k1 (by decide)))
end
section
variable {M:Mc} {s:Sy}
noncomputable def lw (ms:List Str)(b:Nat)(t:Nat):Str:=(ms[it ms.length b t 0]?).getD default
structure Ir (M:Mc) (p:Nat->Nat):Prop where
 fst:p 0∈M.firsts
 nxt:∀i,p (i+1)∈M.road (p i)
theorem qS {k y:Kn}:y∈th M s k↔y.p∈M.road k.p/\y.g.length=(bonds s).length/\q6 (bonds s) (M.mark k.p) k.g (M.mark y.p) y.g=true:=by
 constructor
 .intro h
  obtain ⟨q,h1,h2⟩:=mem_flatMap.mp h
  obtain ⟨g,h3,rfl⟩:=aT h2
  obtain ⟨h4,h5⟩:=cb h3
  exact ⟨h1,gJ h4,h5⟩
 .exact fun h=>mem_flatMap.mpr ⟨y.p,h.1,eu ⟨y.g,dA ⟨oV h.2.1,h.2.2⟩,rfl⟩⟩
theorem y2 (H:Cm M s){p:Nat->Nat}(R:Ir M p):Sem (fun i=>M.mark (p i)) s 0:=by
 obtain ⟨K,Cs,S,C,cov,hC⟩:=H.ex
 refine Classical.byContradiction fun no=>?_
 let w:Nat->Str:=fun i=>M.mark (p i)
 let κ:Nat->Kn:=fun i=>⟨p i,Ar w (bonds s) i⟩
 have tl:∀i,(Ar w (bonds s) i).length=(bonds s).length:=fun i=>length_map ..
 have h1:∀i,κ (i+1)∈th M s (κ i):=fun i=>qS.mpr ⟨R.nxt i,tl _,zl i⟩
 have h0:∀i,κ i∈K:=fun i=>by
  induction i with
  |zero=>
   have:=S.pre.subset ((n4 (k:=κ 0)).mpr ⟨R.fst,tl 0,Bool.eq_false_iff.mpr fun q=>no ((eT 0 s (fk s)).mp q)⟩)
   rw [append_nil] at this;exact this
  |succ i ih=>have:=S.clo _ ih _ (h1 i);rw [append_nil] at this;exact this
 obtain ⟨D,hD,N,hN⟩:=C.stay cov h0 h1
 have rd:EN (th M s) D=true:=by
  have a:=hN N (le_refl _)
  have b:=hN (N+1) (le_succ _)
  have e:=h1 N
  obtain _ | ⟨c,_ | ⟨d,r⟩⟩:=D
  .cases a
  .rw [ae a,ae b] at e
   show (!true||decide (c∈th M s c))=true
   rw [decide_eq_true e];rfl
  .rfl
 obtain ⟨j,hj,hm⟩:=hC D hD rd
 obtain _ |j:=j
 .cases hm _ (hN N (le_refl _))
 .have hj:j < (sD s).length:=by rw [length_cons,length_map] at hj;exact Nat.lt_of_succ_lt_succ hj
  have m1:=cb (getElem_mem hj)
  obtain ⟨i,hi,hx⟩:=A6 (w:=w) m1.1 N
  have:=hm _ (hN i hi)
  have e:sP M s (κ i) (j+1)=met (bonds s) (w i) (Ar w (bonds s) i) (sD s)[j]:=by
   show (match (sD s)[j]? with |some x=>met (bonds s) (M.mark (p i)) (Ar w (bonds s) i) x |none=>true)=_
   rw [getElem?_eq_getElem hj]
  rw [e,hx] at this
  cases this
theorem kj {n b t i:Nat}:it n b (t+1) i=nx n b (it n b t i):=fL t 1 i
theorem B6 {K P R:List Kn}(B:GW M s K P R):∃p,Ir M p/\(fun i=>M.mark (p i))=lw ((P++R).map fun k=>M.mark k.p) P.length/\¬Sem (fun i=>M.mark (p i)) s 0:=by
 have hb:=B.lasso.lt
 have h0:0 < (P++R).length:=lt_of_le_of_lt (zero_le _) hb
 have lt:=fun t=>p8 hb t 0 h0
 let κ:Nat->Kn:=fun t=>(P++R)[it (P++R).length P.length t 0]'(lt t)
 have hκ:∀t,(P++R)[it (P++R).length P.length t 0]?=some (κ t):=fun t=>getElem?_eq_getElem (lt t)
 have h1:∀i,κ (i+1)∈th M s (κ i):=fun i=>B.lasso.step (hκ i) (by rw [<-kj];exact hκ (i+1))
 obtain ⟨a,ha,hs⟩:=B.lasso.hd
 have e0:κ 0=a:=Option.some.inj ((hκ 0).symm.trans (by rw [<-ha,head?_eq_getElem?];rfl))
 obtain ⟨s1,s2,s3⟩:=n4.mp hs
 refine ⟨fun t=>(κ t).p,⟨by rw [e0];exact s1,fun i=>(qS.mp (h1 i)).1⟩,?_,fun q=>?_⟩
 .funext t
  rw [lw,length_map,getElem?_map,hκ t];rfl
 .have:=(cX (w:=fun i=>M.mark (κ i).p) (γ:=fun i=>(κ i).g) (fun i=>(qS.mp (h1 i)).2.2) (fun x hx i=>?_) s (fk s) 0).mpr q
  .rw [e0,s3] at this;cases this
  .have main:HZ x=true->∃j,i<=j/\met (bonds s) (M.mark (κ j).p) (κ j).g x=true:=fun hP=>by
    have px:x∈sD s:=dA ⟨hx,hP⟩
    obtain ⟨j,hj,e⟩:=List.getElem_of_mem px
    obtain ⟨y,hy,hm⟩:=B.met (j+1) (by rw [length_cons,length_map];exact Nat.succ_lt_succ hj)
    have hm:(match (sD s)[j]? with |some x=>met (bonds s) (M.mark y.p) y.g x |none=>true)=true:=hm
    rw [getElem?_eq_getElem hj,e] at hm
    obtain ⟨r,hr,ey⟩:=List.getElem_of_mem hy
    obtain ⟨t,ht⟩:=jw (i:=it (P++R).length P.length i 0) (j:=P.length+r) hb (lt i) (le_add_right _ _) (by rw [List.length_append];exact Nat.add_lt_add_left hr _)
    have:κ (i+t)=y:=by
     refine Option.some.inj ((hκ (i+t)).symm.trans ?_)
     rw [fL,ht,getElem?_append_right (le_add_right _ _),Nat.add_sub_cancel_left,getElem?_eq_getElem hr,ey]
    exact ⟨i+t,le_add_right _ _,by rw [this];exact hm⟩
   rcases fy hx with ⟨a,rfl⟩ | ⟨a,c,rfl⟩ | ⟨a,rfl⟩
   .exact ⟨i,le_refl _,rfl⟩
   .exact main rfl
   .exact main rfl
end
noncomputable abbrev bT (n:Nat)(f:Nat->Bool):T:=.lst ((List.range n).map fun i=>.bool (f i))
section
variable {n:Nat} {f g:Nat->Bool}
theorem kM (h:∀i,i < n->f i=g i):bT n f=bT n g:=congrArg T.lst (map_congr_left fun i hi=>by rw [h i (bp hi)])
theorem gr {i:Nat}(h:i < n)(hn:n<=lim):au (bT n f) (.int i)=some (.bool (f i)):=bF (e:=fun i=>T.bool (f i)) (getElem?_range h) (le_trans (le_of_lt h) hn)
theorem Ev {i:Nat}{v:Bool}(h:i < n):ur (bT n f) (.int i) (.bool v)=some (bT n fun x=>if x=i then v else f x):=by
 show (bif decide ((0:Int)<=i)&&decide ((i:Int) < (((List.range n).map fun i=>T.bool (f i)).length:Nat)) then some (T.lst (((List.range n).map fun i=>T.bool (f i)).set i (.bool v))) else none)=_
 rw [length_map,length_range,decide_eq_true (natCast_nonneg i),decide_eq_true (cH h)]
 refine congrArg (fun l=>some (T.lst l)) (List.ext_getElem? fun j=>?_)
 rw [List.getElem?_set,length_map,length_range,getElem?_map,getElem?_map]
 by_cases e:i=j
 .subst e
  rw [if_pos rfl,if_pos h,getElem?_range h]
  show _=some (T.bool (if i=i then v else f i))
  rw [if_pos rfl]
 .rw [if_neg e]
  by_cases hj:j < n
  .rw [getElem?_range hj]
   show _=some (T.bool (if j=i then v else f j))
   rw [if_neg fun q=>e q.symm];rfl
  .rw [getElem?_eq_none (by rw [length_range];exact le_of_not_lt hj)];rfl
noncomputable def dl:Nat->List T
 | 0=>[]
 |m+1=>nT m::dl m
theorem F1 {n:Nat}(hn:n<=100000):EQ [.int ((n:Int) - 1),.int (-1),.int (-1)]=some (dl n):=by
 have e:∀m:Nat,((List.range m).map fun k:Nat=>T.int (((m:Int) - 1)+(k:Nat) * (-1)))=dl m:=fun m=>by
  induction m with
  |zero=>rfl
  |succ m ih=>
   rw [List.range_succ_eq_map,map_cons,map_map,show dl (_+1)=_::dl _ from rfl,<-ih]
   exact congr (congrArg _ (congrArg T.int (by lia -abstractProof))) (map_congr_left fun k _=>congrArg T.int (by show ((m+1:Nat):Int) - 1+((k+1:Nat):Int) * (-1)=_;lia))
 have s:Builtin.Range.rangeSize ((n:Int) - 1) (-1) (-1)=n:=by
  unfold Builtin.Range.rangeSize
  simp only [show ¬((-1:Int) > 0) by decide,if_false]
  rw [show ((n:Int) - 1 - -1 - 1) / (- -1)=(n:Int) - 1 by rw [show (- -1:Int)=1 from rfl,ediv_one];lia -abstractProof]
  split<;>lia -abstractProof
 unfold EQ
 show dn _ _ _=_
 have r:cY ((n:Int) - 1) (-1) (-1)=dl n:=by rw [cY,s];exact e n
 have l:(dl n).length=n:=by rw [<-e n,length_map,length_range]
 rw [dn,r,l,show cT n=true from ble_eq_true_of_le (le_trans hn (by decide)),show sm ((n:Int) - 1)=true from ble_eq_true_of_le (by lia -abstractProof)];rfl
variable {b:Nat} {p q h:Nat->Bool} {σ:Sg}
theorem Du {x y z:Bool}{c:cr}{ρ:aW}{l m r:PE}{k:PK T}{o:cg}(h1:∀k,l c ρ σ k=k (.bool x) σ)(h2:∀k,m c ρ σ k=k (.bool y) σ)(h3:∀k,r c ρ σ k=k (.bool z) σ)(hk:k (.bool (x||(y&&z))) σ=o):xB l (jj m r) c ρ σ k=o:=by
 show l c ρ σ _=o
 rw [h1]
 cases x with
 |true=>exact hk
 |false=>
  show m c ρ σ _=o
  rw [h2]
  cases y with
  |false=>exact hk
  |true=>exact (h3 _).trans hk
theorem vA (hb:b < n)(hn:n<=1000){k:Nat}(hh:h b=U n b p q k b){c:cr}{x4:Option T}:∀(m:Nat),m<=n->∀(x5 x6:Option T) {κ:PK aW} {o:cg},(∀x5 x6,κ [some (bT n p),some (bT n q),some (nT b),some (bT n fun i=>U n b p q (n - i+k) i),x4,x5,x6] σ=o)->
  cD (bj 5) (af (aG 6 (Fi (p2 ck (pV 5) (p2 d5 (p1 ba (pV 0)) (pC (.int 1)))) (pV 2) (p2 bc (pV 5) (pC (.int 1))))) (af (ud 3 ur (pV 5) (xB (p2 au (pV 1) (pV 5)) (jj (p2 au (pV 0) (pV 5)) (p2 au (pV 3) (pV 6))))) an))
   c (dl m) [some (bT n p),some (bT n q),some (nT b),some (bT n fun i=>if m<=i then U n b p q (n - i+k) i else h i),x4,x5,x6] σ κ=o:=by
 have nl:n<=lim:=le_trans hn (by decide)
 intro m
 induction m with
 |zero=>exact fun _ x5 x6 _ _ hk=>hk x5 x6
 |succ m ih=>
  intro hm x5 x6 κ o hk
  have step:∀z,z=U n b p q (n - (m+1)+k) (nx n b m)->(bT n fun x=>if x=m then (q m||(p m&&z)) else (if m+1<=x then U n b p q (n - x+k) x else h x))=bT n fun x=>if m<=x then U n b p q (n - x+k) x else h x:=fun z hz=>kM fun i hi=>by
   by_cases e:i=m
   .rw [if_pos e,if_pos (le_of_eq e.symm),e,hz,show n - m+k=(n - (m+1)+k)+1 by lia];rfl
   .rw [if_neg e]
    by_cases l:m<=i
    .rw [if_pos l,if_pos (by lia -abstractProof)]
    .rw [if_neg l,if_neg (by lia)]
  have go:∀(j:Nat) (z:Bool),j < n->(if m+1<=j then U n b p q (n - j+k) j else h j)=z->z=U n b p q (n - (m+1)+k) (nx n b m)->af (ud 3 ur (pV 5) (xB (p2 au (pV 1) (pV 5)) (jj (p2 au (pV 0) (pV 5)) (p2 au (pV 3) (pV 6))))) an c [some (bT n p),some (bT n q),some (nT b),some (bT n fun i=>if m+1<=i then U n b p q (n - i+k) i else h i),x4,some (nT m),some (nT j)] σ
    (fun ρ σ=>cD (bj 5) (af (aG 6 (Fi (p2 ck (pV 5) (p2 d5 (p1 ba (pV 0)) (pC (.int 1)))) (pV 2) (p2 bc (pV 5) (pC (.int 1))))) (af (ud 3 ur (pV 5) (xB (p2 au (pV 1) (pV 5)) (jj (p2 au (pV 0) (pV 5)) (p2 au (pV 3) (pV 6))))) an)) c (dl m) ρ σ κ)=o:=fun j z hj ez hz=>by
   refine Du (fun _=>mt (gr hm nl) rfl) (fun _=>mt (gr hm nl) rfl) (fun _=>mt (gr hj nl) rfl) (mt (Ev hm) ?_)
   have:=ih (le_of_lt hm) (some (nT m)) (some (nT j)) hk
   rw [<-step z hz,<-ez] at this
   exact this
  by_cases e:m+1=n
  .refine eh (Option.some.inj (show ck (nT m) (.int (((((List.range n).map fun i=>T.bool (p i)).length:Nat):Int) - 1))=some true from ?_)) (go b _ hb rfl ?_)
   .rw [fO,length_map,length_range,decide_eq_true (by lia)]
   .rw [if_neg (by lia -abstractProof),hh,nx,if_pos e,show n - (m+1)+k=k by lia]
  .refine aL (Option.some.inj (show ck (nT m) (.int (((((List.range n).map fun i=>T.bool (p i)).length:Nat):Int) - 1))=some false from ?_)) (go (m+1) _ (by lia) rfl ?_)
   .rw [fO,length_map,length_range,decide_eq_false (by lia)]
   .rw [if_pos (le_refl _),nx,if_neg e]
end
theorem ya {n:Nat}(hn:n<=1000)(v:Bool):ma (.lst [.bool v]) (.int n)=some (bT n fun _=>v):=by
 unfold ma
 show (bif decide ((0:Int)<=n)&&(decide ((n:Int)<=1000)&&true) then some (T.lst (replicate n [T.bool v]).flatten) else none)=_
 rw [decide_eq_true (natCast_nonneg n),decide_eq_true (show (n:Int)<=1000 from b9 hn)]
 refine congrArg (fun l=>some (T.lst l)) ?_
 have:∀m,(replicate m [T.bool v]).flatten=(List.range m).map fun _=>T.bool v:=fun m=>by
  rw [List.map_const',length_range]
  induction m with
  |zero=>rfl
  |succ m ih=>rw [List.replicate_succ,flatten_cons,ih];rfl
 exact this n
theorem zZ {n:Nat}{f:Nat->Bool}:(((List.range n).map fun i=>T.bool (f i)).length:Nat)=n:=by rw [length_map,length_range]
section
variable {n b:Nat} {p q:Nat->Bool} {σ:Sg}
theorem jU (hb:b < n)(hn:n<=1000)(m:Nat):aj Ψ (m+1) 53 [bT n p,bT n q,nT b] σ=.ret (bT n fun i=>U n b p q (n - i+(n - b)) i) σ:=by
 have e1:EQ [.int (((((List.range n).map fun i=>T.bool (p i)).length:Nat):Int) - 1),.int (-1),.int (-1)]=some (dl n):=by rw [zZ];exact F1 (le_trans hn (by decide))
 have e2:ma (.lst [.bool false]) (.int (((List.range n).map fun i=>T.bool (p i)).length:Nat))=some (bT n fun _=>false):=by rw [zZ];exact ya hn false
 have f1:∀(h:Nat->Bool) (k:Nat),(bT n fun i=>if n<=i then U n b p q (n - i+k) i else h i)=bT n h:=fun h k=>kM fun i hi=>if_neg (dH hi)
 have p1:=fun {c x4}=>vA (σ:=σ) (h:=fun _=>false) (k:=0) hb hn (p:=p) (q:=q) rfl (c:=c) (x4:=x4) n (le_refl _)
 have p2:=fun {c x4}=>vA (σ:=σ) (h:=fun i=>U n b p q (n - i+0) i) (k:=n - b) hb hn (p:=p) (q:=q) rfl (c:=c) (x4:=x4) n (le_refl _)
 rw [f1] at p1 p2
 exact tC (mt e2 (mt (gh (n:=2) (by decide)) (mt e1 (p1 none none fun x5 x6=>mt e1 (p2 x5 x6 fun x5 x6=>rfl)))))
end
section
variable {ms:List Str} {b:Nat} {σ:Sg}
noncomputable def fW (ms:List Str)(b:Nat)(s:Sy)(i:Nat):Bool:=@decide (Sem (lw ms b) s i) (Classical.propDecidable _)
theorem bf {s:Sy}{i:Nat}:fW ms b s i=true↔Sem (lw ms b) s i:=@decide_eq_true_iff _ (Classical.propDecidable _)
theorem wX {n b:Nat}(hb:b < n):∀i,i < n->it n b i 0=i:=by
 intro i
 induction i with
 |zero=>exact fun _=>rfl
 |succ i ih=>exact fun h=>by rw [kj,ih (Nat.lt_of_succ_lt h),nx,if_neg (Nat.ne_of_lt h)]
theorem ui (hb:b < ms.length)(s:Sy)(t:Nat):Sem (lw ms b) s t↔Sem (lw ms b) s (it ms.length b t 0):=by
 refine cv s _ _ fun j=>?_
 have lt:=p8 hb t 0 (lt_of_le_of_lt (zero_le _) hb)
 rw [lw,lw,fL,fL,wX hb _ lt]
theorem iu (hb:b < ms.length)(s:Sy){i t:Nat}(hi:i < ms.length):Sem (lw ms b) s (i+t)↔fW ms b s (it ms.length b t i)=true:=by
 rw [bf,ui hb,fL,wX hb _ hi]
theorem pL (hb:b < ms.length){a c:Sy}{i:Nat}(hi:i < ms.length):U ms.length b (fW ms b a) (fW ms b c) (ms.length - i+(ms.length - b)) i=fW ms b (.till a c) i:=by
 rw [Bool.eq_iff_iff,bf]
 constructor
 .intro h
  obtain ⟨t,_,h1,h2⟩:=tV.mp h
  exact ⟨t,(iu hb c hi).mpr h1,fun u hu=>(iu hb a hi).mpr (h2 u hu)⟩
 .rintro ⟨t,h1,h2⟩
  exact Ak (Nat.add_le_add_right (Nat.sub_le_sub_right (le_of_lt hb) i) _) (wf hb hi t ((iu hb c hi).mp h1) fun u hu=>(iu hb a hi).mp (h2 u hu))
theorem lT (hb:b < ms.length){a:Sy}{i:Nat}(hi:i < ms.length):(!U ms.length b (fun _=>true) (fun j=>!fW ms b a j) (ms.length - i+(ms.length - b)) i)=fW ms b (.always a) i:=by
 rw [Bool.eq_iff_iff,bf,not_eq_true',<-not_eq_true]
 constructor
 .intro h t
  refine (iu hb a hi).mpr ?_
  cases e:fW ms b a (it ms.length b t i) with
  |true=>rfl
  |false=>exact absurd (Ak (Nat.add_le_add_right (Nat.sub_le_sub_right (le_of_lt hb) i) _) (wf (p:=fun _=>true) (q:=fun j=>!fW ms b a j) hb hi t (by rw [e];rfl) fun _ _=>rfl)) h
 .intro h q
  obtain ⟨t,_,h1,_⟩:=tV.mp q
  rw [(iu hb a hi).mp (h t)] at h1;cases h1
theorem nq (hb:b < ms.length){a:Sy}{i:Nat}(hi:i < ms.length):((List.range ms.length).drop b).any (fW ms b a)=fW ms b (.again a) i:=by
 rw [Bool.eq_iff_iff,bf,any_eq_true]
 constructor
 .rintro ⟨j,hj,h⟩ t
  obtain ⟨h1,h2⟩:=iL.mp hj
  obtain ⟨u,hu⟩:=jw hb (p8 hb t i hi) h1 h2
  refine ⟨u,?_⟩
  rw [add_assoc,iu hb a hi,fL,hu];exact h
 .intro h
  obtain ⟨t,ht⟩:=jw hb hi (le_refl b) hb
  obtain ⟨u,hu⟩:=h t
  rw [add_assoc,iu hb a hi,fL,ht] at hu
  exact ⟨_,iL.mpr ⟨wu hb (le_refl _) hb u,p8 hb u _ hb⟩,hu⟩
end
theorem rq {n b:Nat}(h:b<=n):clipAt n (b:Int)=b:=(kH n b).trans (Nat.min_eq_left h)
theorem zB {α:Type}{b:Nat}{l:List α}(h:b<=l.length):cut (some (b:Int)) none l=l.drop b:=by
 show (l.drop (clipAt l.length b)).take (l.length - clipAt l.length b)=_
 rw [rq h,<-length_drop,take_length]
section
variable {n b:Nat} {f g:Nat->Bool}
theorem tL (f:Nat->Bool):∀l:List Nat,iU (l.map fun i=>.bool (f i))=some (l.map f):=by
 intro l
 induction l with
 |nil=>rfl
 |cons i l ih=>show o2 (some (f i)) (iU (l.map fun i=>.bool (f i))) _=_;rw [ih];rfl
theorem qo (op:Bool->Bool->Bool):kY op (bT n f) (bT n g)=some (bT n fun i=>op (f i) (g i)):=by
 show o2 (iU ((List.range n).map fun i=>.bool (f i))) (iU ((List.range n).map fun i=>.bool (g i))) _=_
 rw [tL,tL]
 show some (T.lst ((zipWith op ((List.range n).map f) ((List.range n).map g)).map T.bool))=_
 rw [List.zipWith_map,List.zipWith_self,map_map];rfl
theorem AY (hb:b < n)(hn:n<=1000):bc (.lst (cut (some 1) none ((List.range n).map fun i=>T.bool (f i)))) (.lst [.bool (f b)])=some (bT n fun i=>f (nx n b i)):=by
 obtain ⟨k,rfl⟩:∃k,n=k+1:=⟨n - 1,by lia⟩
 have e:(List.range (k+1)).map (fun i=>T.bool (f (nx (k+1) b i)))=cut (some 1) none ((List.range (k+1)).map fun i=>T.bool (f i))++[.bool (f b)]:=by
  rw [tr,List.range_succ,map_append,map_cons,map_nil,nx,if_pos rfl]
  refine congrArg (·++_) ?_
  rw [<-List.range_succ,List.range_succ_eq_map,map_cons,map_map,List.drop_one,List.tail_cons]
  exact map_congr_left fun i hi=>by rw [nx,if_neg (by have:=bp hi;lia)];rfl
 show qg _ _=_
 rw [<-e]
 exact rA (by rw [length_map,length_range];exact le_trans hn (by decide))
end
noncomputable abbrev Ew (w:Str)(x:String)(b:Bool):Prop:=ck (.str w) (.str (ofString x))=some b
section
variable {σ:Sg} {c:cr} {t0 X Y r0 r1 v o:T} {w:Str} {ts ys:List T}
noncomputable abbrev I2 (t0 X Y:T)(w:Str):aW:=[some t0,some X,some Y,some (.str w),none,none,none,none,none,none,none,none]
noncomputable abbrev IH (c:cr)(t0 X Y:T)(w:Str)(ts ys:List T)(σ:Sg):Prop:=∀k:PK (List T),br (bj 8) aJ (aw 54 (aa (pV 8) (aa (pV 1) (aa (pV 2) ao)))) c (I2 t0 X Y w) ts σ [] k=k ys σ
theorem Ek {v:T}{a b r:cg}(h:a=r):(bif cT [v].length then a else b)=r:=h
theorem bB {bd:PB}{cond:PT}{elt:PE}{ρ:aW}{xs zs:List T}{k:PK (List T)}{r:cg}(h:∀k:PK (List T),br bd cond elt c ρ xs σ [] k=k zs σ)(hk:k zs σ=r):br bd cond elt c ρ xs σ [] k=r:=(h k).trans hk
variable (h0:au t0 (.int 0)=some (.str w)) (e1:Ew w "mark" false) (e2:Ew w "yes" false) (hP:c.call 2 [t0] σ=.ret (.lst ts) σ) (hC:IH c t0 X Y w ts ys σ)
include h0 e1 e2 hP hC
theorem Dr {xs zs:List T}(e3:Ew w "not" true)(hr:au (.lst ys) (.int 0)=some (.lst xs))(hN:∀(ρ:aW) (k:PK (List T)),(∀t,bV (ρ.set 9 (some t)) 9=some t)->br (bj 9) aJ (jC (pV 9)) c ρ xs σ [] k=k zs σ){k:PK aW}:gj c [some t0,some X,some Y,none,none,none,none,none,none,none,none,none] σ k=.ret (.lst zs) σ:=
 ab rfl (ab h0 (ab rfl (ab e1 (aL rfl (ab rfl (ab e2 (aL rfl (ab rfl (aB hP (ab rfl (bB hC (ab rfl (ab e3 (eh rfl (ab rfl (ab hr (ab rfl (bB (fun k=>hN _ k fun _=>rfl) rfl))))))))))))))))))
theorem Dt (e3:Ew w "not" false)(e4:Ew w "and" true)(hr:au (.lst ys) (.int 0)=some r0)(hr1:au (.lst ys) (.int 1)=some r1)(hz:kY (·&&·) r0 r1=some o){k:PK aW}:gj c [some t0,some X,some Y,none,none,none,none,none,none,none,none,none] σ k=.ret o σ:=
 ab rfl (ab h0 (ab rfl (ab e1 (aL rfl (ab rfl (ab e2 (aL rfl (ab rfl (aB hP (ab rfl (bB hC (ab rfl (ab e3 (aL rfl (ab rfl (ab e4 (eh rfl (ab rfl (ab hr (ab rfl (ab hr1 (ab hz rfl))))))))))))))))))))))
theorem Fj (e3:Ew w "not" false)(e4:Ew w "and" false)(e5:Ew w "or" true)(hr:au (.lst ys) (.int 0)=some r0)(hr1:au (.lst ys) (.int 1)=some r1)(hz:kY (·||·) r0 r1=some o){k:PK aW}:gj c [some t0,some X,some Y,none,none,none,none,none,none,none,none,none] σ k=.ret o σ:=
 ab rfl (ab h0 (ab rfl (ab e1 (aL rfl (ab rfl (ab e2 (aL rfl (ab rfl (aB hP (ab rfl (bB hC (ab rfl (ab e3 (aL rfl (ab rfl (ab e4 (aL rfl (ab rfl (ab e5 (eh rfl (ab rfl (ab hr (ab rfl (ab hr1 (ab hz rfl)))))))))))))))))))))))))
theorem AV (e3:Ew w "not" false)(e4:Ew w "and" false)(e5:Ew w "or" false)(e6:Ew w "next" true)(hr:au (.lst ys) (.int 0)=some r0)(hs:ci r0 (some 1) none=some r1)(hi:au r0 Y=some v)(ha:bc r1 (.lst [v])=some o){k:PK aW}:gj c [some t0,some X,some Y,none,none,none,none,none,none,none,none,none] σ k=.ret o σ:=
 ab rfl (ab h0 (ab rfl (ab e1 (aL rfl (ab rfl (ab e2 (aL rfl (ab rfl (aB hP (ab rfl (bB hC (ab rfl (ab e3 (aL rfl (ab rfl (ab e4 (aL rfl (ab rfl (ab e5 (aL rfl (ab rfl (ab e6 (eh rfl (ab rfl (ab hr (ab rfl (ab hs (ab rfl (ab hr (ab rfl (ab hi (Ek (ab ha rfl)))))))))))))))))))))))))))))))))
theorem AU (e3:Ew w "not" false)(e4:Ew w "and" false)(e5:Ew w "or" false)(e6:Ew w "next" false)(e7:Ew w "till" true)(hr:au (.lst ys) (.int 0)=some r0)(hr1:au (.lst ys) (.int 1)=some r1)(ht:c.call 53 [r0,r1,Y] σ=.ret o σ){k:PK aW}:gj c [some t0,some X,some Y,none,none,none,none,none,none,none,none,none] σ k=.ret o σ:=
 ab rfl (ab h0 (ab rfl (ab e1 (aL rfl (ab rfl (ab e2 (aL rfl (ab rfl (aB hP (ab rfl (bB hC (ab rfl (ab e3 (aL rfl (ab rfl (ab e4 (aL rfl (ab rfl (ab e5 (aL rfl (ab rfl (ab e6 (aL rfl (ab rfl (ab e7 (eh rfl (ab rfl (ab hr (ab rfl (ab hr1 (ab rfl (aB ht rfl))))))))))))))))))))))))))))))))
theorem wH {xs zs us vs:List T}(e3:Ew w "not" false)(e4:Ew w "and" false)(e5:Ew w "or" false)(e6:Ew w "next" false)(e7:Ew w "till" false)(e8:Ew w "always" true)(hl:ba X=some v)(hp:ma (.lst [.bool true]) v=some r1)(hr:au (.lst ys) (.int 0)=some (.lst xs))(hN:∀(ρ:aW) (j:Nat) (k:PK (List T)),(∀t,bV (ρ.set j (some t)) j=some t)->br (bj j) aJ (jC (pV j)) c ρ xs σ [] k=k zs σ)(ht:c.call 53 [r1,.lst zs,Y] σ=.ret (.lst us) σ)
  (hM:∀(ρ:aW) (j:Nat) (k:PK (List T)),(∀t,bV (ρ.set j (some t)) j=some t)->br (bj j) aJ (jC (pV j)) c ρ us σ [] k=k vs σ){k:PK aW}:gj c [some t0,some X,some Y,none,none,none,none,none,none,none,none,none] σ k=.ret (.lst vs) σ:=
 ab rfl (ab h0 (ab rfl (ab e1 (aL rfl (ab rfl (ab e2 (aL rfl (ab rfl (aB hP (ab rfl (bB hC (ab rfl (ab e3 (aL rfl (ab rfl (ab e4 (aL rfl (ab rfl (ab e5 (aL rfl (ab rfl (ab e6 (aL rfl (ab rfl (ab e7 (aL rfl (ab rfl (ab e8 (eh rfl (Ek (ab rfl (ab hl (ab hp (ab rfl (ab hr (ab rfl (bB (fun k=>hN _ _ k fun _=>rfl) (ab rfl (aB ht (ab rfl (ab rfl (bB (fun k=>hM _ _ k fun _=>rfl) rfl))))))))))))))))))))))))))))))))))))))))))
theorem yh {b:Int}(hY:Y=.int b)(e3:Ew w "not" false)(e4:Ew w "and" false)(e5:Ew w "or" false)(e6:Ew w "next" false)(e7:Ew w "till" false)(e8:Ew w "always" false)(hr:au (.lst ys) (.int 0)=some r0)(hs:ci r0 (some b) none=some r1)(hn:u9 r1=some v){x:T}(hl:ba X=some x)(hp:ma (.lst [v]) x=some o){k:PK aW}:gj c [some t0,some X,some Y,none,none,none,none,none,none,none,none,none] σ k=.ret o σ:=by
 subst hY
 exact ab rfl (ab h0 (ab rfl (ab e1 (aL rfl (ab rfl (ab e2 (aL rfl (ab rfl (aB hP (ab rfl (bB hC (ab rfl (ab e3 (aL rfl (ab rfl (ab e4 (aL rfl (ab rfl (ab e5 (aL rfl (ab rfl (ab e6 (aL rfl (ab rfl (ab e7 (aL rfl (ab rfl (ab e8 (aL rfl (ab rfl (ab hr (ab rfl (ab rfl (ab hs (ab hn (Ek (ab rfl (ab hl (ab hp rfl)))))))))))))))))))))))))))))))))))))))
end
section
variable {ms:List Str} {b:Nat} {σ:Sg}
theorem vn {a:Sy}{i:Nat}:(!fW ms b a i)=fW ms b (.not a) i:=by
 rw [Bool.eq_iff_iff,not_eq_true',<-not_eq_true,bf,bf];exact .rfl
theorem AT (hb:b < ms.length)(hn:ms.length<=1000):∀(m:Nat) (s:Sy),dep s<=m->aj Ψ (m+2) 54 [bx s,.lst (ms.map .str),nT b] σ=.ret (bT ms.length (fW ms b s)) σ:=by
 have ret:∀{f:Nat->Bool} {s:Sy},(∀i,i < ms.length->f i=fW ms b s i)->cg.ret (bT ms.length f) σ=.ret (bT ms.length (fW ms b s)) σ:=fun h=>by rw [kM h]
 have ml:(((ms.map T.str).length:Nat):Int)=ms.length:=by rw [length_map]
 have rep:∀v,ma (.lst [.bool v]) (.int (ms.map T.str).length)=some (bT ms.length fun _=>v):=fun v=>by rw [ml];exact ya hn v
 have over:∀f:Str->Bool,ms.map (fun x=>T.bool (f x))=(List.range ms.length).map fun i=>T.bool (f ((ms[i]?).getD default)):=fun f=>by
  refine List.ext_getElem? fun i=>?_
  rw [getElem?_map,getElem?_map]
  by_cases h:i < ms.length
  .rw [getElem?_range h]
   show _=some (T.bool (f ((ms[i]?).getD default)))
   rw [getElem?_eq_getElem h];rfl
  .rw [getElem?_eq_none (le_of_not_lt h),getElem?_eq_none (by rw [length_range];exact le_of_not_lt h)];rfl
 intro m
 induction m with
 |zero=>intro s h;exact absurd (g8 s) (dH (lt_succ_of_le h))
 |succ m ih=>
  intro s hs
  have H:∀p∈cZ s,aj Ψ (m+2) 54 [bx p,.lst (ms.map .str),nT b] σ=.ret (bT ms.length (fW ms b p)) σ:=fun p hp=>ih p (le_of_lt_succ (lt_of_lt_of_le (dX hp) hs))
  have P:=nN (σ:=σ) s (m+1)
  have C:∀{w:Str},IH ⟨aj Ψ (m+2)⟩ (bx s) (.lst (ms.map .str)) (nT b) w ((cZ s).map bx) ((cZ s).map fun p=>bT ms.length (fW ms b p)) σ:=fun k=>bw (e:=bx) (fun p=>bT ms.length (fW ms b p)) (fun p hp=>⟨_,rfl,fun κ=>aB (H p hp) rfl⟩) rfl
  have N:∀(f:Nat->Bool) (ρ:aW) (j:Nat) (k:PK (List T)),(∀t,bV (ρ.set j (some t)) j=some t)->br (bj j) aJ (jC (pV j)) ⟨aj Ψ (m+2)⟩ ρ ((List.range ms.length).map fun i=>.bool (f i)) σ [] k=k ((List.range ms.length).map fun i=>.bool (!f i)) σ:=fun f ρ j k h=>by
   refine bw (e:=fun i=>T.bool (f i)) (fun i=>.bool (!f i)) (fun i _=>⟨_,rfl,fun κ=>?_⟩) rfl
   show up (bV (List.set ρ j (some (.bool (f i)))) j) σ (fun t σ=>up ((dM t).map fun b=>T.bool (!b)) σ κ)=_
   rw [h];rfl
  cases s with
  |mark x=>
   refine hE (bw (e:=T.str) (fun y=>.bool (PyData.eqv (.str y) (.str x))) (fun y _=>⟨_,rfl,fun k=>rfl⟩) ?_)
   show cg.ret (.lst (ms.map fun y=>.bool (PyData.eqv (.str y) (.str x)))) σ=_
   rw [over]
   exact ret fun i hi=>by rw [Bool.eq_iff_iff,bf];show _↔PyData.eqv (.str (lw ms b i)) (.str x)=true;rw [lw,wX hb i hi]
  |yes=>
   refine hE (bw (e:=T.str) (fun _=>.bool true) (fun y _=>⟨_,rfl,fun k=>rfl⟩) ?_)
   show cg.ret (.lst (ms.map fun _=>.bool true)) σ=_
   rw [over fun _=>true]
   exact ret fun i hi=>((bf (s:=.yes)).mpr trivial).symm
  |not a=>exact hE ((Dr rfl rfl rfl P C rfl rfl fun ρ k=>N (fW ms b a) ρ 9 k).trans (ret fun i _=>vn))
  |and a c=>exact hE ((Dt rfl rfl rfl P C rfl rfl rfl rfl (qo _)).trans (ret fun i _=>by rw [Bool.eq_iff_iff,and_eq_true,bf,bf,bf];exact .rfl))
  |or a c=>exact hE ((Fj rfl rfl rfl P C rfl rfl rfl rfl rfl (qo _)).trans (ret fun i _=>by rw [Bool.eq_iff_iff,or_eq_true,bf,bf,bf];exact .rfl))
  |next a=>
   refine hE ((AV rfl rfl rfl P C rfl rfl rfl rfl rfl r9 (gr hb (le_trans hn (by decide))) (AY hb hn)).trans (ret fun i hi=>?_))
   rw [Bool.eq_iff_iff,bf,bf]
   show _↔Sem (lw ms b) a (i+1)
   rw [ui hb a (i+1),kj,wX hb i hi]
  |till a c=>exact hE ((AU rfl rfl rfl P C rfl rfl rfl rfl rfl rfl rfl (jU hb hn _)).trans (ret fun i hi=>pL hb hi))
  |always a=>exact hE ((wH rfl rfl rfl P C rfl rfl rfl rfl rfl rfl rfl (rep true) rfl (N (fW ms b a)) (jU hb hn _) (N _)).trans (ret fun i hi=>lT hb hi))
  |again a=>
   refine hE ((yh rfl rfl rfl P C (b:=(b:Int)) rfl rfl rfl rfl rfl rfl rfl rfl r9 ?_ rfl (rep (((List.range ms.length).drop b).any (fW ms b a)))).trans (ret fun i hi=>nq hb hi))
   rw [zB (by rw [length_map,length_range];exact le_of_lt hb),<-map_drop]
   exact any_map ((List.range ms.length).drop b) (fW ms b a)
theorem zi {w r:List Str}(hr:0 < r.length)(hn:(w++r).length<=1000){s:Sy}(hd:dep s<=20)(m:Nat):aj Ψ (m+24) 56 [bx s,.lst (w.map .str),.lst (r.map .str)] σ=.ret (.bool (fW (w++r) w.length s 0)) σ:=by
 have hb:w.length < (w++r).length:=by rw [List.length_append];lia -abstractProof
 have O:=AT (σ:=σ) hb hn (m+20) s (le_trans hd (le_add_left _ _))
 have e:bc (.lst (w.map .str)) (.lst (r.map .str))=some (.lst ((w++r).map .str)):=eC (by rw [<-List.length_append];exact le_trans hn (by decide))
 have R:aj Ψ (m+23) 55 [bx s,.lst (w.map .str),.lst (r.map .str)] σ=.ret (bT (w++r).length (fW (w++r) w.length s)) σ:=by
  refine zR (ab rfl (ab rfl (ab rfl (ab e (ab rfl (ab rfl (aB (t:=bT (w++r).length (fW (w++r) w.length s)) (σ:=σ) ?_ rfl)))))))
  rw [length_map];exact O
 exact B0 (ab rfl (ab rfl (ab rfl (aB R (ab (gr (i:=0) (lt_of_le_of_lt (zero_le _) hb) (le_trans hn (by decide))) rfl)))))
end
section
variable {σ:Sg} {c:cr} {t0 W R run r0 r1 v o:T} {w:Str} {ts ys rs zs:List T} {n:Nat}
noncomputable abbrev mF (t0 W R run:T)(w:Str)(y:Option T):aW:=[some t0,some W,some R,some (.str w),some run,y,none,none,none,none,none,none,none,none,none]
variable (h0:au t0 (.int 0)=some (.str w)) (hA:bc W R=some run) (e1:Ew w "mark" false) (e2:Ew w "yes" false) (hS:ci t0 (some 1) none=some (.tup ts)) (hC:∀k:PK (List T),br (bj 8) aJ (aw 46 (aa (pV 8) (aa (pV 1) (aa (pV 2) ao)))) c (mF t0 W R run w none) ts σ [] k=k ys σ)
include h0 hA e1 e2 hS hC
theorem DL (e3:Ew w "not" true){xs:List T}(hr:au (.lst ys) (.int 0)=some (.lst xs))(hN:∀k:PK (List T),br (bj 9) aJ (jC (pV 9)) c (mF t0 W R run w (some (.lst ys))) xs σ [] k=k zs σ){k:PK aW}:bA c [some t0,some W,some R,none,none,none,none,none,none,none,none,none,none,none,none] σ k=.ret (.lst zs) σ:=
 ab rfl (ab h0 (ab rfl (ab rfl (ab hA (ab rfl (ab e1 (aL rfl (ab rfl (ab e2 (aL rfl (ab rfl (ab rfl (ab hS (ab rfl (bB hC (ab rfl (ab e3 (eh rfl (ab rfl (ab hr (ab rfl (bB hN rfl))))))))))))))))))))))
theorem DM (e3:Ew w "not" false)(e4:Ew w "and" true)(hr:au (.lst ys) (.int 0)=some r0)(hr1:au (.lst ys) (.int 1)=some r1)(hz:kY (·&&·) r0 r1=some o){k:PK aW}:bA c [some t0,some W,some R,none,none,none,none,none,none,none,none,none,none,none,none] σ k=.ret o σ:=
 ab rfl (ab h0 (ab rfl (ab rfl (ab hA (ab rfl (ab e1 (aL rfl (ab rfl (ab e2 (aL rfl (ab rfl (ab rfl (ab hS (ab rfl (bB hC (ab rfl (ab e3 (aL rfl (ab rfl (ab e4 (eh rfl (ab rfl (ab hr (ab rfl (ab hr1 (ab hz rfl))))))))))))))))))))))))))
theorem FD (e3:Ew w "not" false)(e4:Ew w "and" false)(e5:Ew w "or" true)(hr:au (.lst ys) (.int 0)=some r0)(hr1:au (.lst ys) (.int 1)=some r1)(hz:kY (·||·) r0 r1=some o){k:PK aW}:bA c [some t0,some W,some R,none,none,none,none,none,none,none,none,none,none,none,none] σ k=.ret o σ:=
 ab rfl (ab h0 (ab rfl (ab rfl (ab hA (ab rfl (ab e1 (aL rfl (ab rfl (ab e2 (aL rfl (ab rfl (ab rfl (ab hS (ab rfl (bB hC (ab rfl (ab e3 (aL rfl (ab rfl (ab e4 (aL rfl (ab rfl (ab e5 (eh rfl (ab rfl (ab hr (ab rfl (ab hr1 (ab hz rfl)))))))))))))))))))))))))))))
theorem Ba (e3:Ew w "not" false)(e4:Ew w "and" false)(e5:Ew w "or" false)(e6:Ew w "next" true)(hl:ba run=some (.int n))(hg:vv [.int n]=some rs)(hX:∀k:PK (List T),br (bj 10) aJ (p2 au (p2 au (pV 5) (pC (.int 0))) (p2 au (aw 44 (aa (pV 1) (aa (pV 2) (aa (pV 10) ao)))) (pC (.int 1)))) c (mF t0 W R run w (some (.lst ys))) rs σ [] k=k zs σ){k:PK aW}:bA c [some t0,some W,some R,none,none,none,none,none,none,none,none,none,none,none,none] σ k=.ret (.lst zs) σ:=
 ab rfl (ab h0 (ab rfl (ab rfl (ab hA (ab rfl (ab e1 (aL rfl (ab rfl (ab e2 (aL rfl (ab rfl (ab rfl (ab hS (ab rfl (bB hC (ab rfl (ab e3 (aL rfl (ab rfl (ab e4 (aL rfl (ab rfl (ab e5 (aL rfl (ab rfl (ab e6 (eh rfl (ab rfl (ab hl (ab hg (bB hX rfl)))))))))))))))))))))))))))))))
theorem wQ (e3:Ew w "not" false)(e4:Ew w "and" false)(e5:Ew w "or" false)(e6:Ew w "next" false)(e7:Ew w "always" true)(hl:ba run=some (.int n))(hg:vv [.int n]=some rs)(hX:∀k:PK (List T),br (bj 11) aJ (pB (p2 eP (pC (.bool false)) (aV (bv (aw 44 (aa (pV 1) (aa (pV 2) (aa (pV 11) ao))))) (bj 12) aJ (p2 au (p2 au (pV 5) (pC (.int 0))) (pV 12))))) c (mF t0 W R run w (some (.lst ys))) rs σ [] k=k zs σ){k:PK aW}:bA c [some t0,some W,some R,none,none,none,none,none,none,none,none,none,none,none,none] σ k=.ret (.lst zs) σ:=
 ab rfl (ab h0 (ab rfl (ab rfl (ab hA (ab rfl (ab e1 (aL rfl (ab rfl (ab e2 (aL rfl (ab rfl (ab rfl (ab hS (ab rfl (bB hC (ab rfl (ab e3 (aL rfl (ab rfl (ab e4 (aL rfl (ab rfl (ab e5 (aL rfl (ab rfl (ab e6 (aL rfl (ab rfl (ab e7 (eh rfl (ab rfl (ab hl (ab hg (bB hX rfl))))))))))))))))))))))))))))))))))
theorem yI (e3:Ew w "not" false)(e4:Ew w "and" false)(e5:Ew w "or" false)(e6:Ew w "next" false)(e7:Ew w "always" false)(e8:Ew w "again" true)(hs:run=.lst rs)(hX:∀k:PK (List T),br (bj 13) aJ (pB (p2 lX (pC (.bool true)) (p3 ci (p2 au (pV 5) (pC (.int 0))) (p1 cN (p1 ba (pV 1))) jB))) c (mF t0 W R run w (some (.lst ys))) rs σ [] k=k zs σ){k:PK aW}:bA c [some t0,some W,some R,none,none,none,none,none,none,none,none,none,none,none,none] σ k=.ret (.lst zs) σ:=
 ab rfl (ab h0 (ab rfl (ab rfl (ab hA (ab rfl (ab e1 (aL rfl (ab rfl (ab e2 (aL rfl (ab rfl (ab rfl (ab hS (ab rfl (bB hC (ab rfl (ab e3 (aL rfl (ab rfl (ab e4 (aL rfl (ab rfl (ab e5 (aL rfl (ab rfl (ab e6 (aL rfl (ab rfl (ab e7 (aL rfl (ab rfl (ab e8 (eh rfl (ab rfl (ab (show ir run=some rs by rw [hs];rfl) (bB hX rfl))))))))))))))))))))))))))))))))))))
theorem A9 (e3:Ew w "not" false)(e4:Ew w "and" false)(e5:Ew w "or" false)(e6:Ew w "next" false)(e7:Ew w "always" false)(e8:Ew w "again" false)(hl:ba run=some (.int n))(hg:vv [.int n]=some rs)(hX:∀k:PK (List T),br (bj 14) aJ (aw 45 (aa (p2 au (pV 5) (pC (.int 0))) (aa (p2 au (pV 5) (pC (.int 1))) (aa (aw 44 (aa (pV 1) (aa (pV 2) (aa (pV 14) ao)))) ao)))) c (mF t0 W R run w (some (.lst ys))) rs σ [] k=k zs σ){k:PK aW}:bA c [some t0,some W,some R,none,none,none,none,none,none,none,none,none,none,none,none] σ k=.ret (.lst zs) σ:=
 ab rfl (ab h0 (ab rfl (ab rfl (ab hA (ab rfl (ab e1 (aL rfl (ab rfl (ab e2 (aL rfl (ab rfl (ab rfl (ab hS (ab rfl (bB hC (ab rfl (ab e3 (aL rfl (ab rfl (ab e4 (aL rfl (ab rfl (ab e5 (aL rfl (ab rfl (ab e6 (aL rfl (ab rfl (ab e7 (aL rfl (ab rfl (ab e8 (aL rfl (ab rfl (ab hl (ab hg (bB hX rfl)))))))))))))))))))))))))))))))))))))
end
section
variable {σ:Sg} {c:cr} {ρ:aW} {κ:PK T} {t0 W R run r0 r1 v mo j x:T} {w:Str} {ys zs xs:List T} {b:Int}
theorem Bb (h0:au t0 (.int 0)=some (.str w))(hA:bc W R=some run)(e1:Ew w "mark" true)(hs:ir run=some xs)(hX:∀k:PK (List T),br (bj 6) aJ (pB (p2 ck (pV 6) (p2 au (pV 0) (pC (.int 1))))) c (mF t0 W R run w none) xs σ [] k=k zs σ){k:PK aW}:bA c [some t0,some W,some R,none,none,none,none,none,none,none,none,none,none,none,none] σ k=.ret (.lst zs) σ:=ab rfl (ab h0 (ab rfl (ab rfl (ab hA (ab rfl (ab e1 (eh rfl (ab rfl (ab hs (bB hX rfl))))))))))
theorem DK (h0:au t0 (.int 0)=some (.str w))(hA:bc W R=some run)(e1:Ew w "mark" false)(e2:Ew w "yes" true)(hs:ir run=some xs)(hX:∀k:PK (List T),br (bj 7) aJ (pC (.bool true)) c (mF t0 W R run w none) xs σ [] k=k zs σ){k:PK aW}:bA c [some t0,some W,some R,none,none,none,none,none,none,none,none,none,none,none,none] σ k=.ret (.lst zs) σ:=ab rfl (ab h0 (ab rfl (ab rfl (ab hA (ab rfl (ab e1 (aL rfl (ab rfl (ab e2 (eh rfl (ab rfl (ab hs (bB hX rfl)))))))))))))
theorem BP (h5:bV ρ 5=some (.lst ys))(h1:bV ρ 1=some W)(h2:bV ρ 2=some R)(h10:bV ρ 10=some x)(hr:au (.lst ys) (.int 0)=some r0)(hc:c.call 44 [W,R,x] σ=.ret mo σ)(hm:au mo (.int 1)=some j)(hv:au r0 j=some v):p2 au (p2 au (pV 5) (pC (.int 0))) (p2 au (aw 44 (aa (pV 1) (aa (pV 2) (aa (pV 10) ao)))) (pC (.int 1))) c ρ σ κ=κ v σ:=
 ab h5 (ab hr (ab h1 (ab h2 (ab h10 (aB hc (ab hm (ab hv rfl)))))))
theorem FR (h5:bV ρ 5=some (.lst ys))(h12:bV ρ 12=some x)(hr:au (.lst ys) (.int 0)=some r0)(hv:au r0 x=some v):p2 au (p2 au (pV 5) (pC (.int 0))) (pV 12) c ρ σ κ=κ v σ:=ab h5 (ab hr (ab h12 (ab hv rfl)))
theorem xb {a:Bool}(h1:bV ρ 1=some W)(h2:bV ρ 2=some R)(h11:bV ρ 11=some x)(hc:c.call 44 [W,R,x] σ=.ret (.lst xs) σ)(hX:∀k:PK (List T),br (bj 12) aJ (p2 au (p2 au (pV 5) (pC (.int 0))) (pV 12)) c ρ xs σ [] k=k zs σ)(hn:eP (.bool false) (.lst zs)=some a):pB (p2 eP (pC (.bool false)) (aV (bv (aw 44 (aa (pV 1) (aa (pV 2) (aa (pV 11) ao))))) (bj 12) aJ (p2 au (p2 au (pV 5) (pC (.int 0))) (pV 12)))) c ρ σ κ=κ (.bool a) σ:=
 ab h1 (ab h2 (ab h11 (aB hc (ab rfl (bB hX (ab hn rfl))))))
theorem zu {a:Bool}(h5:bV ρ 5=some (.lst ys))(hr:au (.lst ys) (.int 0)=some r0)(h1:bV ρ 1=some W)(hl:ba W=some (.int b))(hs:ci r0 (some b) none=some r1)(hi:lX (.bool true) r1=some a):pB (p2 lX (pC (.bool true)) (p3 ci (p2 au (pV 5) (pC (.int 0))) (p1 cN (p1 ba (pV 1))) jB)) c ρ σ κ=κ (.bool a) σ:=
 ab h5 (ab hr (ab h1 (ab hl (ab rfl (ab hs (ab hi rfl))))))
theorem BO (h5:bV ρ 5=some (.lst ys))(hr:au (.lst ys) (.int 0)=some r0)(hr1:au (.lst ys) (.int 1)=some r1)(h1:bV ρ 1=some W)(h2:bV ρ 2=some R)(h14:bV ρ 14=some x)(hc:c.call 44 [W,R,x] σ=.ret mo σ)(ht:c.call 45 [r0,r1,mo] σ=.ret v σ):aw 45 (aa (p2 au (pV 5) (pC (.int 0))) (aa (p2 au (pV 5) (pC (.int 1))) (aa (aw 44 (aa (pV 1) (aa (pV 2) (aa (pV 14) ao)))) ao))) c ρ σ κ=κ v σ:=
 ab h5 (ab hr (ab h5 (ab hr1 (ab h1 (ab h2 (ab h14 (aB hc (aB ht rfl))))))))
end
noncomputable abbrev DG (n b i:Nat):List Nat:=range' i (n - i)++range' b (n - b)
theorem uj {a n:Nat}(h:a<=n)(hn:n<=100000):vv [nT a,nT n]=some ((range' a (n - a)).map nT):=by
 have s:Builtin.Range.rangeSize a n 1=((n - a:Nat):Int):=by
  refine (if_pos (by decide)).trans ?_
  rcases Nat.lt_or_ge a n with q |q
  .rw [if_pos (cH q),ediv_one,Int.sub_add_cancel,Int.ofNat_sub h]
  .rw [if_neg (not_lt.mpr (b9 q)),Nat.sub_eq_zero_of_le q];rfl
 have e:cY a n 1=(range' a (n - a)).map nT:=by
  rw [cY,s,List.range'_eq_map_range,map_map]
  exact map_congr_left fun k _=>congrArg T.int (by rw [Int.mul_one];rfl)
 unfold vv
 show rg a n=_
 rw [rg,e,jv (by rw [bC];lia),jv (by rw [bC];lia),length_map,List.length_range',show cT (n - a)=true from ble_eq_true_of_le (by rw [bC];lia)];rfl
section
variable {σ:Sg} {ws rs:List T} {n b i:Nat} {p q:Nat->Bool}
theorem Ah (hw:ws.length=b)(hr:ws.length+rs.length=n)(hi:i<=n)(hn:n<=1000)(m:Nat):aj Ψ (m+1) 44 [.lst ws,.lst rs,nT i] σ=.ret (.lst ((DG n b i).map nT)) σ:=by
 have l1:ba (.lst ws)=some (nT b):=by rw [<-hw];unfold ba;rfl
 have l2:ba (.lst rs)=some (.int rs.length):=by unfold ba;rfl
 have e:bc (nT b) (.int rs.length)=some (nT n):=by unfold bc;exact congrArg (fun z=>some (T.int z)) (by lia)
 have hb:b<=n:=by lia
 have cp:∀{c:cr} {ρ:aW} {j:Nat} {l:List Nat} {k:PK (List T)} {o:cg},(∀t,bV (ρ.set j (some t)) j=some t)->k (l.map nT) σ=o->br (bj j) aJ (pV j) c ρ (l.map nT) σ [] k=o:=fun {c ρ j l k o} h hk=>by
  refine bw (e:=nT) nT (fun x _=>⟨_,rfl,fun κ=>?_⟩) hk
  show up (bV (List.set ρ j (some (nT x))) j) σ κ=_
  rw [h];unfold up;rfl
 refine rF (ab rfl (ab l1 (ab rfl (ab l2 (ab e (ab rfl (ab rfl (ab (uj hi (le_trans hn (by decide))) (cp (fun _=>rfl) (ab rfl (ab l1 (ab rfl (ab (uj hb (le_trans hn (by decide))) (cp (fun _=>rfl) (ab (eC (e:=nT) (l:=range' i (n - i)) (q:=range' b (n - b)) ?_) rfl)))))))))))))))
 rw [List.length_range',List.length_range',bC];lia
theorem sW (hn:n<=1000)(m:Nat){mo:List Nat}(hm:∀x∈mo,x < n):aj Ψ (m+1) 45 [bT n p,bT n q,.lst (mo.map nT)] σ=.ret (.bool (l9 p q mo)) σ:=by
 have lp:∀(l:List Nat) (x3:Option T) (k:PK aW),(∀x∈l,x < n)->(∀x3,k [some (bT n p),some (bT n q),some (.lst (mo.map nT)),x3] σ=.ret (.bool false) σ)->
   cD (bj 3) (af (bK (qE (p2 au (pV 1) (pV 3))) (af (aH (pC (.bool true))) an) an) (af (bK (dK (qE (p2 au (pV 0) (pV 3)))) (af (aH (pC (.bool false))) an) an) an)) ⟨aj Ψ m⟩ (l.map nT) [some (bT n p),some (bT n q),some (.lst (mo.map nT)),x3] σ k=.ret (.bool (l9 p q l)) σ:=fun l=>by
  induction l with
  |nil=>exact fun x3 k _ hk=>hk x3
  |cons x l ih=>
   intro x3 k hl hk
   have nl:n<=lim:=le_trans hn (by decide)
   have hx:=hl x (.head _)
   have e:=ih (some (nT x)) k (fun y hy=>hl y (.tail _ hy)) hk
   refine zo (v:=nT x) (l:=l.map nT) rfl (ab rfl (ab rfl (ab (gr hx nl) (ab rfl ?_))))
   rw [show l9 p q (x::l)=(q x||(p x&&l9 p q l)) from rfl]
   cases q x with
   |true=>exact eh rfl rfl
   |false=>
    refine aL rfl (ab rfl (ab rfl (ab (gr hx nl) (ab rfl ?_))))
    cases p x with
    |true=>exact aL rfl e
    |false=>exact eh rfl rfl
 exact tJ (ab rfl (ab rfl (lp mo none _ hm fun _=>rfl)))
end
section
variable {n b i:Nat}
theorem yD (hb:b < n)(hi:i < n):∀x∈DG n b i,x < n:=fun x hx=>by
 rcases ah hx with h |h
 .have:=List.mem_range'_1.mp h;lia
 .have:=List.mem_range'_1.mp h;lia
theorem FB (hb:b < n)(hi:i < n):(DG n b i)[1]?=some (nx n b i):=by
 unfold nx
 show (range' i (n - i)++range' b (n - b))[1]?=_
 by_cases e:i+1=n
 .subst e;rw [if_pos rfl,Nat.add_sub_cancel_left,Nat.succ_sub (le_of_lt_succ hb),range'_succ,range'_succ];rfl
 .obtain ⟨d,rfl⟩:=exists_eq_add_of_le (show i+2<=n from Nat.lt_of_le_of_ne hi e)
  rw [if_neg e,add_assoc,Nat.add_sub_cancel_left,add_comm 2 d,range'_succ,range'_succ];rfl
end
section
variable {w r:List Str} {σ:Sg}
theorem A8 {α:Type}{f:α->Bool}{l:List α}:decide (true∈l.map f)=l.any f:=by
 rw [Bool.eq_iff_iff,decide_eq_true_iff,any_eq_true,mem_map]
theorem AX {α:Type}{f:α->Bool}{l:List α}:(!decide (false∈l.map f))=l.all f:=by
 rw [Bool.eq_iff_iff,not_eq_true',decide_eq_false_iff_not,all_eq_true,mem_map]
 exact ⟨fun h x hx=>by cases e:f x with |true=>rfl |false=>exact absurd ⟨x,hx,e⟩ h,fun h ⟨x,hx,e⟩=>by rw [h x hx] at e;cases e⟩
theorem yH (hr:0 < r.length)(hn:(w++r).length<=1000):∀(m:Nat) (s:Sy),dep s<=m->aj Ψ (m+2) 46 [bx s,.lst (w.map .str),.lst (r.map .str)] σ=.ret (bT (w++r).length (fW (w++r) w.length s)) σ:=by
 have hb:w.length < (w++r).length:=by rw [List.length_append];lia
 have nl:(w++r).length<=lim:=le_trans hn (by decide)
 have hA:bc (.lst (w.map .str)) (.lst (r.map .str))=some (.lst ((w++r).map .str)):=eC (by rw [<-List.length_append];exact nl)
 have hl:ba (.lst ((w++r).map T.str))=some (.int (w++r).length):=congrArg (fun z:Nat=>some (T.int z)) (length_map ..)
 have hg:vv [.int (w++r).length]=some ((List.range (w++r).length).map nT):=gh (le_trans hn (by decide))
 have ret:∀{f:Nat->Bool} {s:Sy},(∀i,i < (w++r).length->f i=fW (w++r) w.length s i)->cg.ret (bT (w++r).length f) σ=.ret (bT (w++r).length (fW (w++r) w.length s)) σ:=fun h=>by rw [kM h]
 have over:∀f:Str->Bool,(w++r).map (fun x=>T.bool (f x))=(List.range (w++r).length).map fun i=>T.bool (f (((w++r)[i]?).getD default)):=fun f=>by
  refine List.ext_getElem? fun i=>?_
  rw [getElem?_map,getElem?_map]
  by_cases h:i < (w++r).length
  .rw [getElem?_range h]
   show _=some (T.bool (f (((w++r)[i]?).getD default)))
   rw [getElem?_eq_getElem h];rfl
  .rw [getElem?_eq_none (le_of_not_lt h),getElem?_eq_none (by rw [length_range];exact le_of_not_lt h)];rfl
 have after:∀{i:Nat} (m:Nat),i < (w++r).length->aj Ψ (m+1) 44 [.lst (w.map .str),.lst (r.map .str),nT i] σ=.ret (.lst ((DG (w++r).length w.length i).map nT)) σ:=fun m hi=>Ah (length_map ..) (by rw [length_map,length_map,List.length_append]) (le_of_lt hi) hn m
 intro m
 induction m with
 |zero=>intro s h;exact absurd (g8 s) (dH (lt_succ_of_le h))
 |succ m ih=>
  intro s hs
  have C:(∀x,s≠.mark x)->∀{v:Str} (k:PK (List T)),br (bj 8) aJ (aw 46 (aa (pV 8) (aa (pV 1) (aa (pV 2) ao)))) ⟨aj Ψ (m+2)⟩ (mF (bx s) (.lst (w.map .str)) (.lst (r.map .str)) (.lst ((w++r).map .str)) v none) ((cZ s).map bx) σ [] k=k ((cZ s).map fun p=>bT (w++r).length (fW (w++r) w.length p)) σ:=fun _ {v} k=>
   bw (e:=bx) (fun p=>bT (w++r).length (fW (w++r) w.length p)) (fun p hp=>⟨_,rfl,fun κ=>aB (ih p (le_of_lt_succ (lt_of_lt_of_le (dX hp) hs))) rfl⟩) rfl
  cases s with
  |mark x=>
   refine b8 ((Bb rfl hA rfl rfl fun k=>bw (e:=T.str) (fun y=>.bool (PyData.eqv (.str y) (.str x))) (fun y _=>⟨_,rfl,fun k=>rfl⟩) rfl).trans ?_)
   rw [over]
   exact ret fun i hi=>by rw [Bool.eq_iff_iff,bf];show _↔PyData.eqv (.str (lw (w++r) w.length i)) (.str x)=true;rw [lw,wX hb i hi]
  |yes=>
   refine b8 ((DK rfl hA rfl rfl rfl fun k=>bw (e:=T.str) (fun _=>.bool true) (fun y _=>⟨_,rfl,fun k=>rfl⟩) rfl).trans ?_)
   rw [over fun _=>true]
   exact ret fun i hi=>((bf (s:=.yes)).mpr trivial).symm
  |not a=>exact b8 ((DL rfl hA rfl rfl (by kernel_rfl) (C fun _ h=>nomatch h) rfl rfl fun k=>bw (e:=fun i=>T.bool (fW (w++r) w.length a i)) (fun i=>.bool (!fW (w++r) w.length a i)) (fun i _=>⟨_,rfl,fun κ=>rfl⟩) rfl).trans (ret fun i _=>vn))
  |and a c=>exact b8 ((DM rfl hA rfl rfl (by kernel_rfl) (C fun _ h=>nomatch h) rfl rfl rfl rfl (qo _)).trans (ret fun i _=>by rw [Bool.eq_iff_iff,and_eq_true,bf,bf,bf];exact .rfl))
  |or a c=>exact b8 ((FD rfl hA rfl rfl (by kernel_rfl) (C fun _ h=>nomatch h) rfl rfl rfl rfl rfl (qo _)).trans (ret fun i _=>by rw [Bool.eq_iff_iff,or_eq_true,bf,bf,bf];exact .rfl))
  |next a=>
   refine b8 ((Ba rfl hA rfl rfl (by kernel_rfl) (C fun _ h=>nomatch h) rfl rfl rfl rfl hl hg (fun k=>bw (e:=nT) (fun i=>.bool (fW (w++r) w.length a (nx (w++r).length w.length i))) (fun i hi=>⟨_,rfl,fun κ=>BP rfl rfl rfl rfl rfl (after (m+1) (bp hi)) (bF (FB hb (bp hi)) (by decide)) (gr (CD hb (bp hi)) nl)⟩) rfl)).trans (ret fun i hi=>?_))
   rw [Bool.eq_iff_iff,bf,bf]
   show _↔Sem (lw (w++r) w.length) a (i+1)
   rw [ui hb a (i+1),kj,wX hb i hi]
  |always a=>
   refine b8 ((wQ rfl hA rfl rfl (by kernel_rfl) (C fun _ h=>nomatch h) rfl rfl rfl rfl rfl hl hg (fun k=>bw (e:=nT) (fun i=>.bool ((DG (w++r).length w.length i).all (fW (w++r) w.length a))) (fun i hi=>⟨_,rfl,fun κ=>xb rfl rfl rfl (after (m+1) (bp hi)) (fun k=>bw (e:=nT) (fun x=>.bool (fW (w++r) w.length a x)) (fun x hx=>⟨_,rfl,fun κ=>FR rfl rfl rfl (gr (yD hb (bp hi) x hx) nl)⟩) rfl) ?_⟩) rfl)).trans (ret fun i hi=>?_))
   .rw [<-AX]
    exact kG.nin (by decide) (l:=(DG (w++r).length w.length i).map (fW (w++r) w.length a)) trivial (fun _ _=>trivial) (congrArg some (map_map ..).symm)
   .rw [<-lT hb hi,<-si hb hi,pN,Bool.not_not]
  |again a=>
   refine b8 ((yI rfl hA rfl rfl (by kernel_rfl) (C fun _ h=>nomatch h) rfl rfl rfl rfl rfl rfl rfl (fun k=>bw (e:=T.str) (fun _=>.bool (((List.range (w++r).length).drop w.length).any (fW (w++r) w.length a))) (fun x _=>⟨_,rfl,fun κ=>zu (b:=(w.length:Int)) rfl rfl rfl (congrArg (fun z:Nat=>some (T.int z)) (length_map ..)) r9 ?_⟩) rfl)).trans ?_)
   .rw [zB (by rw [length_map,length_range];exact le_of_lt hb),<-map_drop,<-A8]
    exact kG.mem (by decide) (l:=((List.range (w++r).length).drop w.length).map (fW (w++r) w.length a)) trivial (fun _ _=>trivial) (congrArg some (map_map ..).symm)
   .rw [over fun _=>((List.range (w++r).length).drop w.length).any (fW (w++r) w.length a)]
    exact ret fun i hi=>nq hb hi
  |till a c=>
   refine b8 ((A9 rfl hA rfl rfl (by kernel_rfl) (C fun _ h=>nomatch h) rfl rfl rfl rfl rfl rfl hl hg (fun k=>bw (e:=nT) (fun i=>.bool (l9 (fW (w++r) w.length a) (fW (w++r) w.length c) (DG (w++r).length w.length i))) (fun i hi=>⟨_,rfl,fun κ=>BO rfl rfl rfl rfl rfl rfl (after (m+1) (bp hi)) (sW hn _ (yD hb (bp hi)))⟩) rfl)).trans (ret fun i hi=>?_))
   rw [si hb hi];exact pL hb hi
end
theorem fN (a:Int){n:Nat}(h:0 < n):∃k:Nat,a.fmod (n:Int)=(k:Int)/\k < n:=by
 have h1:0<=a.fmod (n:Int):=Int.fmod_nonneg_of_pos _ (Int.natCast_pos.mpr h)
 have h2:a.fmod (n:Int) < (n:Int):=Int.fmod_lt_of_pos _ (Int.natCast_pos.mpr h)
 exact ⟨(a.fmod (n:Int)).toNat,(Int.toNat_of_nonneg h1).symm,(Int.toNat_lt h1).mpr h2⟩
theorem Lw.append {a b:Str}(ha:Lw a)(hb:Lw b):Lw (a++b):=fun c h=>by
 have e:(a++b).cps.toList=a.cps.toList++b.cps.toList:=by
  show (a.cps++b.cps).toList=_
  rw [Array.toList_append]
 rw [e] at h
 exact (ah h).elim (ha c) (hb c)
theorem Lw.cut {x:Str}{lo hi:Option Int}(h:Lw x):Lw (gF lo hi x):=fun c hc=>h c (List.mem_of_mem_drop (List.mem_of_mem_take hc))
theorem gM (a b:Str):(a++b).length=a.length+b.length:=Array.size_append ..
theorem Bl:∀k,k < 26->Ai.cps[k]?=some (97+k):=by decide+kernel
noncomputable def lt (x:Int):Str:=⟨#[97+(x.fmod 26).toNat]⟩
theorem yO (x:Int):au (.str Ai) (.int (x.fmod 26))=some (.str (lt x)):=by
 obtain ⟨k,h1,h2⟩:=fN x (n:=26) (by decide)
 have h1:x.fmod 26=(k:Int):=h1
 rw [lt,h1]
 show vh k Ai=_
 rw [vh,jv (le_trans (le_of_lt h2) (by decide)),jY (show k < Ai.length from h2)]
 show (Ai.cps[k]?).map _=_
 rw [Bl k h2];rfl
theorem n6 (x:Int):Lw (lt x):=fun c h=>by
 obtain ⟨k,h1,h2⟩:=fN x (n:=26) (by decide)
 have h1:x.fmod 26=(k:Int):=h1
 have e:c=97+(x.fmod 26).toNat:=ae h
 rw [e,h1]
 exact and_eq_true_iff.mpr ⟨ble_eq_true_of_le (le_add_right _ _),ble_eq_true_of_le (by lia)⟩
theorem n7 (x:Int):(lt x).length=1:=rfl
noncomputable def AI (f:Nat->Int):Str:=Txt.join (ofString "") [lt (f 0),lt (f 1),lt (f 2),lt (f 3),lt (f 4),lt (f 5)]
theorem xT (f:Nat->Int):AI f=lt (f 0)++ofString ""++(lt (f 1)++ofString ""++(lt (f 2)++ofString ""++(lt (f 3)++ofString ""++(lt (f 4)++ofString ""++lt (f 5))))):=by
 show Builtin.Str.glued _ _=_
 rw [StrLaws.glued_eq_join];rfl
theorem rj:(ofString "").length=0:=by decide+kernel
theorem lz:Lw (ofString ""):=fun c h=>by
 have e:(ofString "").cps.toList=[]:=by decide+kernel
 rw [e] at h;cases h
theorem vp (f:Nat->Int):(AI f).length=6:=by
 rw [xT];simp only [gM,n7,rj]
theorem xS (f:Nat->Int):Lw (AI f):=by
 rw [xT]
 exact ((n6 _).append lz).append (((n6 _).append lz).append (((n6 _).append lz).append (((n6 _).append lz).append (((n6 _).append lz).append (n6 _)))))
theorem Bz (f:Nat->Int):vO (.str (ofString "")) (.lst [.str (lt (f 0)),.str (lt (f 1)),.str (lt (f 2)),.str (lt (f 3)),.str (lt (f 4)),.str (lt (f 5))])=some (.str (AI f)):=by
 have k:PyData.strOk (AI f)=true:=by
  have:=xS f
  exact Array.all_eq_true_iff_forall_mem.mpr fun c hc=>decide_eq_true (lt_of_le_of_lt (qZ (this c (Array.mem_toList_iff.mpr hc))).2 (by decide))
 show (bif JoinOk (ofString "") [lt (f 0),lt (f 1),lt (f 2),lt (f 3),lt (f 4),lt (f 5)]&&PyData.strOk (AI f)&&cT (AI f).length then some (T.str (AI f)) else none)=_
 rw [k,vp,show JoinOk (ofString "") [lt (f 0),lt (f 1),lt (f 2),lt (f 3),lt (f 4),lt (f 5)]=true from by kernel_rfl];rfl
theorem zF {x:Str}{lo hi:Option Int}:(gF lo hi x).length<=x.length:=by
 show ((x.cps.toList.drop _).take _).toArray.size<=x.cps.toList.length
 rw [size_toArray,length_take,length_drop];exact le_trans (Nat.min_le_right _ _) (sub_le _ _)
theorem zC {x:Str}(hx:x.length=6){k:Nat}(h:1<=k):1<=(gF none (some (k:Int)) x).length:=by
 show 1<=(Mine.cut none (some (k:Int)) x.cps.toList).toArray.size
 have:x.cps.toList.length=6:=hx
 rw [iR,size_toArray,length_take,this];lia
theorem BV {x:Str}{k:Nat}:(gF none (some (k:Int)) x).length<=k:=by
 show (Mine.cut none (some (k:Int)) x.cps.toList).toArray.size<=k
 rw [iR,size_toArray,length_take];exact min_le_left _ _
theorem zE {x:Str}(hx:x.length=6){a z:Nat}(h:a<=z)(hz:z<=6):(gF (some (a:Int)) (some (z:Int)) x).length<=z - a:=by
 have e:x.cps.toList.length=6:=hx
 show ((x.cps.toList.drop (clipAt x.cps.toList.length a)).take (clipAt x.cps.toList.length z - clipAt x.cps.toList.length a)).toArray.size<=_
 rw [e,rq hz,rq (le_trans h hz),size_toArray,length_take];exact min_le_left _ _
structure Nm (x:Str):Prop where
 m:Mk x
 ne:x≠ofString ""
theorem Nm.of {x:Str}(h1:x.length<=6)(h2:Lw x)(h3:1<=x.length):Nm x:=⟨⟨h1,h2⟩,fun e=>by rw [e,rj] at h3;cases h3⟩
structure C9 (x y z:Str):Prop where
 a:Nm x
 b:Nm y
 c:Nm z
noncomputable abbrev o4 (x y z:Str):T:=.lst [.str x,.str y,.str z]
section
variable {σ:Sg}
theorem cJ (a:Int){k:Nat}(h:(bif ((k:Int)==0)||Nat.ble 1073741824 (k:Int).natAbs then false else true)=true):d7 (.int a) (.int k)=some (.int (a.fdiv k)):=by
 unfold d7
 show (bif ((k:Int)==0)||Nat.ble 1073741824 (k:Int).natAbs then none else some (T.int (a.fdiv k)))=_
 cases e:((k:Int)==0)||Nat.ble 1073741824 (k:Int).natAbs with
 |true=>rw [e] at h;cases h
 |false=>rfl
theorem dD (a:Int){k:Nat}(h:0 < k):bM (.int a) (.int k)=some (.int (a.fmod k)):=by
 unfold bM
 show (bif ((k:Int)==0) then none else some (T.int (a.fmod k)))=_
 rw [beq_eq_false_iff_ne.mpr (by lia)];rfl
theorem eZ (a:Int){n:Nat}(h:0 < n):∃k:Nat,bM (.int a) (.int n)=some (nT k)/\k < n:=by
 obtain ⟨k,h1,h2⟩:=fN a h
 exact ⟨k,by rw [dD a h,h1],h2⟩
theorem add_int (a b:Int):bc (.int a) (.int b)=some (.int (a+b)):=by unfold bc;rfl
theorem mx {k:Nat}(a:Int)(h:sm k=true):iK (.int k) (.int a)=some (.int (k * a)):=by
 unfold iK
 show (bif sm k||sm a then some (T.int (k * a)) else none)=_
 rw [h];rfl
theorem xQ (x:Str)(lo hi:Option Int):ci (.str x) lo hi=some (.str (gF lo hi x)):=by unfold ci;rfl
theorem C5 {a b:Str}(h:a.length+b.length<=100):bc (.str a) (.str b)=some (.str (a++b)):=by
 unfold bc
 exact rA (by rw [gM];exact le_trans h (by decide))
theorem yx (cell:Int)(n:Nat):bb (fun t σ'=>σ'=σ/\∃x y z,t=o4 x y z/\C9 x y z) (aj Ψ (n+1) 19 [.int cell] σ):=by
 let f:Nat->Int:=fun j=>cell.fdiv 7+5 * (j:Int)
 have hl:=vp f
 have hw:=xS f
 refine qF (aC (gh (n:=6) (by decide)) (g9 (e:=nT) (fun j=>.str (lt (f j))) (fun j _=>⟨_,rfl,fun k=>?_⟩) (aC (Bz f) ?_)))
 .exact ab rfl (ab rfl (ab (cJ cell (k:=7) rfl) (ab rfl (ab (mx (k:=5) j rfl) (ab (add_int _ _) (ab (dD _ (k:=26) (by decide)) (ab (yO _) rfl)))))))
 generalize AI f=rest at hl hw
 refine aC rfl (aC (dD cell (k:=3) (by decide)) (aC (fO _ _) ?_))
 have c6:∀{lo hi:Option Int},(gF lo hi rest).length<=6:=hl▸zF
 refine fu (fun _=>?_) fun _=>?_
 .obtain ⟨q,hq,q4⟩:=eZ (cell.fdiv (3:Nat)) (n:=4) (by decide)
  have e:∀k:Nat,(1+(q:Int))+(k:Int)=((1+q+k:Nat):Int):=fun k=>by lia
  have nm:∀k:Nat,Nm (gF none (some ((1+q+k:Nat):Int)) rest):=fun k=>.of c6 hw.cut (zC hl (by lia))
  refine aC rfl (aC (cJ cell (k:=3) rfl) (aC hq (aC (add_int 1 _) (aC (gh (n:=3) (by decide)) (g9 (e:=nT) (fun k=>.str (gF none (some ((1+q+k:Nat):Int)) rest)) (fun k _=>⟨_,rfl,fun κ=>?_⟩) (cR ⟨rfl,_,_,_,rfl,nm 0,nm 1,nm 2⟩))))))
  rw [<-e]
  exact ab rfl (ab rfl (ab rfl (ab (add_int _ _) (ab rfl (ab (xQ _ _ _) rfl)))))
 .obtain ⟨z,hz,z6⟩:=eZ (cell.fdiv (3:Nat)) (n:=6) (by decide)
  obtain ⟨a,ha,a1⟩:=eZ (cell.fdiv (18:Nat)) (n:=z+1) (succ_pos _)
  let y:Nat->Str:=fun k=>gF none (some (a:Int)) rest++lt (cell.fdiv 90+7 * (k:Int))++gF (some (a:Int)) (some (z:Int)) rest
  have l1:(gF none (some (a:Int)) rest).length<=a:=BV
  have l2:(gF (some (a:Int)) (some (z:Int)) rest).length<=z - a:=zE hl (by lia) (by lia)
  have nm:∀k,Nm (y k):=fun k=>.of (by rw [gM,gM,n7];lia) ((hw.cut.append (n6 _)).append hw.cut) (by rw [gM,gM,n7];lia)
  refine aC rfl (aC (cJ cell (k:=3) rfl) (aC hz (aC rfl (aC (cJ cell (k:=18) rfl) (aC rfl (aC (add_int _ _) (aC ha ?_)))))))
  have turn:∀(k:Nat) (X:List T) (x7:Option T),X.length<=10->∀κ:PK aW,af (aG 7 (p2 au (pV 1) (p2 bM (p2 bc (p2 d7 (pV 0) (pC (.int 90))) (p2 iK (pC (.int 7)) (pV 6))) (pC (.int 26))))) (af (ii 5 d9 (p2 bc (p2 bc (p3 ci (pV 2) jB (p1 cN (pV 4))) (pV 7)) (p3 ci (pV 2) (p1 cN (pV 4)) (p1 cN (pV 3))))) an)
    ⟨aj Ψ n⟩ [some (.int cell),some (.str Ai),some (.str rest),some (nT z),some (nT a),some (.lst X),some (nT k),x7,none,none] σ κ=κ [some (.int cell),some (.str Ai),some (.str rest),some (nT z),some (nT a),some (.lst (X++[.str (y k)])),some (nT k),some (.str (lt (cell.fdiv 90+7 * (k:Int)))),none,none] σ:=fun k X x7 hX κ=>
   ab rfl (ab rfl (ab (cJ cell (k:=90) rfl) (ab rfl (ab (mx (k:=7) k rfl) (ab (add_int _ _) (ab (dD _ (k:=26) (by decide)) (ab (yO _) (ab rfl (ab rfl (ab rfl (ab (xQ _ _ _) (ab rfl (ab (C5 (by rw [n7];lia)) (ab rfl (ab rfl (ab rfl (ab rfl (ab rfl (ab (xQ _ _ _) (ab (C5 (by rw [gM,n7];lia)) (ab (Ad (lt_of_le_of_lt hX (by decide))) rfl)))))))))))))))))))))
  refine oq rfl (aC (gh (n:=3) (by decide)) ?_)
  have t0:=turn 0 [] none (le_of_ble_eq_true rfl)
  have t1:=fun x7=>turn 1 [.str (y 0)] x7 (le_of_ble_eq_true rfl)
  have t2:=fun x7=>turn 2 [.str (y 0),.str (y 1)] x7 (le_of_ble_eq_true rfl)
  refine ⟨o4 (y 0) (y 1) (y 2),σ,?_,rfl,_,_,_,rfl,nm 0,nm 1,nm 2⟩
  refine (t0 _).trans ((t1 _ _).trans ((t2 _ _).trans ?_))
  exact ab rfl rfl
end
section
variable {ns:List Int} {σ:Sg}
theorem qz {k:Nat}(h:k < ns.length)(hn:ns.length<=63):au (.scr ns) (nT k)=some (.int ns[k]):=by
 have:z0 k (ns.map T.int)=some (.int ns[k]):=u8 (getElem?_eq_getElem h) (le_trans (le_of_lt h) (le_trans hn (by decide)))
 unfold au;exact this
theorem v8 (hn:ns.length<=63)(k n:Nat):bb (fun t σ'=>σ'=σ/\∃z,t=.int z) (aj Ψ (n+1) 17 [.scr ns,nT k] σ):=by
 refine nG (aC rfl (aC rfl (aC rfl (aC rfl (fu (fun h=>?_) fun _=>cR ⟨rfl,0,rfl⟩)))))
 have h:k < ns.length:=ofNat_lt.mp (of_decide_eq_true h)
 exact aC rfl (aC rfl (aC (qz h hn) (cR ⟨rfl,_,rfl⟩)))
theorem CM (a:Int){k:Nat}(h:sm k=true):iK (.int a) (.int k)=some (.int (a * k)):=by
 unfold iK
 show (bif sm a||sm k then some (T.int (a * k)) else none)=_
 rw [h,Bool.or_true];rfl
theorem E9 (j:Nat):d5 (.int ((j:Int)+1)) (.int 1)=some (nT j):=by unfold d5;exact congrArg (fun z=>some (T.int z)) (Int.add_sub_cancel ..)
theorem f7 (hn:ns.length<=63)(j n:Nat){se:Option (Nat×List T)}:bb (fun t σ'=>σ'=⟨((j+1:Nat):Int),se⟩/\∃z,t=.int z) (aj Ψ (n+1) 18 [.scr ns,.spot] ⟨(j:Int),se⟩):=by
 refine sC (aC (add_int _ _) (aC (E9 j) (aC rfl (aC rfl (aC rfl (aC rfl (fu (fun h=>?_) fun _=>?_)))))))
 .have h:j < ns.length:=ofNat_lt.mp (of_decide_eq_true h)
  exact aC rfl (aC rfl (aC (qz h hn) (cR ⟨rfl,_,rfl⟩)))
 .refine aC rfl (aC rfl (aC rfl (fu (fun h=>?_) fun _=>?_)))
  .have h:4 < ns.length:=by have:=of_decide_eq_true h;lia
   obtain ⟨k,hk,k1⟩:=eZ (j:Int) (n:=ns.length) (Nat.lt_trans (by decide) h)
   refine aC rfl (aC rfl (fu (fun _=>?_) fun _=>?_))
   .exact Gg (aC rfl (aC rfl (aC rfl (aC rfl (aC hk (aC (qz k1 hn) (aC rfl (aC (mx (k:=7919) j rfl) (aC (add_int _ _) (aC (CM _ (k:=48271) rfl) (aC (dD _ (k:=1000003) (by decide)) (cR ⟨rfl,_,rfl⟩))))))))))))
   .exact cR ⟨rfl,0,rfl⟩
  .exact cR ⟨rfl,0,rfl⟩
noncomputable def vl (f:Int)(m k:Nat):Nat:=((f+(k:Int)).fmod (m:Int)).toNat
theorem E3 {f:Int}{m k:Nat}(hm:0 < m):vl f m k < m:=by
 obtain ⟨x,h1,h2⟩:=fN (f+(k:Int)) hm
 rw [vl,h1];exact h2
theorem xG {f:Int}{m k:Nat}(hm:0 < m):bM (.int (f+(k:Int))) (nT m)=some (nT (vl f m k)):=by
 obtain ⟨x,h1,h2⟩:=fN (f+(k:Int)) hm
 rw [dD _ hm,vl,h1];rfl
theorem E2 {f:Int}{m j k:Nat}(hm:0 < m)(hj:j < k)(hk:k < m):vl f m j≠vl f m k:=fun e=>by
 have e1:(f+(j:Int)).fmod m=(f+(k:Int)).fmod m:=by
  obtain ⟨x,h1,_⟩:=fN (f+(j:Int)) hm
  obtain ⟨y,h2,_⟩:=fN (f+(k:Int)) hm
  rw [vl,vl,h1,h2] at e
  rw [h1,h2];exact congrArg ofNat e
 rw [Int.fmod_eq_emod_of_nonneg _ (by lia),Int.fmod_eq_emod_of_nonneg _ (by lia)] at e1
 have h0:=(Int.emod_eq_emod_iff_emod_sub_eq_zero).mp e1
 have h1:(f+(j:Int)) - (f+(k:Int))=-(((k - j:Nat):Int)):=by lia
 rw [h1] at h0
 have h2:((k - j:Nat):Int) % (m:Int)=0:=Int.emod_eq_zero_of_dvd (Int.dvd_neg.mp (Int.dvd_of_emod_eq_zero h0))
 rw [Int.emod_eq_of_lt (by lia) (by lia)] at h2
 lia
theorem vi {m:Nat}(hm:0 < m)(hm':m<=1000)(cell first:Int)(n:Nat):bb (fun t σ'=>σ'=σ/\∃r,t=bz r/\xD m r) (aj Ψ (n+1) 24 [.int cell,nT m,.int first] σ):=by
 have lp:∀(d k:Nat) (r:List Nat) (z:Int) (x5:Option T),k+d=m->r≠[]->r.Nodup->(∀p∈r,∃j,j < k/\p=vl first m j)->r.length<=k->
   bb (fun t σ'=>σ'=σ/\∃r,t=bz r/\xD m r) (cD (bj 5) (af (bK (p2 ck (p2 bM (pV 3) (pC (.int 3))) (pC (.int 1))) (af (ii 4 d9 (p2 bM (p2 bc (pV 2) (pV 5)) (pV 1))) an) an) (af (aG 3 (p2 d7 (pV 3) (pC (.int 3)))) an)) ⟨aj Ψ n⟩ ((range' k d).map nT) [some (.int cell),some (nT m),some (.int first),some (.int z),some (bz r),x5] σ fun ρ σ=>af (aH (pV 4)) an ⟨aj Ψ n⟩ ρ σ (kE 24)):=fun d=>by
  induction d with
  |zero=>exact fun k r z x5 e h1 h2 h3 _=>aC rfl (cR ⟨rfl,r,rfl,h1,h2,fun p hp=>by obtain ⟨j,_,rfl⟩:=h3 p hp;exact E3 hm⟩)
  |succ d ih=>
   intro k r z x5 e h1 h2 h3 h4
   have ih':=fun r z x5=>ih (k+1) r z x5 (by lia)
   have dv:∀(r:List Nat),r≠[]->r.Nodup->(∀p∈r,∃j,j < k+1/\p=vl first m j)->r.length<=k+1->bb (fun t σ'=>σ'=σ/\∃r,t=bz r/\xD m r) (af (aG 3 (p2 d7 (pV 3) (pC (.int 3)))) an ⟨aj Ψ n⟩ [some (.int cell),some (nT m),some (.int first),some (.int z),some (bz r),some (nT k)] σ fun ρ σ=>cD (bj 5) (af (bK (p2 ck (p2 bM (pV 3) (pC (.int 3))) (pC (.int 1))) (af (ii 4 d9 (p2 bM (p2 bc (pV 2) (pV 5)) (pV 1))) an) an) (af (aG 3 (p2 d7 (pV 3) (pC (.int 3)))) an)) ⟨aj Ψ n⟩ ((range' (k+1) d).map nT) ρ σ fun ρ σ=>af (aH (pV 4)) an ⟨aj Ψ n⟩ ρ σ (kE 24)):=fun r a b c d=>aC rfl (aC (cJ z (k:=3) rfl) (ih' r _ _ a b c d))
   refine Ei (v:=nT k) (l:=(range' (k+1) d).map nT) rfl (aC rfl (aC (dD z (k:=3) (by decide)) (aC (fO _ _) (fu (fun _=>?_) fun _=>?_))))
   .refine aC rfl (aC rfl (aC (add_int _ _) (aC rfl (aC (xG hm) (aC (dj (e:=nT) (vl first m k) (lt_of_le_of_lt h4 (by rw [bC];lia))) (dv (r++[vl first m k]) ?_ ?_ ?_ ?_))))))
    .exact fun q=>by cases List.append_eq_nil_iff.mp q |>.2
    .refine nodup_append.mpr ⟨h2,pairwise_singleton _ _,fun a ha b hb q=>?_⟩
     obtain ⟨j,j1,rfl⟩:=h3 a ha
     exact E2 hm j1 (by lia) (q.trans (ae hb))
    .intro p hp
     rcases ah hp with h |h
     .obtain ⟨j,j1,e⟩:=h3 p h
      exact ⟨j,Nat.lt_succ_of_lt j1,e⟩
     .exact ⟨k,lt_succ_self _,ae h⟩
    .rw [List.length_append];exact succ_le_succ h4
   .exact dv r h1 h2 (fun p hp=>by obtain ⟨j,j1,e⟩:=h3 p hp;exact ⟨j,Nat.lt_succ_of_lt j1,e⟩) (le_succ_of_le h4)
 have e0:bM (.int first) (nT m)=some (nT (vl first m 0)):=by
  have:=xG (f:=first) (k:=0) hm
  rw [show first+((0:Nat):Int)=first from Int.add_zero _] at this;exact this
 exact sy (aC rfl (aC (CM _ (k:=48271) rfl) (aC (dD _ (k:=1000003) (by decide)) (aC rfl (aC rfl (aC e0 (oq rfl (aC rfl (aC (uj (a:=1) hm (le_trans hm' (by decide))) (lp (m - 1) 1 [vl first m 0] _ none (by lia) (fun q=>nomatch q) (pairwise_singleton _ _) (fun p hp=>⟨0,Nat.zero_lt_one,ae hp⟩) (le_refl _)))))))))))
end
section
variable {ns:List Int}
theorem DH:Mk (ofString ""):=⟨by rw [rj];decide,lz⟩
theorem ze {a:T}{l:List T}:au (.lst (a::l)) (.int 0)=some a:=gX (j:=0) rfl (zero_le _)
theorem zd {a b:T}{l:List T}:au (.lst (a::b::l)) (.int 1)=some b:=gX (j:=1) rfl (by decide)
theorem Gn {a b:List T}(h:(a++b).length<=lim):bc (.lst a) (.lst b)=some (.lst (a++b)):=by unfold bc;exact rA h
theorem uE (hn:ns.length<=63)(j n:Nat){x y z:Str}(N:C9 x y z){most:Nat}(h1:0 < most)(h2:most<=12):
  bb (fun t w'=>(∃j':Nat,w'=⟨(j':Int),none⟩)/\∃M:Mc,t=.tup M.fs/\M.Ok/\M.names.length<=most) (aj Ψ (n+2) 25 [.scr ns,.spot,o4 x y z,nT most] ⟨(j:Int),none⟩):=by
 refine nE (aC rfl (aC rfl (bY (f7 hn j n) ?_)))
 rintro _ _ ⟨rfl,cell,rfl⟩
 obtain ⟨m0,hm,ml⟩:=eZ cell h1
 refine aC rfl (aC hm (aC (add_int 1 _) (aC rfl (aC rfl (aC ze (aC rfl (aC zd (oq rfl (aC (Gn (le_of_ble_eq_true rfl)) (oq rfl (oq rfl (aC rfl ?_))))))))))))
 obtain ⟨m,em⟩:∃m:Nat,m=1+m0:=⟨_,rfl⟩
 rw [show (1:Int)+(m0:Int)=(m:Int) by lia]
 have mp:0 < m:=by lia
 have mm:m<=most:=by lia
 let six':List Str:=[x,y,z,ofString "",x,y]
 have mk6:∀{i:Nat},i < 6->∃s,au (.lst (six'.map .str)) (nT i)=some (.str s)/\Mk s:=fun {i} hi=>by
  have e:six'[i]?=some six'[i]:=getElem?_eq_getElem (show i < six'.length from hi)
  refine ⟨_,bF (e:=T.str) e (le_trans (le_of_lt hi) (by decide)),?_⟩
  have:=mem_of_getElem? e
  generalize six'[i]=s at this
  simp only [six',mem_cons,not_mem_nil,or_false] at this
  rcases this with rfl |rfl |rfl |rfl |rfl |rfl
  .exact N.a.m
  .exact N.b.m
  .exact N.c.m
  .exact DH
  .exact N.a.m
  .exact N.b.m
 have lp:∀(d k:Nat) (L:List Str) (R:List (List Nat)) (x8 x9:Option T) (j:Nat) {κ:PK aW} {Q:T->Sg->Prop},k+d=m->L.length=k->R.length=k->(∀s∈L,Mk s)->(∀r∈R,xD m r)->
   (∀(L:List Str) (R:List (List Nat)) (x8 x9:Option T) (j:Nat),L.length=m->R.length=m->(∀s∈L,Mk s)->(∀r∈R,xD m r)->bb Q (κ [some (.scr ns),some .spot,some (o4 x y z),some (nT most),some (nT m),some (.lst (six'.map .str)),some (.lst (L.map .str)),some (.lst (R.map bz)),x8,x9] ⟨(j:Int),none⟩))->
   bb Q (cD (bj 8) (af (aG 9 (aw 18 (aa (pV 0) (aa (pV 1) ao)))) (af (ii 6 d9 (p2 au (pV 5) (p2 bM (pV 9) (pC (.int 6))))) (af (ii 7 d9 (aw 24 (aa (pV 9) (aa (pV 4) (aa (p2 d7 (pV 9) (pC (.int 6))) ao))))) an))) ⟨aj Ψ (n+1)⟩ ((range' k d).map nT)
    [some (.scr ns),some .spot,some (o4 x y z),some (nT most),some (nT m),some (.lst (six'.map .str)),some (.lst (L.map .str)),some (.lst (R.map bz)),x8,x9] ⟨(j:Int),none⟩ κ):=fun d=>by
  induction d with
  |zero=>exact fun k L R x8 x9 j κ Q e l1 l2 a b hk=>hk L R x8 x9 j (by lia) (by lia) a b
  |succ d ih=>
   intro k L R x8 x9 j κ Q e l1 l2 a b hk
   refine Ei (v:=nT k) (l:=(range' (k+1) d).map nT) rfl (aC rfl (aC rfl (bY (f7 hn j n) ?_)))
   rintro _ _ ⟨rfl,c,rfl⟩
   obtain ⟨i,hi,i6⟩:=eZ c (n:=6) (by decide)
   obtain ⟨s,hs,ms⟩:=mk6 i6
   refine aC rfl (aC rfl (aC hi (aC hs (aC (dj (e:=T.str) s (by rw [bC];lia)) (aC rfl (aC rfl (aC rfl (aC (cJ c (k:=6) rfl) (bY (vi mp (by lia) c _ n) ?_)))))))))
   rintro _ _ ⟨rfl,r,rfl,hr⟩
   refine aC (dj (e:=bz) r (by rw [bC];lia)) (ih (k+1) (L++[s]) (R++[r]) _ _ (j+1) (by lia) (by rw [List.length_append,l1];rfl) (by rw [List.length_append,l2];rfl) (fun s' h=>(ah h).elim (a s') fun q=>ae q▸ms) (fun r' h=>(ah h).elim (b r') fun q=>ae q▸hr) hk)
 have rg:vv [nT m]=some ((range' 0 m).map nT):=by rw [<-List.range_eq_range'];exact gh (by lia)
 refine aC rg (lp m 0 [] [] none _ (j+1) (zero_add _) rfl rfl (fun _ h=>nomatch h) (fun _ h=>nomatch h) ?_)
 intro L R x8 x9 j l1 l2 a b
 refine aC rfl (aC rfl (bY (f7 hn j n) ?_))
 rintro _ _ ⟨rfl,c,rfl⟩
 have ok:∀r,xD m r->(⟨L,R,r⟩:Mc).Ok:=fun r hr=>⟨by rw [l1];exact mp,by rw [l1];lia,a,by rw [l1,l2],by rw [l1];exact b,by rw [l1];exact hr⟩
 refine aC rfl (aC (dD c (k:=4) (by decide)) (aC (fO _ _) (fu (fun _=>?_) fun _=>?_)))
 .refine aC rfl (aC rfl (aC rfl (aC rfl (aC rfl (aC (cJ c (k:=4) rfl) (bY (vi mp (by lia) c _ n) ?_))))))
  rintro _ _ ⟨rfl,r,rfl,hr⟩
  exact cR ⟨⟨j+1,rfl⟩,⟨L,R,r⟩,rfl,ok r hr,by rw [show (⟨L,R,r⟩:Mc).names=L from rfl,l1];exact mm⟩
 .obtain ⟨p,hp,pm⟩:=eZ (c.fdiv (4:Nat)) mp
  refine aC rfl (aC rfl (aC rfl (aC (cJ c (k:=4) rfl) (aC rfl (aC hp (cR ⟨⟨j+1,rfl⟩,⟨L,R,[p]⟩,rfl,ok [p] ⟨(fun q=>nomatch q),pairwise_singleton _ _,(fun q hq=>by cases ae hq;exact pm)⟩,?_⟩))))))
  rw [show (⟨L,R,[p]⟩:Mc).names=L from rfl,l1];exact mm
end
noncomputable def CP:List Str:=["not","and","or","next","till","always","again","till","always","next","not"].map ofString
theorem xN:qs (.str (ofString "not and or next till always again till always next not")) (.str (ofString " "))=some (.lst (CP.map .str)):=by kernel_rfl
noncomputable abbrev Ix:T:=.tup [.str (ofString "not"),.str (ofString "next"),.str (ofString "always"),.str (ofString "again")]
structure Un (k:Str) (C:Sy->Sy):Prop where
 t:lX (.str k) Ix=some true
 to:∀a,bx (C a)=.tup [.str k,bx a]
 dep:∀a,dep (C a)=dep a+1
 all:∀a,all (C a)=C a::all a
 ne:∀a x,Sy.mark x≠C a
structure Bi (k:Str) (C:Sy->Sy->Sy):Prop where
 t:lX (.str k) Ix=some false
 to:∀a c,bx (C a c)=.tup [.str k,bx a,bx c]
 dep:∀a c,dep (C a c)=max (dep a) (dep c)+1
 all:∀a c,all (C a c)=C a c::(all a++all c)
 ne:∀a c x,Sy.mark x≠C a c
theorem gg:Un (ofString "not") .not:=⟨by kernel_rfl,fun _=>rfl,fun _=>rfl,fun _=>rfl,fun _ _ h=>nomatch h⟩
theorem qp:Un (ofString "next") .next:=⟨by kernel_rfl,fun _=>rfl,fun _=>rfl,fun _=>rfl,fun _ _ h=>nomatch h⟩
theorem gw:Un (ofString "always") .always:=⟨by kernel_rfl,fun _=>rfl,fun _=>rfl,fun _=>rfl,fun _ _ h=>nomatch h⟩
theorem rV:Un (ofString "again") .again:=⟨by kernel_rfl,fun _=>rfl,fun _=>rfl,fun _=>rfl,fun _ _ h=>nomatch h⟩
theorem zX:Bi (ofString "and") .and:=⟨by kernel_rfl,fun _ _=>rfl,fun _ _=>rfl,fun _ _=>rfl,fun _ _ _ h=>nomatch h⟩
theorem zW:Bi (ofString "or") .or:=⟨by kernel_rfl,fun _ _=>rfl,fun _ _=>rfl,fun _ _=>rfl,fun _ _ _ h=>nomatch h⟩
theorem kL:Bi (ofString "till") .till:=⟨by kernel_rfl,fun _ _=>rfl,fun _ _=>rfl,fun _ _=>rfl,fun _ _ _ h=>nomatch h⟩
theorem Bx:∀i,i < 11->∃k,CP[i]?=some k/\((∃C,Un k C)\/∃C,Bi k C)
 | 0,_=>⟨_,rfl,.inl ⟨_,gg⟩⟩
 | 1,_=>⟨_,rfl,.inr ⟨_,zX⟩⟩
 | 2,_=>⟨_,rfl,.inr ⟨_,zW⟩⟩
 | 3,_=>⟨_,rfl,.inl ⟨_,qp⟩⟩
 | 4,_=>⟨_,rfl,.inr ⟨_,kL⟩⟩
 | 5,_=>⟨_,rfl,.inl ⟨_,gw⟩⟩
 | 6,_=>⟨_,rfl,.inl ⟨_,rV⟩⟩
 | 7,_=>⟨_,rfl,.inr ⟨_,kL⟩⟩
 | 8,_=>⟨_,rfl,.inl ⟨_,gw⟩⟩
 | 9,_=>⟨_,rfl,.inl ⟨_,qp⟩⟩
 | 10,_=>⟨_,rfl,.inl ⟨_,gg⟩⟩
 |_+11,h=>absurd h (by lia)
theorem Un.gm {k:Str}{C:Sy->Sy}(U:Un k C){a:Sy}(h:Gm a):Gm (C a):=fun x hx=>by
 rw [U.all] at hx
 rcases az hx with e |hx
 .exact absurd e (U.ne a x)
 .exact h x hx
theorem Bi.gm {k:Str}{C:Sy->Sy->Sy}(U:Bi k C){a c:Sy}(h:Gm a)(h':Gm c):Gm (C a c):=fun x hx=>by
 rw [U.all] at hx
 rcases az hx with e |hx
 .exact absurd e (U.ne a c x)
 .exact (ah hx).elim (h x) (h' x)
section
variable {ns:List Int}
theorem lt_int (a b:Int):vI (.int a) (.int b)=some (decide (a < b)):=by unfold vI;rfl
theorem sub_int (a b:Int):d5 (.int a) (.int b)=some (.int (a - b)):=by unfold d5;rfl
theorem Bh (hn:ns.length<=63){x y z:Str}(N:C9 x y z):∀(d j n:Nat),1<=d->d<=n->bb (fun t w'=>(∃j':Nat,w'=⟨(j':Int),none⟩)/\∃s,t=bx s/\dep s<=d/\Gm s) (aj Ψ (n+1) 20 [.scr ns,.spot,o4 x y z,nT d] ⟨(j:Int),none⟩):=by
 intro d
 induction d with
 |zero=>intro j n h;cases h
 |succ d ih=>
  intro j n _ hd
  obtain ⟨n,rfl⟩:∃k,n=k+1:=⟨n - 1,by lia⟩
  refine sB (aC rfl (aC rfl (bY (f7 hn j n) ?_)))
  rintro _ _ ⟨rfl,c,rfl⟩
  have leaf:∀{κ:PK aW},bb (fun t w'=>(∃j':Nat,w'=⟨(j':Int),none⟩)/\∃s,t=bx s/\dep s<=d+1/\Gm s) (af (bK (p2 ck (p2 bM (pV 5) (pC (.int 9))) (pC (.int 4))) (af (aH (aM (aa (pC (.str (ofString "yes"))) ao))) an) an) (af (aH (aM (aa (pC (.str (ofString "mark"))) (aa (p2 au (pV 2) (p2 bM (pV 5) (pC (.int 3)))) ao)))) an)
    ⟨aj Ψ (n+1)⟩ [some (.scr ns),some .spot,some (o4 x y z),some (nT (d+1)),some (.int c),some (.int (c.fdiv (13:Nat))),none,none,none] ⟨((j+1:Nat):Int),none⟩ κ):=fun {κ}=>by
   refine aC rfl (aC (dD _ (k:=9) (by decide)) (aC (fO _ _) (fu (fun _=>?_) fun _=>?_)))
   .exact cR ⟨⟨_,rfl⟩,.yes,rfl,succ_le_succ (zero_le _),fun x h=>by cases ae h⟩
   .obtain ⟨i,hi,i3⟩:=eZ (c.fdiv (13:Nat)) (n:=3) (by decide)
    obtain ⟨s,hs,ms⟩:∃s,au (o4 x y z) (nT i)=some (.str s)/\Nm s:=by
     rcases Nat.lt_succ_iff_lt_or_eq.mp i3 with h |rfl
     .rcases Nat.lt_succ_iff_lt_or_eq.mp h with h |rfl
      .cases Nat.lt_one_iff.mp h;exact ⟨x,gX (j:=0) rfl (by decide),N.a⟩
      .exact ⟨y,gX (j:=1) rfl (by decide),N.b⟩
     .exact ⟨z,gX (j:=2) rfl (by decide),N.c⟩
    exact aC rfl (aC rfl (aC hi (aC hs (cR ⟨⟨_,rfl⟩,.mark s,rfl,succ_le_succ (zero_le _),fun x h=>by cases ae h;exact ⟨ms.m,ms.ne⟩⟩))))
  obtain ⟨i,hi,i13⟩:=eZ c (n:=13) (by decide)
  refine aC rfl (aC (cJ c (k:=13) rfl) (aC rfl (aC (lt_int _ _) ?_)))
  by_cases h1:((d+1:Nat):Int) < 2
  .rw [decide_eq_true h1];exact leaf
  rw [decide_eq_false h1]
  refine B8 (aC rfl (aC hi (aC (lt_int _ _) ?_)))
  by_cases h2:(i:Int) < 2
  .rw [decide_eq_true h2];exact leaf
  rw [decide_eq_false h2]
  obtain ⟨k,hk,kc⟩:=Bx (i - 2) (by lia)
  have e1:d5 (nT i) (.int 2)=some (nT (i - 2)):=by rw [sub_int];exact congrArg (fun z=>some (T.int z)) (by lia)
  have e2:d5 (nT (d+1)) (.int 1)=some (nT d):=by rw [sub_int];exact congrArg (fun z=>some (T.int z)) (by lia)
  refine B8 (B8 (aC rfl (aC xN (aC rfl (aC hi (aC e1 (aC (bF (e:=T.str) hk (by rw [bC];lia)) (aC rfl (aC rfl (aC rfl (aC rfl (aC e2 (bY (ih (j+1) n (by lia) (by lia)) ?_)))))))))))))
  rintro _ _ ⟨⟨j',rfl⟩,a,rfl,da,ga⟩
  refine aC rfl (oq rfl ?_)
  rcases kc with ⟨C,U⟩ | ⟨C,U⟩
  .refine aC U.t (Gg ?_)
   exact aC rfl (aC rfl (cR ⟨⟨j',rfl⟩,C a,(U.to a).symm,by rw [U.dep];exact succ_le_succ da,U.gm ga⟩))
  .refine aC U.t (B8 ?_)
   refine aC rfl (aC rfl (aC rfl (aC rfl (aC rfl (aC rfl (aC e2 (bY (ih j' n (by lia) (by lia)) ?_)))))))
   rintro _ _ ⟨⟨j'',rfl⟩,b,rfl,db,gb⟩
   exact cR ⟨⟨j'',rfl⟩,C a b,(U.to a b).symm,by rw [U.dep];exact succ_le_succ (max_le.mpr ⟨da,db⟩),U.gm ga gb⟩
end
section
variable {σ:Sg}
theorem Ce:∀s:Sy,(all s).length+1<=2 ^ dep s:=by
 have two:∀(s a c:Sy),(all a).length+1<=2 ^ dep a->(all c).length+1<=2 ^ dep c->dep s=max (dep a) (dep c)+1->all s=s::(all a++all c)->(all s).length+1<=2 ^ dep s:=fun s a c ha hc e e2=>by
  have h1:=pow_le_pow_right (n:=2) (by decide) (le_max_left (dep a) (dep c))
  have h2:=pow_le_pow_right (n:=2) (by decide) (le_max_right (dep a) (dep c))
  rw [e,e2,pow_succ,length_cons,List.length_append];lia
 have one:∀(s a:Sy),(all a).length+1<=2 ^ dep a->dep s=dep a+1->all s=s::all a->(all s).length+1<=2 ^ dep s:=fun s a ha e e2=>by
  rw [e,e2,pow_succ,length_cons];lia
 intro s
 induction s with
 |mark |yes=>exact le_refl 2
 |not a ih |next a ih |always a ih |again a ih=>exact one _ a ih rfl rfl
 |and a c ih ih' |or a c ih ih' |till a c ih ih'=>exact two _ a c ih ih' rfl rfl
theorem Ag {s:Sy}(h:dep s<=8):(all s).length<=256:=le_trans (le_succ _) (le_trans (Ce s) (pow_le_pow_right (j:=8) (by decide) h))
noncomputable abbrev Go:PS:=af (bK (qE (p1 (gq .tuple) (pV 2))) (af (aG 1 (p2 bc (pV 1) (aw 21 (aa (pV 2) ao)))) an) an) an
theorem Dg (s:Sy):∃ts,bx s=.tup ts:=by cases s<;>exact ⟨_,rfl⟩
theorem Af {c:cr}{t:Option T}:∀(l:List Sy),(∀a∈l,(all a).length<=256/\c.call 21 [bx a] σ=.ret (je (all a)) σ)->∀(F:List Sy) (x2:Option T) {k:PK aW} {r:cg},F.length+l.length * 256<=10000->
  (∀x2,k [t,some (je (l.foldl (fun f a=>f++all a) F)),x2] σ=r)->cD (bj 2) Go c (l.map bx) [t,some (je F),x2] σ k=r:=by
 intro l
 induction l with
 |nil=>intro _ F x2 k r _ hk;exact hk x2
 |cons a l ih=>
  intro hl F x2 k r h1 hk
  obtain ⟨h2,h3⟩:=hl a (.head _)
  rw [length_cons] at h1
  have e:=ih (fun b hb=>hl b (.tail _ hb)) (F++all a) (some (bx a)) (by rw [List.length_append];lia) hk
  obtain ⟨ts,et⟩:=Dg a
  rw [map_cons,et]
  rw [et] at h3 e
  exact aB h3 (mt (eC (by rw [bC];lia)) e)
theorem EC (s:Sy):all s=(cZ s).foldl (fun f a=>f++all a) [s]:=by cases s<;>rfl
theorem EB:∀(n:Nat) (s:Sy),dep s<=n->dep s<=8->aj Ψ (n+1) 21 [bx s] σ=.ret (je (all s)) σ:=by
 intro n
 induction n with
 |zero=>intro s h;exact absurd (g8 s) (dH (lt_succ_of_le h))
 |succ n ih=>
  intro s h h8
  have pl:(cZ s).length<=2:=by cases s<;>exact le_of_ble_eq_true rfl
  have L:=Af (σ:=σ) (c:=⟨aj Ψ (n+1)⟩) (t:=some (bx s)) (cZ s) (fun a ha=>⟨Ag (le_trans (le_of_lt (dX ha)) h8),ih a (le_of_lt_succ (lt_of_lt_of_le (dX ha) h)) (le_trans (le_of_lt (dX ha)) h8)⟩) [s] none (k:=fun ρ σ=>af (aH (pV 1)) an ⟨aj Ψ (n+1)⟩ ρ σ (kE 21)) (r:=.ret (je (all s)) σ) (by show 1+_<=_;lia) fun x2=>by rw [EC s];rfl
  cases s with
  |mark x=>exact oM (mt (a:=.tup [.str x]) (by kernel_rfl) rfl)
  |_=>exact oM (mt (a:=.tup ((cZ _).map bx)) (by kernel_rfl) (ab rfl L))
end
section
variable {σ:Sg}
noncomputable abbrev yW:PS:=(af (aG 3 (bX ao))
  (af (bK (p2 lX (p2 au (pV 2) (pC (.int 0))) (aM (aa (pC (.str (ofString "next"))) (aa (pC (.str (ofString "till"))) (aa (pC (.str (ofString "always"))) ao)))))
  (af (aG 3 (bX (aa (pV 2) ao)))
  an)
  (af (bK (p2 ck (p2 au (pV 2) (pC (.int 0))) (pC (.str (ofString "again"))))
  (af (aG 3 (bX (aa (aM (aa (pC (.str (ofString "till"))) (aa (aM (aa (pC (.str (ofString "yes"))) ao)) (aa (p2 au (pV 2) (pC (.int 1))) ao)))) (aa (aM (aa (pC (.str (ofString "always"))) (aa (aM (aa (pC (.str (ofString "till"))) (aa (aM (aa (pC (.str (ofString "yes"))) ao)) (aa (p2 au (pV 2) (pC (.int 1))) ao)))) ao))) ao))))
  an)
  an)
  an))
  (af (aG 1 (p2 bc (pV 1) (aV (bv (pV 3)) (bj 4) (p2 eP (pV 4) (pV 1)) (pV 4))))
  an)))
theorem DT {c:cr}{t2:Option T}{t0:Option T}{f xs:List Sy}(hf:∀x∈f,dep x<=40)(hx:∀x∈xs,dep x<=40)(hl:f.length+xs.length<=20000){k:PK aW}{r:cg}(hk:k [t0,some (je (ext f xs)),t2,some (je xs),none] σ=r):
  af (aG 1 (p2 bc (pV 1) (aV (bv (pV 3)) (bj 4) (p2 eP (pV 4) (pV 1)) (pV 4)))) an c [t0,some (je f),t2,some (je xs),none] σ k=r:=
 oB (i:=4) (fun _=>rfl) (fun _=>rfl) hf hx (mt (eC (e:=bx) (l:=f) (q:=xs.filter fun x=>!f.contains x) (qM f xs hl)) hk)
theorem Bt {c:cr}{t0 x3:Option T}{f:List Sy}{t:Sy}(hf:∀x∈f,dep x<=40)(ht:dep t<=30)(hl:f.length<=10000){k:PK aW}{r:cg}(hk:k [t0,some (je (ext f (cA t))),some (bx t),some (je (cA t)),none] σ=r):
  yW c [t0,some (je f),some (bx t),x3,none] σ k=r:=by
 have hx:∀x∈cA t,dep x<=40:=fun x hx=>le_trans (fS (bu.mpr ⟨t,j0 t,hx⟩)) (le_trans (succ_le_succ ht) (by decide))
 have ol:(cA t).length<=2:=by cases t<;>exact le_of_ble_eq_true rfl
 have E:=DT (c:=c) (t0:=t0) (t2:=some (bx t)) hf hx (by lia) hk
 cases t<;>exact E
theorem Bu {c:cr}{t0:Option T}:∀(l:List Sy),(∀a∈l,dep a<=30)->∀(f:List Sy) (x2 x3:Option T) {k:PK aW} {r:cg},(∀x∈f,dep x<=40)->f.length+l.length * 2<=10000->
  (∀x2 x3,k [t0,some (je (l.foldl (fun f t=>ext f (cA t)) f)),x2,x3,none] σ=r)->cD (bj 2) yW c (l.map bx) [t0,some (je f),x2,x3,none] σ k=r:=by
 intro l
 induction l with
 |nil=>intro _ f x2 x3 k r _ _ hk;exact hk x2 x3
 |cons t l ih=>
  intro hl f x2 x3 k r hf h1 hk
  rw [length_cons] at h1
  have ht:=hl t (.head _)
  have ol:(cA t).length<=2:=by cases t<;>exact le_of_ble_eq_true rfl
  have el:=f6 f (cA t)
  exact Bt hf ht (by lia) (ih (fun a ha=>hl a (.tail _ ha)) _ _ _ (fun x hx=>(kg.mp hx).elim (hf x) fun q=>le_trans (fS (bu.mpr ⟨t,j0 t,q⟩)) (le_trans (succ_le_succ ht) (by decide))) (by lia) hk)
theorem FG {n:Nat}{s:Sy}(h:dep s<=n)(h8:dep s<=8):aj Ψ (n+2) 22 [bx s] σ=.ret (je (lb s)) σ:=
 rC (aB (EB n s h h8) (Bu (all s) (fun a ha=>le_trans (wd ha) (le_trans h8 (by decide))) [] none none (fun _ h=>nomatch h) (by have:=Ag h8;rw [length_nil];lia) fun _ _=>rfl))
theorem wU {s:Sy}(h:0 < (lb s).length):∃p∈cZ s,au (bx s) (.int (-1))=some (bx p):=by
 cases s with
 |mark |yes=>cases h
 |not a |next a |always a |again a=>exact ⟨a,.head _,rfl⟩
 |and a c |or a c |till a c=>exact ⟨c,.tail _ (.head _),rfl⟩
theorem Ej {s:Sy}{m:Nat}(h8:dep s<=8)(hg:Gm s)(n:Nat):bb (fun t σ'=>σ'=σ/\∃s',t=bx s'/\dep s'<=dep s/\Gm s'/\(bonds s').length<=m) (aj Ψ (n+12) 23 [bx s,nT m] σ):=by
 have lp:∀(N:Nat) (s':Sy),dep s' < N->dep s'<=dep s->Gm s'->bb (fun t σ'=>σ'=σ/\∃s',t=bx s'/\dep s'<=dep s/\Gm s'/\(bonds s').length<=m)
   (f8 (p2 Au (p1 ba (aw 22 (aa (pV 0) ao))) (pV 1)) (af (aG 0 (p2 au (pV 0) (p1 eQ (pC (.int 1))))) an) ⟨aj Ψ (n+11)⟩ N [some (bx s'),some (nT m)] σ fun ρ σ=>af (aH (pV 0)) an ⟨aj Ψ (n+11)⟩ ρ σ (kE 23)):=fun N=>by
  induction N with
  |zero=>intro s' h;cases h
  |succ N ih=>
   intro s' h hs g
   have L:=FG (σ:=σ) (n:=n+9) (s:=s') (le_trans (le_trans hs h8) (by lia)) (le_trans hs h8)
   rw [il]
   refine gD L (aC rfl (aC rfl (aC rfl (fu (fun q=>?_) fun q=>?_))))
   .have q:m < (lb s').length:=by have:=of_decide_eq_true q;rw [length_map] at this;lia
    obtain ⟨p,hp,e⟩:=wU (lt_of_le_of_lt (zero_le _) q)
    have d:=dX hp
    exact eY e (ih p (by lia) (by lia) fun x hx=>g x (kS hp hx))
   .have q:(lb s').length<=m:=by have:=of_decide_eq_false q;rw [length_map] at this;lia
    exact cR ⟨rfl,s',rfl,hs,g,DS s'▸q⟩
 exact uo (lp 40 s (by lia) (le_refl _) hg)
end
end
end Mine.L08
section
set_option maxRecDepth 100000
namespace Mine.L08
noncomputable section
open PySem Ltl
section
variable {σ:Sg}
noncomputable def O8 (a b:Str):List Sy:=[.again (.mark a),.not (.again (.mark a)),.always (.or (.not (.mark a)) (.till .yes (.mark b))),.not (.always (.till .yes (.mark b))),.not (.always (.or (.not (.mark a)) (.till .yes (.mark b)))),.or (.again (.mark a)) (.next (.mark b)),.not (.and (.again (.mark a)) (.mark b)),.not (.till (.not (.mark a)) (.mark b))]
theorem vV {x:Str}(N:Nm x):Gm (.mark x):=fun z h=>by cases ae h;exact ⟨N.m,N.ne⟩
theorem zm:Gm .yes:=fun z h=>nomatch ae h
noncomputable def nb:Sy->Nat
 |.mark _=>0
 |.yes=>0
 |.not a=>nb a
 |.and a c=>nb a+nb c
 |.or a c=>nb a+nb c
 |.next a=>nb a+1
 |.till a c=>nb a+nb c+1
 |.always a=>nb a+1
 |.again a=>nb a+2
theorem zT:∀s:Sy,(bonds s).length<=nb s:=by
 have e:∀{f xs:List Sy} {m n:Nat},f.length<=m->xs.length<=n->(ext f xs).length<=m+n:=fun h1 h2=>le_trans (f6 _ _) (add_le_add h1 h2)
 have z:∀{xs:List Sy} {n:Nat},xs.length<=n->(ext [] xs).length<=n:=fun {xs n} h=>zero_add n▸e (f:=[]) (le_refl 0) h
 intro s
 induction s with
 |mark x=>exact le_refl 0
 |yes=>exact le_refl 0
 |not a ih=>exact e (n:=0) (z ih) (le_refl _)
 |and a c ih ih'=>exact e (n:=0) (e (z ih) ih') (le_refl _)
 |or a c ih ih'=>exact e (n:=0) (e (z ih) ih') (le_refl _)
 |next a ih=>exact e (z ih) (le_refl 1)
 |till a c ih ih'=>exact e (e (z ih) ih') (le_refl 1)
 |always a ih=>exact e (z ih) (le_refl 1)
 |again a ih=>exact e (z ih) (le_refl 2)
theorem AO {Q:T->Sg->Prop}{o o':cg}(h:o=o')(h2:bb Q o'):bb Q o:=by rw [h];exact h2
noncomputable def nt (s:Sy):Bool:=Sy.rec (fun _=>false) false (fun _ _=>true) (fun _ _ _ _=>false) (fun _ _ _ _=>false) (fun _ _=>false) (fun _ _ _ _=>false) (fun _ _=>false) (fun _ _=>false) s
inductive vc:Sy->Sy->Prop
 |un (a:Sy):vc (.not a) a
 |no {s:Sy} (h:nt s=false):vc s (.not s)
structure Gd (s:Sy):Prop where
 g:Gs s
 d:nt s=false->dep s<=4
theorem qi (a:Sy):bonds (.not a)=bonds a:=(append_nil _).trans (List.filter_eq_self.mpr fun _ _=>rfl)
theorem vc.bonds {s c:Sy}(h:vc s c):Ltl.bonds c=Ltl.bonds s:=by
 cases h with
 |un=>exact (qi _).symm
 |no=>exact qi _
theorem Gd.ctr {s c:Sy}(G:Gd s)(h:vc s c):Gs c:=by
 have b:=h.bonds
 cases h with
 |un=>exact ⟨le_trans (le_succ _) G.g.dep,b▸G.g.few,fun x hx=>G.g.gm x (kS (.head _) hx)⟩
 |no h=>exact ⟨succ_le_succ (G.d h),b▸G.g.few,gg.gm G.g.gm⟩
theorem vc.sem {s c:Sy}(h:vc s c)(w:Nat->Str):Sem w c 0↔¬Sem w s 0:=by
 cases h with
 |un=>exact Classical.not_not.symm
 |no=>exact Iff.rfl
theorem Gq {a b:Str}(A:Nm a)(B:Nm b):∀q∈O8 a b,Gd q:=by
 have ga:=vV A
 have gb:=vV B
 have g1:=rV.gm ga
 have g2:=zW.gm (gg.gm ga) (kL.gm zm gb)
 have ok:∀{q:Sy},Nat.ble (dep q) 5=true->Nat.ble (nb q) 4=true->(nt q||Nat.ble (dep q) 4)=true->Gm q->Gd q:=fun h1 h2 h3 g=>⟨⟨le_of_ble_eq_true h1,le_trans (zT _) (le_of_ble_eq_true h2),g⟩,fun h=>le_of_ble_eq_true (by rw [h] at h3;exact h3)⟩
 exact aq ⟨ok rfl rfl rfl g1,aq ⟨ok rfl rfl rfl (gg.gm g1),aq ⟨ok rfl rfl rfl (gw.gm g2),aq ⟨ok rfl rfl rfl (gg.gm (gw.gm (kL.gm zm gb))),
  aq ⟨ok rfl rfl rfl (gg.gm (gw.gm g2)),aq ⟨ok rfl rfl rfl (zW.gm g1 (qp.gm gb)),aq ⟨ok rfl rfl rfl (gg.gm (zX.gm g1 gb)),aq ⟨ok rfl rfl rfl (gg.gm (kL.gm (gg.gm ga) gb)),fun _ h=>nomatch h⟩⟩⟩⟩⟩⟩⟩⟩
theorem CE {x y z:Str}(N:C9 x y z){i:Nat}(h:i < 3):∃a,au (o4 x y z) (nT i)=some (.str a)/\Nm a:=by
 match i,h with
 | 0,_=>exact ⟨x,rfl,N.a⟩
 | 1,_=>exact ⟨y,rfl,N.b⟩
 | 2,_=>exact ⟨z,rfl,N.c⟩
noncomputable def Dx:PS:=aG 2 (aM (aa (pC (.str (ofString "mark"))) (aa (p2 au (pV 1) (p2 bM (p2 d7 (pV 0) (pC (.int 8))) (pC (.int 3)))) ao)))
noncomputable def Dw:PS:=aG 3 (aM (aa (pC (.str (ofString "mark"))) (aa (p2 au (pV 1) (p2 bM (p2 bc (p2 bc (p2 d7 (pV 0) (pC (.int 8))) (pC (.int 1))) (p2 bM (p2 d7 (pV 0) (pC (.int 24))) (pC (.int 2)))) (pC (.int 3)))) ao)))
noncomputable def Ft:PS:=(af (aG 4 (aM (aa (pC (.str (ofString "till"))) (aa (aM (aa (pC (.str (ofString "yes"))) ao)) (aa (pV 3) ao)))))
  (af (aG 5 (bX (aa (aM (aa (pC (.str (ofString "again"))) (aa (pV 2) ao))) (aa (aM (aa (pC (.str (ofString "not"))) (aa (aM (aa (pC (.str (ofString "again"))) (aa (pV 2) ao))) ao))) (aa (aM (aa (pC (.str (ofString "always"))) (aa (aM (aa (pC (.str (ofString "or"))) (aa (aM (aa (pC (.str (ofString "not"))) (aa (pV 2) ao))) (aa (pV 4) ao)))) ao))) (aa (aM (aa (pC (.str (ofString "not"))) (aa (aM (aa (pC (.str (ofString "always"))) (aa (pV 4) ao))) ao))) ao))))))
  (af (aG 5 (p2 bc (pV 5) (bX (aa (aM (aa (pC (.str (ofString "not"))) (aa (aM (aa (pC (.str (ofString "always"))) (aa (aM (aa (pC (.str (ofString "or"))) (aa (aM (aa (pC (.str (ofString "not"))) (aa (pV 2) ao))) (aa (pV 4) ao)))) ao))) ao))) (aa (aM (aa (pC (.str (ofString "or"))) (aa (aM (aa (pC (.str (ofString "again"))) (aa (pV 2) ao))) (aa (aM (aa (pC (.str (ofString "next"))) (aa (pV 3) ao))) ao)))) ao)))))
  (af (aH (p2 au (p2 bc (pV 5) (bX (aa (aM (aa (pC (.str (ofString "not"))) (aa (aM (aa (pC (.str (ofString "and"))) (aa (aM (aa (pC (.str (ofString "again"))) (aa (pV 2) ao))) (aa (pV 3) ao)))) ao))) (aa (aM (aa (pC (.str (ofString "not"))) (aa (aM (aa (pC (.str (ofString "till"))) (aa (aM (aa (pC (.str (ofString "not"))) (aa (pV 2) ao))) (aa (pV 3) ao)))) ao))) ao)))) (p2 bM (pV 0) (pC (.int 8)))))
  an))))
theorem AW {n:Nat}{c:Int}{x y z a b:Str}(κ:PK aW):Ft ⟨aj Ψ n⟩ [some (.int c),some (o4 x y z),some (bx (.mark a)),some (bx (.mark b)),none,none] σ κ=up (bM (.int c) (.int 8)) σ fun i σ=>up (au (.lst ((O8 a b).map bx)) i) σ fun v σ=>.ret v σ:=by kernel_rfl
theorem Fs {n i:Nat}{c:Int}{x y z a:Str}(hi:bM (.int (c.fdiv (8:Nat))) (.int (3:Nat))=some (nT i))(ea:au (o4 x y z) (nT i)=some (.str a))(κ:PK aW):Dx ⟨aj Ψ n⟩ [some (.int c),some (o4 x y z),none,none,none,none] σ κ=κ [some (.int c),some (o4 x y z),some (bx (.mark a)),none,none,none] σ:=by
 unfold Dx
 exact ab rfl (ab rfl (ab (cJ c (k:=8) rfl) (ab hi (ab ea rfl))))
theorem Fr {n j:Nat}{c:Int}{x y z a b:Str}(hj:bM (.int (c.fdiv (8:Nat)+1+(c.fdiv (24:Nat)).fmod (2:Nat))) (.int (3:Nat))=some (nT j))(eb:au (o4 x y z) (nT j)=some (.str b))(κ:PK aW):Dw ⟨aj Ψ n⟩ [some (.int c),some (o4 x y z),some (bx (.mark a)),none,none,none] σ κ=κ [some (.int c),some (o4 x y z),some (bx (.mark a)),some (bx (.mark b)),none,none] σ:=by
 unfold Dw
 exact ab rfl (ab rfl (ab (cJ c (k:=8) rfl) (ab (add_int _ _) (ab rfl (ab (cJ c (k:=24) rfl) (ab (dD _ (k:=2) (by decide)) (ab (add_int _ _) (ab hj (ab eb rfl)))))))))
theorem Dv:dR=af Dx (af Dw Ft):=rfl
theorem yp {x y z:Str}(N:C9 x y z)(c:Int)(n:Nat):bb (fun t σ'=>σ'=σ/\∃s,t=bx s/\Gd s) (aj Ψ (n+1) 47 [.int c,o4 x y z] σ):=by
 obtain ⟨i,hi,i3⟩:=eZ (c.fdiv (8:Nat)) (n:=3) (by decide)
 obtain ⟨j,hj,j3⟩:=eZ (c.fdiv (8:Nat)+1+(c.fdiv (24:Nat)).fmod (2:Nat)) (n:=3) (by decide)
 obtain ⟨k,hk,k8⟩:=eZ c (n:=8) (by decide)
 obtain ⟨a,ea,A⟩:=CE N i3
 obtain ⟨b,eb,B⟩:=CE N j3
 have e:(O8 a b)[k]?=some (O8 a b)[k]:=getElem?_eq_getElem (show k < (O8 a b).length from k8)
 have run:dR ⟨aj Ψ n⟩ [some (.int c),some (o4 x y z),none,none,none,none] σ (kE 47)=up (bM (.int c) (.int 8)) σ fun i σ=>up (au (.lst ((O8 a b).map bx)) i) σ fun v σ=>.ret v σ:=by
  rw [Dv];exact (Fs hi ea _).trans ((Fr hj eb _).trans (AW _))
 exact qD (AO run (aC hk (aC (bF (e:=bx) e (le_trans (le_of_lt k8) (by decide))) (cR ⟨rfl,_,rfl,Gq A B _ (mem_of_getElem? e)⟩))))
end
end
end Mine.L08
end
namespace Mine.L08
noncomputable section
open PySem Ltl
structure Wa (M:Mc) (w r:List Nat):Prop where
 ne:0 < r.length
 lt:∀p∈w++r,p < M.names.length
 hd:∃a,(w++r).head?=some a/\a∈M.firsts
 nxt:∀i a b,(w++r++r.take 1)[i]?=some a->(w++r++r.take 1)[i+1]?=some b->b∈M.road a
 len:(w++r).length<=1000
section
variable {M:Mc} {s:Sy} {w r:List Nat}
theorem xF {l:List Kn}(h:dL (th M s) l)(i a b:Nat)(ha:(l.map (·.p))[i]?=some a)(hb:(l.map (·.p))[i+1]?=some b):b∈M.road a:=by
 rw [getElem?_map] at ha hb
 obtain ⟨u,hu,rfl⟩:=ax ha
 obtain ⟨v,hv,rfl⟩:=ax hb
 exact (qS.mp (h i u v hu hv)).1
theorem jr.ring {α:Type}{th:α->List α}{S P R:List α}(L:jr th S P R):0 < R.length/\dL th (P++R++R.take 1):=
 let ⟨c,y,hc,hy,hcy⟩:=L.back
 let ⟨_,e⟩:=List.head?_eq_some_iff.mp hc
 have tk:R.take 1=[c]:=e▸rfl
 have ly:(P++R).getLast?=some y:=by rw [getLast?_append,hy];rfl
 ⟨e▸succ_pos _,L.walk.app (tk▸dL.one c) fun u v hu hv=>by rw [tk] at hv;rw [ly] at hu;rw [<-Option.some.inj hu,<-Option.some.inj hv];exact hcy⟩
theorem E0 {K P R:List Kn}(S:wg M s (st M s) K [])(B:GW M s K P R):Wa M (P.map (·.p)) (R.map (·.p))/\fW ((P.map (·.p)).map M.mark++(R.map (·.p)).map M.mark) (P.map (·.p)).length s 0=false:=
 have ⟨r0,wl⟩:=jr.ring B.lasso
 have e:(P.map (·.p))++R.map (·.p)=(P++R).map (·.p):=map_append.symm
 ⟨⟨length_map (f:=fun k:Kn=>k.p)▸r0,fun p hp=>let ⟨k,h,q⟩:=aT (e▸hp);q▸(gV.mp (S.sub k (by rw [append_nil];exact B.sub k h))).1,
  let ⟨a,h1,h2⟩:=B.lasso.hd;⟨a.p,by rw [e,List.head?_map,h1];rfl,(n4.mp h2).1⟩,by rw [e,<-List.map_take,<-map_append];exact xF wl,
  by rw [e,length_map];exact B.len⟩,Bool.eq_false_iff.mpr fun z=>by
   obtain ⟨p,_,q,h⟩:=B6 B
   have z:=bf.mp z
   rw [length_map,map_map,map_map,<-map_append,show (M.mark ∘ fun k:Kn=>k.p)=fun k=>M.mark k.p from rfl,<-q] at z
   exact h z⟩
end
section
variable {M:Mc} {s:Sy} {w r:List Nat} {σ:Sg}
noncomputable abbrev nF (M:Mc)(w r:List Nat)(x3 x4 x5:Option T):aW:=[some M.t,some (bz w),some (bz r),x3,x4,x5]
noncomputable abbrev IJ:PS:=(af (bK (dK (qE (aw 15 (aa (pV 3) (aa (p1 ba (p1 (kO 0 0) (pV 0))) ao)))))
  (af eS
  an)
  an)
  an)
noncomputable abbrev II:PS:=(af (bK (p2 eP (p2 au (pV 4) (p2 bc (pV 5) (pC (.int 1)))) (p2 au (p1 (kO 0 1) (pV 0)) (p2 au (pV 4) (pV 5))))
  (af eS
  an)
  an)
  an)
theorem Hi {n:Nat}:∀(l:List Nat),(∀p∈l,p < M.names.length)->∀(x3:Option T) {κ:PK aW} {o:cg},(∀x3,κ (nF M w r x3 none none) σ=o)->cD (bj 3) IJ ⟨aj Ψ (n+1)⟩ (l.map nT) (nF M w r x3 none none) σ κ=o:=fun l=>by
 induction l with
 |nil=>exact fun _ x3 κ o hk=>hk x3
 |cons p l ih=>
  intro h x3 κ o hk
  have P:=sF (σ:=σ) (p:=p) (n:=(M.names.map T.str).length) (by rw [length_map];exact h p (.head _)) n
  exact zo rfl (ab rfl (ab rfl (ab rfl (ab rfl (aB P (ab rfl (ih (fun q hq=>h q (.tail _ hq)) _ hk)))))))
theorem Hh (O:M.Ok){c:cr}{u:List Nat}(ln:u.length<=1001)(lt:∀p∈u,p < M.names.length)(nx:∀i a b,u[i]?=some a->u[i+1]?=some b->b∈M.road a){x3:Option T}:∀(l:List Nat),(∀k∈l,k+1 < u.length)->∀(x5:Option T) {κ:PK aW} {o:cg},(∀x5,κ (nF M w r x3 (some (bz u)) x5) σ=o)->cD (bj 5) II c (l.map nT) (nF M w r x3 (some (bz u)) x5) σ κ=o:=fun l=>by
 induction l with
 |nil=>exact fun _ x5 κ o hk=>hk x5
 |cons k l ih=>
  intro h x5 κ o hk
  have hk1:=h k (.head _)
  have hk':k < u.length:=Nat.lt_of_succ_lt hk1
  have kl:k+1<=lim:=le_trans (le_of_lt hk1) (le_trans ln (by decide))
  have h1:u[k]?=some u[k]:=getElem?_eq_getElem hk'
  have h2:u[k+1]?=some u[k+1]:=getElem?_eq_getElem hk1
  have p1:=lt _ (mem_of_getElem? h1)
  exact zo rfl (ab rfl (ab rfl (ab (add_int _ _) (ab (bF (e:=nT) (i:=k+1) h2 kl) (ab rfl (ab rfl (ab rfl (ab rfl (ab (bF (e:=nT) h1 (Nat.le_of_succ_le kl)) (ab (bF (e:=bz) (a:=M.road u[k]) (td (by rw [O.len];exact p1)) (O.lim p1))
   (ab ((dE.nin (by decide) trivial (fun _ _=>trivial) rfl).trans (congrArg (fun b=>some (!b)) (decide_eq_true (nx k _ _ h1 h2)))) (ih (fun q hq=>h q (.tail _ hq)) _ hk))))))))))))
end
section
variable {M:Mc} {s:Sy} {w r:List Nat} {σ:Sg}
noncomputable def Hs:PS:=(bK (hJ (dK (qE (p1 (gq .list) (pV 1)))) (hJ (dK (qE (p1 (gq .list) (pV 2)))) (hJ (p2 ck (p1 ba (pV 2)) (pC (.int 0))) cS))) (af eS an) an)
noncomputable def Hr:PS:=(cU (bv (p2 bc (pV 1) (pV 2))) (bj 3) IJ)
noncomputable def Hq:PS:=(aG 4 (p2 bc (p2 bc (pV 1) (pV 2)) (p3 ci (pV 2) jB (p1 cN (pC (.int 1))))))
noncomputable def Hp:PS:=(bK (p2 eP (p2 au (pV 4) (pC (.int 0))) (p1 (kO 0 2) (pV 0))) (af eS an) an)
noncomputable def Ho:PS:=(cU (cn (aa (p2 d5 (p1 ba (pV 4)) (pC (.int 1))) ao)) (bj 5) II)
theorem Fu:fY=af Hs (af Hr (af Hq (af Hp (af Ho an)))):=rfl
theorem Hn {c:cr}(W:Wa M w r){κ:PK aW}:Hs c (nF M w r none none none) σ κ=κ (nF M w r none none none) σ:=by
 have e:ck (.int ((r.map nT).length:Nat)) (.int 0)=some false:=by
  rw [fO];exact congrArg some (decide_eq_false fun q=>by have:=W.ne;rw [length_map] at q;lia -abstractProof)
 unfold Hs
 exact ab rfl (ab rfl (ab rfl (aL rfl (ab rfl (ab rfl (ab rfl (aL rfl (ab rfl (ab rfl (ab e rfl))))))))))
theorem Hm {n:Nat}(W:Wa M w r){κ:PK aW}{o:cg}(hk:∀x3,κ (nF M w r x3 none none) σ=o):Hr ⟨aj Ψ (n+1)⟩ (nF M w r none none none) σ κ=o:=by
 unfold Hr
 exact ab rfl (ab rfl (ab (eC (e:=nT) (by rw [<-List.length_append];exact le_trans W.len (by decide))) (ab rfl (Hi (w++r) W.lt none hk))))
theorem Hl {c:cr}(W:Wa M w r){x3:Option T}{κ:PK aW}:Hq c (nF M w r x3 none none) σ κ=κ (nF M w r x3 (some (bz (w++r++r.take 1))) none) σ:=by
 have l1:=W.len
 unfold Hq
 exact ab rfl (ab rfl (ab (eC (e:=nT) (by rw [<-List.length_append];exact le_trans l1 (by decide))) (ab rfl (ab rfl (ab (dO (e:=nT) (iR 1 r)) (ab (eC (e:=nT) (le_trans (add_le_add l1 (List.length_take_le 1 r)) (by decide))) rfl))))))
theorem Hk {c:cr}(W:Wa M w r){x3:Option T}{κ:PK aW}:Hp c (nF M w r x3 (some (bz (w++r++r.take 1))) none) σ κ=κ (nF M w r x3 (some (bz (w++r++r.take 1))) none) σ:=by
 obtain ⟨a,h1,h2⟩:=W.hd
 have h3:(w++r++r.take 1)[0]?=some a:=by rw [<-head?_eq_getElem?,head?_append,h1];rfl
 have e3:eP (nT a) (bz M.firsts)=some false:=(dE.nin (by decide) trivial (fun _ _=>trivial) rfl).trans (by rw [decide_eq_true h2];rfl)
 unfold Hp
 exact ab rfl (ab (bF (e:=nT) h3 (zero_le _)) (ab rfl (ab rfl (ab e3 rfl))))
theorem Hj (O:M.Ok){c:cr}(W:Wa M w r){x3:Option T}{κ:PK aW}{o:cg}(hk:∀x5,κ (nF M w r x3 (some (bz (w++r++r.take 1))) x5) σ=o):Ho c (nF M w r x3 (some (bz (w++r++r.take 1))) none) σ κ=o:=by
 have lt:∀p∈w++r++r.take 1,p < M.names.length:=fun p hp=>(ah hp).elim (W.lt p) fun h=>W.lt p (mem_append_right _ (List.mem_of_mem_take h))
 have ln:(w++r++r.take 1).length<=1001:=by rw [List.length_append];exact add_le_add W.len (List.length_take_le 1 r)
 have pos:1<=(w++r++r.take 1).length:=by rw [List.length_append,List.length_append];exact le_trans W.ne (le_trans (le_add_left _ _) (le_add_right _ _))
 have nx:=W.nxt
 generalize w++r++r.take 1=u at *
 have e1:d5 (.int ((u.map nT).length:Nat)) (.int 1)=some (nT (u.length - 1)):=by
  rw [sub_int,length_map]
  show some (T.int ((u.length:Int) - (1:Nat)))=some (T.int ((u.length - 1:Nat):Int))
  rw [Int.ofNat_sub pos]
 have e2:vv [nT (u.length - 1)]=some ((List.range (u.length - 1)).map nT):=gh (le_trans (sub_le _ _) (le_trans ln (by decide)))
 unfold Ho
 exact ab rfl (ab rfl (ab e1 (ab e2 (Hh O ln lt nx _ (fun k hk=>Nat.add_lt_of_lt_sub (bp hk)) none hk))))
theorem qO (O:M.Ok)(W:Wa M w r)(n:Nat):aj Ψ (n+2) 57 [M.t,bz w,bz r] σ=.ret .none σ:=by
 refine tF ?_
 rw [Fu]
 exact (Hn W).trans (Hm W fun x3=>(Hl W).trans ((Hk W).trans (Hj O W fun x5=>rfl)))
noncomputable abbrev GB (M:Mc)(l:List Nat):T:=.lst ((l.map M.mark).map .str)
theorem yM (O:M.Ok)(W:Wa M w r)(n:Nat):aj Ψ (n+3) 58 [M.t,bz w,bz r] σ=.ret (.tup [GB M w,GB M r]) σ:=by
 have go:∀{i:Nat} {ρ:aW} (h1:∀t,bV (ρ.set i (some t)) i=some t) (h0:∀t,bV (ρ.set i (some t)) 0=some M.t) (l:List Nat) (hl:∀p∈l,p < M.names.length) {κ:PK (List T)},br (bj i) aJ (rN 0 1007 (pV 0) (aa (pV i) ao)) ⟨aj Ψ (n+2)⟩ ρ (l.map nT) σ [] κ=κ ((l.map M.mark).map .str) σ:=fun {i ρ} h1 h0 l hl {κ}=>by
  refine bw (e:=nT) (fun p=>.str (M.mark p)) (fun p hp=>⟨_,rfl,fun κ=>ab (h0 _) (ab (h1 _) (aB (jb O (hl p hp) (n+1)) rfl))⟩) ?_
  rw [map_map];rfl
 have a:∀p∈w,p < M.names.length:=fun p hp=>W.lt p (mem_append_left _ hp)
 have b:∀p∈r,p < M.names.length:=fun p hp=>W.lt p (mem_append_right _ hp)
 exact pH (ab rfl (ab rfl (ab rfl (aB (qO O W n) (ab rfl (ab rfl ((go (fun _=>rfl) (fun _=>rfl) w a).trans (ab rfl (ab rfl ((go (fun _=>rfl) (fun _=>rfl) r b).trans rfl))))))))))
end
section
variable {M:Mc} {s:Sy} {w r:List Nat} {σ:Sg}
noncomputable def wB (M:Mc)(w r:List Nat)(s:Sy):Bool:=fW (w.map M.mark++r.map M.mark) (w.map M.mark).length s 0
noncomputable abbrev aF (M:Mc)(s:Sy)(w r:List Nat)(x5 x6:Option T):aW:=[some M.t,some (.tup M.fs),some (bx s),some (bz w),some (bz r),x5,x6,none,none]
theorem rW {a:T}{l:List T}:au (.tup (a::l)) (.int 0)=some a:=mD (e:=id) (l:=a::l) (i:=0) rfl (zero_le _) |> fun h=>by rw [map_id] at h;exact h
theorem vf {a b:T}{l:List T}:au (.tup (a::b::l)) (.int 1)=some b:=mD (e:=id) (l:=a::b::l) (i:=1) rfl (by decide) |> fun h=>by rw [map_id] at h;exact h
theorem Cq {a b c:T}{l:List T}:au (.tup (a::b::c::l)) (.int 2)=some c:=mD (e:=id) (l:=a::b::c::l) (i:=2) rfl (by decide) |> fun h=>by rw [map_id] at h;exact h
theorem l0 (O:M.Ok){c:cr}{i:Nat}{ρ:aW}(h1:∀t,bV (ρ.set i (some t)) i=some t)(h0:∀t,bV (ρ.set i (some t)) 1=some (.tup M.fs))(l:List Nat)(hl:∀p∈l,p < M.names.length){κ:PK (List T)}:br (bj i) aJ (p2 au (p2 au (pV 1) (pC (.int 0))) (pV i)) c ρ (l.map nT) σ [] κ=κ ((l.map M.mark).map .str) σ:=by
 refine bw (e:=nT) (fun p=>.str (M.mark p)) (fun p hp=>⟨_,rfl,fun κ=>ab (h0 _) (ab rW (ab (h1 _) (ab (bF (e:=T.str) (a:=M.mark p) (td (hl p hp)) (O.lim (hl p hp))) rfl)))⟩) ?_
 rw [map_map];rfl
noncomputable def Io:PS:=(aG 5 (aM (aa (aV (bv (pV 3)) (bj 7) aJ (p2 au (p2 au (pV 1) (pC (.int 0))) (pV 7))) (aa (aV (bv (pV 4)) (bj 8) aJ (p2 au (p2 au (pV 1) (pC (.int 0))) (pV 8))) ao))))
noncomputable def Im:PS:=(bK (p2 o8 (aw 58 (aa (pV 0) (aa (pV 3) (aa (pV 4) ao)))) (pV 5)) (af (aH (pC .none)) an) an)
noncomputable def Il:PS:=(aG 6 (p2 au (aw 46 (aa (pV 2) (aa (p2 au (pV 5) (pC (.int 0))) (aa (p2 au (pV 5) (pC (.int 1))) ao)))) (pC (.int 0))))
noncomputable def Ik:PS:=(bK (p2 o8 (aw 56 (aa (pV 2) (aa (p2 au (pV 5) (pC (.int 0))) (aa (p2 au (pV 5) (pC (.int 1))) ao)))) (pV 6)) (af (aH (pC .none)) an) an)
theorem Gl:fi=af Io (af Im (af Il (af Ik (af (aH (pV 6)) an)))):=rfl
noncomputable abbrev mm (M:Mc)(w r:List Nat):T:=.tup [GB M w,GB M r]
theorem FC:o8 (mm M w r) (mm M w r)=some false:=by
 have sf:Sf cB (mm M w r):=m9 (ng (qx (nc fun _ _=>qw)) (ng (qx (nc fun _ _=>qw)) AL))
 rw [o8,sf.eq];rfl
theorem Ib:∀b:Bool,o8 (.bool b) (.bool b)=some false
 |true=>by kernel_rfl
 |false=>by kernel_rfl
theorem Ij (O:M.Ok)(W:Wa M w r){c:cr}{κ:PK aW}:Io c (aF M s w r none none) σ κ=κ (aF M s w r (some (mm M w r)) none) σ:=by
 have a:∀p∈w,p < M.names.length:=fun p hp=>W.lt p (mem_append_left _ hp)
 have b:∀p∈r,p < M.names.length:=fun p hp=>W.lt p (mem_append_right _ hp)
 unfold Io
 exact ab rfl (ab rfl ((l0 O (fun _=>rfl) (fun _=>rfl) w a).trans (ab rfl (ab rfl ((l0 O (fun _=>rfl) (fun _=>rfl) r b).trans rfl)))))
theorem Ii (O:M.Ok)(W:Wa M w r){n:Nat}{κ:PK aW}:Im ⟨aj Ψ (n+3)⟩ (aF M s w r (some (mm M w r)) none) σ κ=κ (aF M s w r (some (mm M w r)) none) σ:=by
 unfold Im
 exact ab rfl (ab rfl (ab rfl (aB (yM O W n) (ab rfl (ab FC rfl)))))
theorem Ih (W:Wa M w r)(hd:dep s<=10){n:Nat}{κ:PK aW}:Il ⟨aj Ψ (n+12)⟩ (aF M s w r (some (mm M w r)) none) σ κ=κ (aF M s w r (some (mm M w r)) (some (.bool (wB M w r s)))) σ:=by
 have hn:(w.map M.mark++r.map M.mark).length<=1000:=by rw [<-map_append,length_map];exact W.len
 have Z:=yH (σ:=σ) (w:=w.map M.mark) (r:=r.map M.mark) (by rw [length_map];exact W.ne) hn (n+10) s (le_trans hd (le_add_left _ _))
 have i0:au (bT (w.map M.mark++r.map M.mark).length (fW (w.map M.mark++r.map M.mark) (w.map M.mark).length s)) (.int 0)=some (.bool (wB M w r s)):=gr (i:=0) (by rw [List.length_append,length_map,length_map];exact lt_of_lt_of_le W.ne (le_add_left _ _)) (le_trans hn (by decide))
 unfold Il
 exact ab rfl (ab rfl (ab rW (ab rfl (ab vf (aB Z (ab i0 rfl))))))
theorem Ig (W:Wa M w r)(hd:dep s<=10){n:Nat}{κ:PK aW}:Ik ⟨aj Ψ (n+24)⟩ (aF M s w r (some (mm M w r)) (some (.bool (wB M w r s)))) σ κ=κ (aF M s w r (some (mm M w r)) (some (.bool (wB M w r s)))) σ:=by
 have hn:(w.map M.mark++r.map M.mark).length<=1000:=by rw [<-map_append,length_map];exact W.len
 have Z:=zi (σ:=σ) (w:=w.map M.mark) (r:=r.map M.mark) (by rw [length_map];exact W.ne) hn (s:=s) (le_trans hd (by decide)) n
 unfold Ik
 exact ab rfl (ab rfl (ab rW (ab rfl (ab vf (aB Z (ab rfl (ab (Ib _) rfl)))))))
theorem oR (O:M.Ok)(W:Wa M w r)(hd:dep s<=10)(n:Nat):aj Ψ (n+25) 60 [M.t,.tup M.fs,bx s,bz w,bz r] σ=.ret (.bool (wB M w r s)) σ:=by
 refine rE ?_
 rw [Gl]
 exact (Ij O W).trans ((Ii O W).trans ((Ih W hd).trans ((Ig W hd).trans rfl)))
end
theorem lq (L:List Nat)(a:Nat):au (bz (L++[a])) (.int (-1))=some (nT a):=by
 have e:seqIndex? (-1) ((L++[a]).map nT).length=some L.length:=by
  rw [length_map,List.length_append]
  show (if (decide (0<=(if (-1:Int) < 0 then (-1:Int)+((L.length+1:Nat):Int) else -1))&&decide ((if (-1:Int) < 0 then (-1:Int)+((L.length+1:Nat):Int) else -1) < ((L.length+1:Nat):Int)))=true then some (if (-1:Int) < 0 then (-1:Int)+((L.length+1:Nat):Int) else -1).toNat else none)=some L.length
  rw [if_pos (show (-1:Int) < 0 by decide),show (-1:Int)+((L.length+1:Nat):Int)=(L.length:Int) by lia,decide_eq_true (natCast_nonneg _),decide_eq_true (by lia)];rfl
 rw [q0,z0,show sm (-1)=true from rfl,cond_true,e]
 show ((L++[a]).map nT)[L.length]?=_
 rw [getElem?_map,getElem?_append_right (le_refl _),sub_self];rfl
theorem qf (l:List Nat)(a:Nat):lB (bz l) (nT a)=some (.int (l.count a:Nat)):=by
 unfold lB
 show o2 (di cB (nT a)) (ib (l.map nT)) (fun d es=>some (T.int ((es.countP fun y=>PyData.eqv y d:Nat):Int)))=_
 rw [dE.dat a cB trivial (by decide),ib,dE.all (by decide) l fun _ _=>trivial]
 show some (T.int ((((l.map fun n:Nat=>PyData.int n).countP fun y=>PyData.eqv y (PyData.int a)):Nat):Int))=_
 rw [List.countP_map,show (fun y=>PyData.eqv y (PyData.int a)) ∘ (fun n:Nat=>PyData.int n)=fun c=>decide (c=a) from funext fun c=>dE.eqb c a]
 exact congrArg (fun n:Nat=>some (T.int n)) (List.countP_congr fun x _=>by rw [beq_iff_eq,decide_eq_true_iff])
theorem uL {l:List Nat}{a i:Nat}(hi:i<=lim)(h:a∈l.drop i):gW (bz l) (nT a) (nT i)=some (nT (i+(l.drop i).idxOf a)):=by
 show (bif decide ((0:Int)<=i)&&sm i then o2 (di cB (nT a)) (ib (l.map nT)) fun d es=>o1 ((es.drop (i:Int).toNat).findIdx? fun y=>PyData.eqv y d) fun j=>some (T.int ((i:Int)+(j:Nat))) else none)=_
 rw [decide_eq_true (natCast_nonneg i),jv hi,dE.dat a cB trivial (by decide),ib,dE.all (by decide) l fun _ _=>trivial]
 show o1 ((((l.map fun n:Nat=>PyData.int n)).drop i).findIdx? fun y=>PyData.eqv y (PyData.int a)) _=_
 rw [<-map_drop,kx,show (fun y=>PyData.eqv y (PyData.int a)) ∘ (fun n:Nat=>PyData.int n)=fun c=>decide (c=a) from funext fun c=>dE.eqb c a,kA h];rfl
theorem vt {L:List Nat}{a:Nat}(h:a∈L):L.idxOf a < L.length/\L[L.idxOf a]?=some a:=by
 have l:=List.idxOf_lt_length_iff.mpr h
 exact ⟨l,by rw [getElem?_eq_getElem l];exact congrArg some (List.getElem_idxOf l)⟩
theorem vT {L:List Nat}{a b:Nat}(h:a∈L):(L++[b]).idxOf a=L.idxOf a:=by rw [List.idxOf_append,if_pos h]
theorem uQ {L:List Nat}{a:Nat}:(L.take (L.idxOf a+1)).count a<=1:=by
 induction L with
 |nil=>exact zero_le _
 |cons b L ih=>
  by_cases q:b=a
  .rw [idxOf_cons,beq_iff_eq.mpr q]
   show ([b].count a)<=1
   exact List.count_le_length
  .rw [idxOf_cons,beq_eq_false_iff_ne.mpr q]
   show ((b::L.take (L.idxOf a+1)).count a)<=1
   rw [List.count_cons_of_ne q];exact ih
theorem xu {L:List Nat}{a:Nat}(h:2 < (L++[a]).count a):a∈L.drop (L.idxOf a+1):=by
 rw [List.count_append,List.count_singleton_self] at h
 have e:=congrArg (List.count a) (List.take_append_drop (L.idxOf a+1) L)
 rw [List.count_append] at e
 have:=uQ (L:=L) (a:=a)
 exact List.count_pos_iff.mp (by lia)
theorem Dc {M:Mc}{L:List Nat}{a i:Nat}(hl:L.length<=1000)(lt:∀p∈L,p < M.names.length)(hd:∃b,L.head?=some b/\b∈M.firsts)(nx:∀j u v,(L++[a])[j]?=some u->(L++[a])[j+1]?=some v->v∈M.road u)(hi:i < L.length)(ha:L[i]?=some a):Wa M (L.take i) (L.drop i):=by
 have e:L.take i++L.drop i=L:=List.take_append_drop ..
 have t:(L.drop i).take 1=[a]:=by
  rw [List.take_one,head?_drop,ha];rfl
 exact ⟨by rw [length_drop];lia,by rw [e];exact lt,by rw [e];exact hd,by rw [e,t];exact nx,by rw [e];exact hl⟩
section
variable {M:Mc} {ns:List Int} {f:Nat}
structure EJ (M:Mc) (f:Nat) (L:List Nat) (a:Nat):Prop where
 lt:∀p∈L++[a],p < M.names.length
 hd:∃b,(L++[a]).head?=some b/\b∈M.firsts
 nx:dL M.road (L++[a])
 nd:(L.drop f).Nodup
theorem EJ.len {L:List Nat}{a:Nat}(O:M.Ok)(hf:f < 5)(P:EJ M f L a):L.length<=17:=by
 have:=aY (m:=List.range M.names.length) P.nd fun p hp=>bI (P.lt p (mem_append_left _ (List.mem_of_mem_drop hp)))
 rw [length_range,length_drop] at this
 have:=O.few
 lia
theorem EJ.step {L:List Nat}{a b:Nat}(O:M.Ok)(P:EJ M f L a)(h:L.length+1<=f\/a∉L)(hb:b∈M.road a):EJ M f (L++[a]) b:=by
 have ha:=P.lt a (mem_append_right _ (.head _))
 refine ⟨fun p hp=>(ah hp).elim (P.lt p) fun q=>ae q▸(iw O ha).lt b hb,?_,P.nx.app (dL.one b) fun u v hu hv=>?_,?_⟩
 .obtain ⟨c,h1,h2⟩:=P.hd
  exact ⟨c,by rw [head?_append,h1];rfl,h2⟩
 .rw [getLast?_append] at hu
  cases hu;cases hv;exact hb
 .by_cases l:L.length+1<=f
  .rw [List.drop_eq_nil_of_le (by rw [List.length_append];exact l)];exact .nil
  .have q:a∉L:=h.elim (fun q=>absurd q l) id
   rw [List.drop_append_of_le_length (by lia),nodup_append]
   exact ⟨P.nd,pairwise_singleton _ _,fun x hx y hy e=>q (ae hy▸e▸List.mem_of_mem_drop hx)⟩
noncomputable abbrev By (M:Mc)(ns:List Int)(f:Nat)(L:List Nat)(x9 x10:Option T):aW:=[some (.scr ns),some .spot,some (.tup M.fs),some (nT 5),some (.lst (M.names.map .str)),some (.lst (M.roads.map bz)),some (bz M.firsts),some (bz L),some (nT f),x9,x10]
noncomputable def HD:PT:=(hJ (p2 Bs (p1 ba (pV 7)) (pV 8)) (hJ (p2 eP (p2 au (pV 7) (p1 eQ (pC (.int 1)))) (p3 ci (pV 7) jB (p1 cN (p1 eQ (pC (.int 1)))))) cS))
noncomputable def HE:PS:=(af (aG 9 (p2 au (pV 5) (p2 au (pV 7) (p1 eQ (pC (.int 1))))))
  (af (ii 7 d9 (p2 au (pV 9) (p2 bM (aw 18 (aa (pV 0) (aa (pV 1) ao))) (p1 ba (pV 9)))))
  an))
theorem le_int (a b:Int):Bs (.int a) (.int b)=some (decide (a<=b)):=rfl
theorem Hy {c:cr}{σ:Sg}{L:List Nat}{a:Nat}{x9 x10:Option T}{κ:PK Bool}{o:cg}(h:κ (decide (L.length+1<=f)||!decide (a∈L)) σ=o):HD c (By M ns f (L++[a]) x9 x10) σ κ=o:=by
 have e:decide ((((L++[a]).map nT).length:Int)<=(f:Int))=decide (L.length+1<=f):=by
  rw [length_map,List.length_append];exact decide_eq_decide.mpr Int.ofNat_le
 have e2:eP (nT a) (bz (L++[a]).dropLast)=some (!decide (a∈L)):=by
  rw [List.dropLast_concat];exact dE.nin (by decide) trivial (fun _ _=>trivial) rfl
 unfold HD
 refine ab rfl (ab rfl (ab rfl (ab (le_int _ _) ?_)))
 rw [e]
 cases q:decide (L.length+1<=f) with
 |true=>rw [q] at h;exact h
 |false=>
  rw [q,Bool.false_or] at h
  refine aL rfl (ab rfl (ab rfl (ab (lq L a) (ab rfl (ab rfl (ab rfl (ab (dO (e:=nT) (oA _)) (ab e2 ?_))))))))
  cases z:(!decide (a∈L)) with
  |true=>rw [z] at h;exact h
  |false=>rw [z] at h;exact h
theorem Hz (O:M.Ok)(hn:ns.length<=63){n j:Nat}{L:List Nat}{a:Nat}(P:EJ M f L a)(hl:L.length<=1000){x9:Option T}{κ:PK aW}{Q:T->Sg->Prop}(hk:∀b∈M.road a,∀x9,bb Q (κ (By M ns f (L++[a]++[b]) x9 none) ⟨((j+1:Nat):Int),none⟩)):bb Q (HE ⟨aj Ψ (n+1)⟩ (By M ns f (L++[a]) x9 none) ⟨(j:Int),none⟩ κ):=by
 have ha:=P.lt a (mem_append_right _ (.head _))
 have rr:=iw O ha
 have r0:0 < (M.road a).length:=List.length_pos_iff.mpr rr.ne
 unfold HE
 refine aC rfl (aC rfl (aC rfl (aC (lq L a) (aC (bF (e:=bz) (a:=M.road a) (td (by rw [O.len];exact ha)) (O.lim ha)) (aC rfl (aC rfl (aC rfl (bY (f7 hn j n) ?_))))))))
 rintro _ _ ⟨rfl,z,rfl⟩
 obtain ⟨k,h1,h2⟩:=eZ z (n:=((M.road a).map nT).length) (by rw [length_map];exact r0)
 rw [length_map] at h2
 have e:(M.road a)[k]?=some (M.road a)[k]:=getElem?_eq_getElem h2
 have kl:k<=lim:=O.lim (lt_of_lt_of_le h2 (by
  have:=aY (m:=List.range M.names.length) rr.nd fun p hp=>bI (rr.lt p hp)
  rw [length_range] at this;exact this))
 refine aC rfl (aC rfl (aC h1 (aC (bF (e:=nT) e kl) (aC (dj (e:=nT) (l:=L++[a]) _ (by rw [List.length_append,bC];show L.length+1 < _;lia)) (hk _ (mem_of_getElem? e) _)))))
end
section
variable {M:Mc} {ns:List Int} {f:Nat}
theorem BR {L:List Nat}{a i:Nat}(h:i<=L.length):cut (some (i:Int)) (some (-1)) (L++[a])=L.drop i:=by
 have e1:clipAt (L++[a]).length i=i:=by rw [kH,List.length_append];exact Nat.min_eq_left (le_trans h (le_add_right _ _))
 have e2:clipAt (L++[a]).length (-1)=L.length:=by rw [rt,List.length_append];rfl
 simp only [cut,Option.elim,e1,e2]
 rw [List.drop_append_of_le_length h,List.take_left' (length_drop ..)]
theorem BU {L:List Nat}{a i:Nat}(h:i<=L.length):cut none (some (i:Int)) (L++[a])=L.take i:=by rw [iR,List.take_append_of_le_length h]
noncomputable def HG:PS:=(aG 10 (uw .list jD (pV 7) (p2 au (pV 7) (p1 eQ (pC (.int 1))))))
noncomputable def HF:PS:=(bK (p2 Au (uw .list lB (pV 7) (p2 au (pV 7) (p1 eQ (pC (.int 1))))) (pC (.int 2)))
  (af (aG 10 (GA .list gW (pV 7) (p2 au (pV 7) (p1 eQ (pC (.int 1)))) (p2 bc (pV 10) (pC (.int 1)))))
  an)
  an)
noncomputable def GF:PS:=(aH (aM (aa (p3 ci (pV 7) jB (p1 cN (pV 10))) (aa (p3 ci (pV 7) (p1 cN (pV 10)) (p1 cN (p1 eQ (pC (.int 1))))) ao))))
theorem HC {c:cr}{σ:Sg}{L:List Nat}{a:Nat}{x9:Option T}{κ:PK aW}(h:a∈L):HG c (By M ns f (L++[a]) x9 none) σ κ=κ (By M ns f (L++[a]) x9 (some (nT (L.idxOf a)))) σ:=by
 have e:=dE.idx (by decide) (a:=a) (l:=L++[a]) trivial (fun _ _=>trivial) (mem_append_left _ h)
 rw [vT h] at e
 unfold HG
 exact ab rfl (ab rfl (ab rfl (ab (lq L a) (ab e rfl))))
theorem HB {c:cr}{σ:Sg}{L:List Nat}{a:Nat}{x9:Option T}{κ:PK aW}(hl:L.length<=1000)(h:a∈L):∃i,i < L.length/\L[i]?=some a/\HF c (By M ns f (L++[a]) x9 (some (nT (L.idxOf a)))) σ κ=κ (By M ns f (L++[a]) x9 (some (nT i))) σ:=by
 obtain ⟨i1,i2⟩:=vt h
 unfold HF
 cases q:decide (2 < (L++[a]).count a) with
 |false=>exact ⟨_,i1,i2,ab rfl (ab rfl (ab rfl (ab (lq L a) (ab (qf _ a) (ab (congrArg some ((decide_eq_decide.mpr ofNat_lt).trans q)) rfl)))))⟩
 |true=>
  have m:=xu (of_decide_eq_true q)
  have dl:L.drop (L.idxOf a+1)++[a]=(L++[a]).drop (L.idxOf a+1):=(List.drop_append_of_le_length i1).symm
  have e:=uL (l:=L++[a]) (a:=a) (i:=L.idxOf a+1) (le_trans i1 (le_trans hl (by decide))) (by rw [<-dl];exact mem_append_left _ m)
  rw [<-dl,vT m] at e
  obtain ⟨j1,j2⟩:=vt m
  rw [length_drop] at j1
  rw [List.getElem?_drop] at j2
  exact ⟨_,Nat.add_lt_of_lt_sub' j1,j2,ab rfl (ab rfl (ab rfl (ab (lq L a) (ab (qf _ a) (ab (congrArg some ((decide_eq_decide.mpr ofNat_lt).trans q)) (eh rfl (ab rfl (ab rfl (ab rfl (ab (lq L a) (ab rfl (ab (add_int _ _) (ab e rfl)))))))))))))⟩
theorem HA {c:cr}{σ:Sg}{L:List Nat}{a i:Nat}{x9:Option T}{κ:PK aW}(h:i < L.length):af GF an c (By M ns f (L++[a]) x9 (some (nT i))) σ κ=.ret (.tup [bz (L.take i),bz (L.drop i)]) σ:=by
 unfold GF
 exact ab rfl (ab rfl (ab rfl (ab (dO (e:=nT) (BU (le_of_lt h))) (ab rfl (ab rfl (ab rfl (ab rfl (ab rfl (ab (dO (e:=nT) (BR (le_of_lt h))) rfl)))))))))
theorem FF:fZ=(af (lP [4,5,6] (pV 2))
  (af (aG 7 (bX (aa (p2 au (pV 6) (p2 bM (aw 18 (aa (pV 0) (aa (pV 1) ao))) (p1 ba (pV 6)))) ao)))
  (af (aG 8 (p2 bM (aw 18 (aa (pV 0) (aa (pV 1) ao))) (pV 3)))
  (af (eR 100 HD HE) (af HG (af HF (af GF an))))))):=rfl
inductive IT (M:Mc) (ns:List Int) (f:Nat):List Nat×Nat->aW->Sg->Prop
 |mk {L:List Nat} {a j:Nat} {x9:Option T} (P:EJ M f L a):IT M ns f (L,a) (By M ns f (L++[a]) x9 none) ⟨(j:Int),none⟩
theorem lV (O:M.Ok)(hn:ns.length<=63)(j n:Nat):bb (fun t σ'=>(∃j':Nat,σ'=⟨(j':Int),none⟩)/\∃w r,t=.tup [bz w,bz r]/\Wa M w r) (aj Ψ (n+2) 59 [.scr ns,.spot,.tup M.fs,nT 5] ⟨(j:Int),none⟩):=by
 refine sw ?_
 rw [FF]
 refine aC rfl (aC rfl (aC rfl (aC rfl (aC rfl (bY (f7 hn j n) ?_)))))
 rintro _ _ ⟨rfl,z,rfl⟩
 obtain ⟨k,h1,h2⟩:=eZ z (n:=(M.firsts.map nT).length) (by rw [length_map];exact List.length_pos_iff.mpr O.firsts.ne)
 rw [length_map] at h2
 have e:M.firsts[k]?=some M.firsts[k]:=getElem?_eq_getElem h2
 have kl:k<=lim:=O.lim (lt_of_lt_of_le h2 (by
  have:=aY (m:=List.range M.names.length) O.firsts.nd fun p hp=>bI (O.firsts.lt p hp)
  rw [length_range] at this;exact this))
 have am:=mem_of_getElem? e
 generalize M.firsts[k]=a at e am
 refine aC rfl (aC rfl (aC h1 (aC (bF (e:=nT) e kl) (oq rfl (aC rfl (aC rfl (bY (f7 hn (j+1) n) ?_)))))))
 rintro _ _ ⟨rfl,z',rfl⟩
 obtain ⟨f,h3,h4⟩:=eZ z' (n:=5) (by decide)
 refine aC rfl (aC h3 ?_)
 refine js (S:=List Nat×Nat) (IT M ns f) (fun x=>decide (x.1.length+1<=f)||!decide (x.2∈x.1)) (fun x=>20 - x.1.length) ?_ ?_ ?_ (s:=([],a)) (show 20 - 0 < 100 by decide) (.mk (L:=[]) ⟨fun p hp=>ae hp▸O.firsts.lt a am,⟨a,rfl,am⟩,dL.one a,by rw [List.drop_nil];exact .nil⟩)
 .rintro _ _ _ ⟨P⟩ k hk
  exact AO (Hy rfl) hk
 .rintro _ _ _ @⟨L,a,j,x9,P⟩ hg κ hκ
  have l:=P.len O h4
  have g:L.length+1<=f\/a∉L:=(or_eq_true_iff.mp hg).elim (fun q=>.inl (of_decide_eq_true q)) fun q=>.inr (of_decide_eq_false ((not_eq_true' _).mp q))
  exact Hz O hn P (le_trans l (by decide)) fun b hb x9=>hκ (L++[a],b) _ _ (show 20 - (L++[a]).length < 20 - L.length by rw [List.length_append];show 20 - (L.length+1) < _;lia) (.mk (P.step O g hb))
 .rintro _ _ _ @⟨L,a,j,x9,P⟩ hg
  have l:=le_trans (P.len O h4) (show 17<=1000 by decide)
  have m:a∈L:=of_decide_eq_true (Bool.not_eq_false' ..▸(Bool.or_eq_false_iff.mp hg).2)
  obtain ⟨i,i1,i2,ei⟩:=HB (M:=M) (ns:=ns) (f:=f) (c:=⟨aj Ψ (n+1)⟩) (σ:=⟨(j:Int),none⟩) (x9:=x9) (κ:=fun ρ σ=>af GF an ⟨aj Ψ (n+1)⟩ ρ σ (kE 59)) l m
  exact AO ((HC m).trans (ei.trans (HA i1))) (cR ⟨⟨j,rfl⟩,_,_,rfl,Dc l (fun p hp=>P.lt p (mem_append_left _ hp)) (by
   obtain ⟨b,h1,h2⟩:=P.hd
   cases L with
   |nil=>cases m
   |cons c L=>exact ⟨b,h1,h2⟩) P.nx i1 i2⟩)
end
section
variable {ns:List Int}
noncomputable def IG:List Nat:=[4,3,2,12,8]
noncomputable def bnd:List Nat:=[2,3,4,1,1]
theorem EZ {y:Nat}(h:y < 16):∃i,i < 5/\(y∉[3,4]->i < 3)/\iK (nT y) (.int (u5 (decide ((y:Int) < 5))))=some (nT i):=by
 have m:∀a:Int,iK (nT y) (.int a)=some (.int (y * a)):=fun a=>mx a (jv (le_trans (le_of_lt h) (by decide)))
 by_cases q:y < 5
 .refine ⟨y,q,fun z=>?_,?_⟩
  .refine Classical.byContradiction fun l=>z ?_
   have:y=3\/y=4:=by lia
   rcases this with rfl |rfl
   .exact .head _
   .exact .tail _ (.head _)
  .rw [m,decide_eq_true (by lia)];exact congrArg (fun i=>some (T.int i)) (Int.mul_one _)
 .refine ⟨0,by decide,fun _=>by decide,?_⟩
  rw [m,decide_eq_false (by lia)];exact congrArg (fun i=>some (T.int i)) (Int.mul_zero _)
structure Pb (i p b:Nat):Prop where
 e1:IG[i]?=some p
 e2:bnd[i]?=some b
 p0:0 < p
 p12:p<=12
 b4:b<=4
 sz:p * 2 ^ b<=128
 p4:i < 3->p<=4
theorem pb:∀i,i < 5->∃p b,Pb i p b
 | 0,_=>⟨4,2,rfl,rfl,by decide,by decide,by decide,by decide,fun _=>by decide⟩
 | 1,_=>⟨3,3,rfl,rfl,by decide,by decide,by decide,by decide,fun _=>by decide⟩
 | 2,_=>⟨2,4,rfl,rfl,by decide,by decide,by decide,by decide,fun _=>by decide⟩
 | 3,_=>⟨12,1,rfl,rfl,by decide,by decide,by decide,by decide,fun h=>absurd h (by decide)⟩
 | 4,_=>⟨8,1,rfl,rfl,by decide,by decide,by decide,by decide,fun h=>absurd h (by decide)⟩
structure GS (M:Mc) (s:Sy):Prop where
 ok:M.Ok
 g:Gd s
 u:(t6 M s).length<=128
theorem xO (hn:ns.length<=63)(j n:Nat){x y z:Str}(N:C9 x y z):bb (fun t w'=>(∃j':Nat,w'=⟨(j':Int),none⟩)/\∃M s,t=.tup [.tup M.fs,bx s]/\GS M s) (aj Ψ (n+14) 48 [.scr ns,.spot,o4 x y z,nT 4] ⟨(j:Int),none⟩):=by
 refine qC (aC rfl (bY (v8 hn 0 (n+12)) ?_))
 rintro _ _ ⟨rfl,c,rfl⟩
 obtain ⟨y',h1,h2⟩:=eZ (c.fdiv (5:Nat)) (n:=16) (by decide)
 obtain ⟨i,i5,i3,ei⟩:=EZ h2
 obtain ⟨p,b,B⟩:=pb i i5
 have i6:i<=lim:=le_trans (le_of_lt i5) (by decide)
 refine aC (cJ c (k:=5) rfl) (aC h1 (oq rfl (aC rfl (aC rfl (aC rfl (aC rfl (aC ei (aC (bF (e:=nT) (l:=IG) B.e1 i6) (oq rfl (aC rfl (aC rfl (aC rfl (aC rfl (aC ei (aC (bF (e:=nT) (l:=bnd) B.e2 i6) (aC rfl (aC rfl (aC rfl (aC rfl (bY (uE hn j (n+11) N B.p0 B.p12) ?_))))))))))))))))))))
 rintro _ _ ⟨⟨j1,rfl⟩,M,rfl,O,ml⟩
 refine aC rfl (aC rfl (aC rfl (aC rfl (bY (Bh hn N 4 j1 (n+12) (by decide) (le_trans (by decide) (le_add_left 12 n))) ?_))))
 rintro _ _ ⟨⟨j2,rfl⟩,s0,rfl,d0,g0⟩
 refine aC rfl (bY (Ej (m:=b) (le_trans d0 (by decide)) g0 (n+1)) ?_)
 rintro _ _ ⟨rfl,s,rfl,ds,gs,bs⟩
 refine aC rfl (aC rfl (bY (f7 hn j2 (n+12)) ?_))
 rintro _ _ ⟨rfl,c2,rfl⟩
 have S1:GS M s:=⟨O,⟨⟨le_trans (le_trans ds d0) (by decide),le_trans bs B.b4,gs⟩,fun _=>le_trans ds d0⟩,by rw [mu];exact le_trans (Nat.mul_le_mul ml (pow_le_pow_right (by decide) bs)) B.sz⟩
 refine aC rfl (aC (dD c2 (k:=3) (by decide)) (aC (fO _ _) (fu (fun _=>?_) fun _=>?_)))
 .refine aC rfl (oq rfl (aC (dE.nin (by decide) (a:=y') (l:=[3,4]) trivial (fun _ _=>trivial) rfl) (fu (fun q=>?_) fun _=>?_)))
  .have q:y'∉[3,4]:=of_decide_eq_false ((not_eq_true' _).mp q)
   refine fu (c:=true) (fun _=>aC rfl (aC (cJ c2 (k:=3) rfl) (aC rfl (bY (yp N _ (n+12)) ?_)))) fun h=>nomatch h
   rintro _ _ ⟨rfl,s',rfl,G⟩
   exact cR ⟨⟨j2+1,rfl⟩,M,s',rfl,O,G,by rw [mu];exact le_trans (Nat.mul_le_mul (le_trans ml (B.p4 (i3 q))) (pow_le_pow_right (j:=4) (by decide) G.g.few)) (by decide)⟩
  .exact cR ⟨⟨j2+1,rfl⟩,M,s,rfl,S1⟩
 .exact cR ⟨⟨j2+1,rfl⟩,M,s,rfl,S1⟩
end
noncomputable def vd (b:Bool):T:=.str (bif b then ofString "breaks" else ofString "keeps")
structure ub (M:Mc) (s:Sy) (b:Bool) (t:T):Prop where
 fm:∃l,t=.tup (vd b::l)/\(b=true->∃w r,l=[bz w,bz r]/\Wa M w r/\wB M w r s=false)
 sf:Sf cB t
 kp:b=false->Cm M s
section
variable {M:Mc} {s c:Sy} {t t':T} {b b':Bool} {w r:List Nat}
theorem ye (P:List Kn):Fg P=bz (P.map (·.p)):=congrArg T.lst (map_map (f:=fun k:Kn=>k.p) (g:=nT)).symm
theorem IC (J:GV M s t):∃b,ub M s b t:=by
 have sr:∀l:List Nat,Sf 49 (bz l):=fun l=>qx (nc fun _ _=>qy)
 rcases J with ⟨X,rfl,sx,k⟩ | ⟨K,P,R,rfl,S,B⟩
 .exact ⟨false,⟨_,rfl,fun h=>nomatch h⟩,m9 (ng qw (ng (qx sx) AL)),fun _=>k⟩
 .rw [ye,ye]
  have ⟨W,h⟩:=E0 S B
  exact ⟨true,⟨_,rfl,fun _=>⟨_,_,rfl,W,by rw [wB,length_map];exact h⟩⟩,m9 (ng qw (ng (sr _) (ng (sr _) AL))),fun h=>nomatch h⟩
theorem Wa.lasso (W:Wa M w r):jr M.road M.firsts w r:=by
 obtain _ | ⟨c,r'⟩:=r
 .exact absurd W.ne (Nat.lt_irrefl 0)
 have nx:dL M.road ((w++c::r')++[c]):=W.nxt
 have hy:(w++c::r').getLast?=some ((c::r').getLast (List.cons_ne_nil _ _)):=by rw [getLast?_append,List.getLast?_eq_some_getLast (List.cons_ne_nil _ _)];rfl
 exact ⟨nx.left,W.hd,c,_,rfl,List.getLast?_eq_some_getLast (List.cons_ne_nil _ _),nx.snoc hy⟩
theorem Wa.run (W:Wa M w r):∃p,Ir M p/\(fun i=>M.mark (p i))=lw (w.map M.mark++r.map M.mark) (w.map M.mark).length:=by
 have L:=W.lasso
 have hb:=L.lt
 have h0:0 < (w++r).length:=lt_of_le_of_lt (zero_le _) hb
 have lt:=fun t=>p8 hb t 0 h0
 let κ:Nat->Nat:=fun t=>(w++r)[it (w++r).length w.length t 0]'(lt t)
 have hκ:∀t,(w++r)[it (w++r).length w.length t 0]?=some (κ t):=fun t=>getElem?_eq_getElem (lt t)
 obtain ⟨a,ha,hs⟩:=L.hd
 have e0:κ 0=a:=Option.some.inj ((hκ 0).symm.trans (by rw [<-ha,head?_eq_getElem?];rfl))
 refine ⟨κ,⟨by rw [e0];exact hs,fun i=>L.step (hκ i) (by rw [<-kj];exact hκ (i+1))⟩,?_⟩
 funext t
 rw [lw,<-map_append,length_map,length_map,getElem?_map,hκ t];rfl
theorem mz (H:Cm M s)(W:Wa M w r):wB M w r s=true:=by
 obtain ⟨p,R,e⟩:=W.run
 have:=y2 H R
 rw [e] at this
 exact bf.mpr this
theorem vc.wb (h:vc s c):wB M w r c=!wB M w r s:=by
 have e:=h.sem (lw (w.map M.mark++r.map M.mark) (w.map M.mark).length)
 rw [Bool.eq_iff_iff,not_eq_true',<-not_eq_true]
 exact bf.trans (e.trans (not_congr bf.symm))
theorem EG (O:M.Ok):∃w r,Wa M w r:=by
 obtain ⟨_,_,_,_,w,r,_,W⟩:=lV (ns:=[]) O (by decide) 0 0
 exact ⟨w,r,W⟩
theorem ub.not (O:M.Ok)(h:vc s c)(T0:ub M s false t)(T1:ub M c false t'):False:=by
 obtain ⟨w,r,W⟩:=EG O
 have e:=mz (T1.kp rfl) W
 rw [h.wb,mz (T0.kp rfl) W] at e
 cases e
end
end
end Mine.L08
namespace Mine
noncomputable section
open PySem
noncomputable abbrev rM (a:Int)(σ:Sg):Sg:=⟨a,σ.self⟩
noncomputable def mp (a:Int)(o:cg):cg:=cg.rec (motive:=fun _=>cg) (fun t σ=>.ret t (rM a σ)) (fun ρ σ=>.fall ρ (rM a σ)) (fun c σ=>.exc c (rM a σ)) .bad o
section
variable {a:Int} {c:cr} {α z γ u:Type}
noncomputable def Nk (a:Int)(k k':PK α):Prop:=∀v σ,k' v (rM a σ)=mp a (k v σ)
noncomputable def Nt (a:Int)(c:cr)(p:PG α):Prop:=∀ρ (σ:Sg) (k k':PK α),Nk a k k'->p c ρ (rM a σ) k'=mp a (p c ρ σ k)
noncomputable def Cl (a:Int)(c:cr)(f:Nat):Prop:=∀args σ,c.call f args (rM a σ)=mp a (c.call f args σ)
theorem jS {o:Option α}{σ:Sg}{k k':PK α}(h:Nk a k k'):up o (rM a σ) k'=mp a (up o σ k):=by
 cases o with
 |none=>rfl
 |some v=>exact h v σ
theorem iV {b:Bool}{x x' y y':cg}(h:x'=mp a x)(h2:y'=mp a y):(bif b then x' else y')=mp a (bif b then x else y):=by
 cases b
 .exact h2
 .exact h
theorem w9 {b:Bool}{x x':cg}(h:x'=mp a x):gd b x'=mp a (gd b x):=by
 cases b
 .rfl
 .exact h
theorem yo {o o':cg}{k k':PK T}(h:Nk a k k')(e:o'=mp a o):sH o' k'=mp a (sH o k):=by
 subst e
 cases o with
 |ret t σ=>rewrite [vE];show sH (.ret t (rM a σ)) k'=_;rw [vE];exact h t σ
 |_=>with_unfolding_all rfl
variable {e l m r:PE} {s t:PT} {x y:PL} {p q:PS}
theorem nV {i:Nat}:Nt a c (pV i):=fun _ _ _ _ h=>jS h
theorem nC {v:T}:Nt a c (pC v):=fun _ σ _ _ h=>h v σ
theorem n1 {f:α->Option z}{e:PG α}(h1:Nt a c e):Nt a c (p1 f e):=fun ρ σ _ _ h=>h1 ρ σ _ _ fun _ _=>jS h
theorem n2 {f:α->z->Option γ}{l:PG α}{r:PG z}(h1:Nt a c l)(h2:Nt a c r):Nt a c (p2 f l r):=fun ρ σ _ _ h=>h1 ρ σ _ _ fun _ σ=>h2 ρ σ _ _ fun _ _=>jS h
theorem n3 {f:α->z->γ->Option u}{l:PG α}{m:PG z}{r:PG γ}(h1:Nt a c l)(h2:Nt a c m)(h3:Nt a c r):Nt a c (p3 f l m r):=fun ρ σ _ _ h=>h1 ρ σ _ _ fun _ σ=>h2 ρ σ _ _ fun _ σ=>h3 ρ σ _ _ fun _ _=>jS h
theorem nB (h1:Nt a c t):Nt a c (pB t):=fun ρ σ _ _ h=>h1 ρ σ _ _ fun b σ=>h _ σ
theorem aN:Nt a c ao:=fun _ σ _ _ h=>h _ σ
theorem ar (h1:Nt a c e)(h2:Nt a c x):Nt a c (aa e x):=fun ρ σ _ _ h=>h1 ρ σ _ _ fun _ σ=>h2 ρ σ _ _ fun _ σ=>h _ σ
theorem d6 (h1:Nt a c x):Nt a c (aM x):=fun ρ σ _ _ h=>h1 ρ σ _ _ fun _ σ=>iV (h _ σ) rfl
theorem gS (h1:Nt a c x):Nt a c (bX x):=fun ρ σ _ _ h=>h1 ρ σ _ _ fun _ σ=>iV (h _ σ) rfl
theorem uD (h1:Nt a c t):Nt a c (dK t):=fun ρ σ _ _ h=>h1 ρ σ _ _ fun b σ=>h _ σ
theorem I6 (h1:Nt a c s)(h2:Nt a c t):Nt a c (er s t):=fun ρ σ _ _ h=>h1 ρ σ _ _ fun _ σ=>iV (h2 ρ σ _ _ h) (h _ σ)
theorem DD (h1:Nt a c s)(h2:Nt a c t):Nt a c (hJ s t):=fun ρ σ _ _ h=>h1 ρ σ _ _ fun _ σ=>iV (h _ σ) (h2 ρ σ _ _ h)
theorem yB:Nt a c aJ:=fun _ σ _ _ h=>h _ σ
theorem Hx:Nt a c cS:=fun _ σ _ _ h=>h _ σ
theorem pU (h1:Nt a c l)(h2:Nt a c r):Nt a c (jj l r):=fun ρ σ _ _ h=>h1 ρ σ _ _ fun v σ=>by
 cases dM v with
 |none=>rfl
 |some b=>cases b with
  |true=>exact h2 ρ σ _ _ h
  |false=>exact h v σ
theorem A4 (h1:Nt a c l)(h2:Nt a c r):Nt a c (xB l r):=fun ρ σ _ _ h=>h1 ρ σ _ _ fun v σ=>by
 cases dM v with
 |none=>rfl
 |some b=>cases b with
  |true=>exact h v σ
  |false=>exact h2 ρ σ _ _ h
theorem bo {f:Nat}(hf:Cl a c f)(h1:Nt a c x):Nt a c (aw f x):=fun ρ σ _ _ h=>h1 ρ σ _ _ fun vs σ=>yo h (hf vs σ)
theorem nZ:Nt a c an:=fun ρ σ _ _ h=>h ρ σ
theorem aA (h1:Nt a c p)(h2:Nt a c q):Nt a c (af p q):=fun ρ σ _ _ h=>h1 ρ σ _ _ fun ρ σ=>h2 ρ σ _ _ h
theorem cV {i:Nat}(h1:Nt a c e):Nt a c (aG i e):=fun ρ σ _ _ h=>h1 ρ σ _ _ fun _ σ=>h _ σ
theorem ik (h1:Nt a c t)(h2:Nt a c p)(h3:Nt a c q):Nt a c (bK t p q):=fun ρ σ _ _ h=>h1 ρ σ _ _ fun _ σ=>iV (h2 ρ σ _ _ h) (h3 ρ σ _ _ h)
theorem bQ (h1:Nt a c e):Nt a c (aH e):=fun ρ σ _ _ _=>h1 ρ σ _ _ fun _ _=>rfl
theorem CL (h1:Nt a c e):Nt a c (jQ e):=fun ρ σ _ _ h=>h1 ρ σ _ _ fun _ σ=>h ρ σ
theorem FA:Nt a c eS:=fun _ _ _ _ _=>rfl
theorem FQ {bd:PB}(h1:Nt a c p):∀(l:List T) (ρ:aW) (σ:Sg) (k k':PK aW),Nk a k k'->cD bd p c l ρ (rM a σ) k'=mp a (cD bd p c l ρ σ k):=fun l=>by
 induction l with
 |nil=>exact fun ρ σ _ _ h=>h ρ σ
 |cons v l ih=>
  intro ρ σ k k' h
  rw [q8,q8]
  cases bd v ρ with
  |none=>rfl
  |some ρ=>exact h1 ρ σ _ _ fun ρ σ=>ih ρ σ _ _ h
theorem j8 {bd:PB}(h1:Nt a c x)(h2:Nt a c p):Nt a c (cU x bd p):=fun ρ σ _ _ h=>h1 ρ σ _ _ fun l σ=>FQ h2 l ρ σ _ _ h
theorem nY {n:Nat}(h1:Nt a c t)(h2:Nt a c p):Nt a c (eR n t p):=by
 show ∀ρ σ k k',Nk a k k'->f8 t p c n ρ (rM a σ) k'=mp a (f8 t p c n ρ σ k)
 induction n with
 |zero=>intro ρ σ k k' _;rw [mZ,mZ];rfl
 |succ n ih=>
  intro ρ σ k k' h
  rw [il,il]
  exact h1 ρ σ _ _ fun _ σ=>iV (h2 ρ σ _ _ fun ρ σ=>ih ρ σ _ _ h) (h ρ σ)
theorem zH {bd:PB}(h1:Nt a c t)(h2:Nt a c e):∀(l:List T) (ρ:aW) (σ:Sg) (acc:List T) (k k':PK (List T)),Nk a k k'->br bd t e c ρ l (rM a σ) acc k'=mp a (br bd t e c ρ l σ acc k):=fun l=>by
 induction l with
 |nil=>intro ρ σ acc k k' h;rw [mJ,mJ];exact h acc σ
 |cons v l ih=>
  intro ρ σ acc k k' h
  rw [mL,mL]
  cases bd v ρ with
  |none=>rfl
  |some ρ'=>exact h1 ρ' σ _ _ fun _ σ=>iV (h2 ρ' σ _ _ fun _ σ=>ih ρ σ _ _ _ h) (ih ρ σ _ _ _ h)
theorem eX {bd:PB}(h1:Nt a c x)(h2:Nt a c t)(h3:Nt a c e):Nt a c (aV x bd t e):=fun ρ σ _ _ h=>h1 ρ σ _ _ fun l σ=>zH h2 h3 l ρ σ _ _ _ fun _ σ=>h _ σ
theorem I5 {K:MK}{F:T->T->Option T}(h1:Nt a c l)(h2:Nt a c r):Nt a c (uw K F l r):=fun ρ σ _ _ h=>h1 ρ σ _ _ fun _ σ=>w9 (h2 ρ σ _ _ fun _ _=>jS h)
theorem yC {i:Nat}{F:T->T->Option T}(h1:Nt a c e):Nt a c (ii i F e):=fun ρ σ k k' h=>by
 show (match bV ρ i with |some x=>_ |none=>cg.bad)=mp a (match bV ρ i with |some x=>_ |none=>cg.bad)
 cases bV ρ i with
 |none=>rfl
 |some y=>exact w9 (h1 ρ σ _ _ fun _ σ=>jS fun _ σ=>h _ σ)
theorem EO {i:Nat}{F:T->T->T->Option T}(h1:Nt a c l)(h2:Nt a c e):Nt a c (ud i F l e):=fun ρ σ k k' h=>h2 ρ σ _ _ fun v σ=>by
 cases bV ρ i with
 |none=>rfl
 |some y=>exact h1 ρ σ _ _ fun _ σ=>jS fun _ σ=>h _ σ
theorem Ht {j:Nat}{is:List Nat}:Nt a c (wC j is):=fun _ _ _ _ h=>jS h
theorem Fx {j i:Nat}:Nt a c (nM j i):=fun _ _ _ _ h=>jS h
theorem CG:Nt a c jB:=fun _ σ _ _ h=>h _ σ
theorem A5:Nt a c ux:=fun _ σ _ _ h=>h _ σ
theorem Hv:Nt a c rQ:=fun ρ σ k k' h=>by
 show (match bV ρ 0 with |some w=>_ |none=>cg.bad)=mp a (match bV ρ 0 with |some w=>_ |none=>cg.bad)
 cases bV ρ 0 with
 |none=>rfl
 |some w=>
  show (match sS w with |some t=>_ |none=>cg.bad)=mp a (match sS w with |some t=>_ |none=>cg.bad)
  cases sS w<;>rfl
theorem lh {d i:Nat}:Nt a c (fX d i):=fun ρ σ k k' h=>jS (o:=o1 (bV ρ 0) (IF d i σ)) h
theorem DE {d i:Nat}:Nt a c (o7 d i):=fun ρ σ k k' h=>jS (o:=cq d i ρ σ) h
theorem CH {d f:Nat}(hf:Cl a c f)(h1:Nt a c e)(h2:Nt a c x):Nt a c (rN d f e x):=fun ρ σ _ _ h=>h1 ρ σ _ _ fun t σ=>w9 (h2 ρ σ _ _ fun ts σ=>yo h (hf _ σ))
theorem DC {d f:Nat}(hf:Cl a c f)(h2:Nt a c x):Nt a c (sG d f x):=fun ρ σ _ _ h=>w9 (b:=w0 d ρ σ) (h2 ρ σ _ _ fun ts σ=>yo h (hf _ σ))
theorem DB {d i:Nat}(h1:Nt a c e):Nt a c (t8 d i e):=fun ρ σ _ _ h=>h1 ρ σ _ _ fun v σ=>w9 (b:=z9 d i ρ σ) (h ρ (σ.push v))
end
section
variable {a:Int} {c:cr} {e q:PE} {x:PL}
theorem Hw {d i:Nat}{F:T->T->Option T}(h1:Nt a c q):Nt a c (CA d i F q):=fun ρ σ k k' h=>by
 show (match cq d i ρ σ with |some t=>q c ρ (rM a ⟨σ.spot,none⟩) fun s σ'=>up (F t s) ⟨σ'.spot,σ.self⟩ k' |none=>cg.bad)=mp a (match cq d i ρ σ with |some t=>q c ρ ⟨σ.spot,none⟩ fun s σ'=>up (F t s) ⟨σ'.spot,σ.self⟩ k |none=>cg.bad)
 cases cq d i ρ σ with
 |none=>rfl
 |some t=>exact h1 ρ ⟨σ.spot,none⟩ _ _ fun s σ'=>jS (σ:=⟨σ'.spot,σ.self⟩) h
theorem Fy {d i:Nat}(h1:Nt a c q):Nt a c (qK d i q):=fun ρ σ k k' h=>by
 show (match cq d i ρ σ with |some t=>gd (kT .list t) (q c ρ (rM a ⟨σ.spot,none⟩) fun v σ'=>up (d9 t v) ⟨σ'.spot,σ.self⟩ fun y σ=>k' ρ (σ.fld i y)) |none=>cg.bad)=mp a (match cq d i ρ σ with |some t=>gd (kT .list t) (q c ρ ⟨σ.spot,none⟩ fun v σ'=>up (d9 t v) ⟨σ'.spot,σ.self⟩ fun y σ=>k ρ (σ.fld i y)) |none=>cg.bad)
 cases cq d i ρ σ with
 |none=>rfl
 |some t=>exact w9 (h1 ρ ⟨σ.spot,none⟩ _ _ fun v σ'=>jS (σ:=⟨σ'.spot,σ.self⟩) fun y σ=>h ρ (σ.fld i y))
theorem CJ {d i:Nat}(h1:Nt a c q)(h2:Nt a c e):Nt a c (pR d i q e):=fun ρ σ k k' h=>h2 ρ σ _ _ fun v σ=>by
 show (match cq d i ρ σ with |some t=>q c ρ (rM a ⟨σ.spot,none⟩) fun κ σ'=>up (eG t κ v) ⟨σ'.spot,σ.self⟩ fun y σ=>k' ρ (σ.fld i y) |none=>cg.bad)=mp a (match cq d i ρ σ with |some t=>q c ρ ⟨σ.spot,none⟩ fun κ σ'=>up (eG t κ v) ⟨σ'.spot,σ.self⟩ fun y σ=>k ρ (σ.fld i y) |none=>cg.bad)
 cases cq d i ρ σ with
 |none=>rfl
 |some t=>exact h1 ρ ⟨σ.spot,none⟩ _ _ fun κ σ'=>jS (σ:=⟨σ'.spot,σ.self⟩) fun y σ=>h ρ (σ.fld i y)
theorem DF {d i:Nat}{zb:PB}(h1:Nt a c e):Nt a c (nP d i zb e):=fun ρ σ k k' h=>by
 show (match o1 (cq d i ρ σ) gI with |some xs=>br zb aJ e c ρ xs (rM a ⟨σ.spot,none⟩) [] fun ys σ'=>k' (.lst ys) ⟨σ'.spot,σ.self⟩ |none=>cg.bad)=mp a (match o1 (cq d i ρ σ) gI with |some xs=>br zb aJ e c ρ xs ⟨σ.spot,none⟩ [] fun ys σ'=>k (.lst ys) ⟨σ'.spot,σ.self⟩ |none=>cg.bad)
 cases o1 (cq d i ρ σ) gI with
 |none=>rfl
 |some xs=>exact zH yB h1 xs ρ ⟨σ.spot,none⟩ _ _ _ fun ys σ'=>h _ ⟨σ'.spot,σ.self⟩
theorem Fv {d:Nat}{o:cg}{k k':PK T}(h:Nk a k k'):mc d (mp a o) k'=mp a (mc d o k):=by
 unfold mc
 cases o with
 |ret t σ=>
  show (bif isN t then (match σ.self with |some p=>bif Nat.beq p.1 d then k' (.obj d p.2) (rM a ⟨σ.spot,none⟩) else .bad |none=>.bad) else .bad)=mp a (bif isN t then (match σ.self with |some p=>bif Nat.beq p.1 d then k (.obj d p.2) ⟨σ.spot,none⟩ else .bad |none=>.bad) else .bad)
  refine iV ?_ rfl
  cases σ.self with
  |none=>rfl
  |some p=>exact iV (h _ _) rfl
 |_=>rfl
theorem Hu {d f:Nat}(hf:Cl a c f)(h1:Nt a c x):Nt a c (uv d f x):=fun ρ σ k k' h=>h1 ρ σ _ _ fun ts σ=>by
 show (match σ.self with |some _=>cg.bad |none=>mc d (c.call f (.self::ts) (rM a ⟨σ.spot,some (d,[])⟩)) k')=mp a (match σ.self with |some _=>cg.bad |none=>mc d (c.call f (.self::ts) ⟨σ.spot,some (d,[])⟩) k)
 cases σ.self with
 |some _=>rfl
 |none=>exact (congrArg (fun o=>mc d o k') (hf (.self::ts) ⟨σ.spot,some (d,[])⟩)).trans (Fv h)
end
theorem Es {a:Int}{z:Nat->Option gK}{A:Nat->Bool}(H:∀c,(∀f,A f=true->Cl a c f)->∀f F,A f=true->z f=some F->Nt a c F.body)(n:Nat):∀f,A f=true->Cl a ⟨aj z n⟩ f:=by
 induction n with
 |zero=>exact fun f _ args σ=>rfl
 |succ n ih=>
  intro f hf args σ
  show aj z (n+1) f args (rM a σ)=mp a (aj z (n+1) f args σ)
  rw [mM,mM]
  cases e:z f with
  |none=>rfl
  |some F=>
   refine iV ?_ rfl
   have:=H ⟨aj z n⟩ ih f F hf e (frame args F.ns) σ (fun _ σ=>bif kW f then .bad else .ret .none σ) (fun _ σ=>bif kW f then .bad else .ret .none σ) fun _ σ=>iV rfl rfl
   rw [this]
   cases F.body ⟨aj z n⟩ (frame args F.ns) σ (fun _ σ=>bif kW f then .bad else .ret .none σ)<;>rfl
end
end Mine
section
set_option maxRecDepth 100000
namespace Mine.L08
noncomputable section
open PySem
noncomputable def H1:List Nat:=[1,2,3,4,5,6,7,8,9,10,11,12,13,14,34,35,36,37,38,39,40,41,42,43,500,1001,1002,1003,1004,1005,1007,1008,1009]
noncomputable def Al (f:Nat):Bool:=H1.any (Nat.beq f)
theorem yz {a:Int}{c:cr}(H:∀{f:Nat},Al f=true->Cl a c f):Nt a c iC:=(aA (cV (Hu (H rfl) (ar nV (ar nV aN)))) (aA (cV (bo (H rfl) (ar nV aN))) (aA (cV (gS aN)) (aA (j8 (n1 nV) (aA (cV nC) (aA (ik (n1 (bo (H rfl) (ar nV (ar nV aN)))) (aA (cV (bo (H rfl) (ar nV (ar nV aN)))) (aA (ik (n2 nV nC) (aA (bQ (bo (H rfl) (ar nV (ar nV aN)))) nZ) nZ) nZ)) nZ) (aA (yC (eX (n1 nV) yB (d6 (ar (n2 nV nC) (ar (n2 nV nC) (ar (n2 (n2 (n1 nV) nC) nV) (ar nV aN))))))) nZ)))) (aA (bQ (d6 (ar nC (ar nV aN)))) nZ)))))
theorem sM {a:Int}{c:cr}(H:∀{f:Nat},Al f=true->Cl a c f):Nt a c eM:=(aA (cV (bo (H rfl) (ar nV aN))) (aA (cV A5) (aA (cV (gS aN)) (aA (j8 (n1 (n1 (bo (H rfl) (ar nV aN)))) (aA (ik (n2 nV nV) (aA (EO nV nC) (aA (cV (gS (ar nV aN))) (aA (cV nC) (aA (nY (n2 nV (n1 nV)) (aA (j8 (n1 (n2 nV (n2 nV nV))) (aA (ik (n2 nV nV) (aA (EO nV nC) (aA (yC nV) nZ)) nZ) nZ)) (aA (cV (n2 nV nC)) nZ))) (aA (yC nV) nZ))))) nZ) nZ)) (aA (bQ nV) nZ)))))
theorem qQ {a:Int}{c:cr}(H:∀{f:Nat},Al f=true->Cl a c f):Nt a c dQ:=(aA (bQ (A4 (nB (n2 (n1 nV) nC)) (nB (n2 (n2 nV nC) (n2 (n1 nV) (n2 nV nC)))))) nZ)
theorem A2 {a:Int}{c:cr}(H:∀{f:Nat},Al f=true->Cl a c f):Nt a c j5:=(aA (j8 (n1 (ar (n1 (n1 nV)) aN)) (aA (ik (uD (n1 (n1 (eX (n1 nV) yB (CH (H rfl) nV (ar nV (ar nV aN))))))) (aA (bQ nV) nZ) nZ) nZ)) (aA (bQ nC) nZ))
theorem sN {a:Int}{c:cr}(H:∀{f:Nat},Al f=true->Cl a c f):Nt a c eN:=(aA (cV (n3 (bo (H rfl) (ar nV (ar (n3 (n1 nV) CG (n1 (n1 nV))) (ar (n3 nV CG (n1 nC)) aN)))) CG (n1 (n1 nC)))) (aA (bQ (d6 (ar nC (ar (eX (n1 nV) yB (n2 nV nC)) (ar (eX (n1 (bo (H rfl) (ar nV (ar nV aN)))) yB (n2 nV nC)) aN))))) nZ))
theorem nU {a:Int}{c:cr}(H:∀{f:Nat},Al f=true->Cl a c f):Nt a c c7:=(aA (CL (bo (H rfl) (ar nV aN))) (aA (DB (bo (H rfl) (ar nV aN))) (aA (DB (bo (H rfl) (ar nV aN))) (aA (DB nV) (aA (DB A5) (aA (DB (gS aN)) (aA (j8 (n1 (CH (H rfl) nV aN)) (aA (j8 (n1 (bo (H rfl) (ar lh aN))) (aA (ik (uD (n1 (bo (H rfl) (ar nV (ar (CH (H rfl) nV (ar nV aN)) (ar lh (ar nV aN))))))) (aA (Fy (d6 (ar nV (ar nV aN)))) nZ) nZ) nZ)) nZ)) (aA (DB (n1 DE)) (aA (DB A5) (aA (CL (DC (H rfl) aN)) nZ))))))))))
theorem qP {a:Int}{c:cr}(H:∀{f:Nat},Al f=true->Cl a c f):Nt a c dP:=(aA (cV (gS aN)) (aA (cV A5) (aA (j8 (n1 (n1 nV)) (aA (ik (n2 nV nV) (aA (EO nV nC) (aA (cV (gS (ar (d6 (ar nV (ar nC aN))) aN))) (aA (nY (n2 nV (gS aN)) (aA Ht (aA (ik (n2 nV (n1 (n2 (n1 nV) nV))) (aA (yC nV) nZ) (aA (yC (d6 (ar nV (ar (n2 nV nC) aN)))) (aA (cV (n2 (n2 (n1 nV) nV) nV)) (aA (ik (n2 nV nV) (aA (EO nV nC) (aA (yC (d6 (ar nV (ar nC aN)))) nZ)) nZ) nZ)))) nZ))) nZ))) nZ) nZ)) (aA (bQ nV) nZ))))
theorem sO {a:Int}{c:cr}(H:∀{f:Nat},Al f=true->Cl a c f):Nt a c eO:=(aA (bQ (bo (H rfl) (ar (n2 lh nV) (ar (CH (H rfl) lh (ar (n2 nV nC) aN)) (ar lh (ar (n2 nV nC) aN)))))) nZ)
theorem wM {a:Int}{c:cr}(H:∀{f:Nat},Al f=true->Cl a c f):Nt a c gy:=(aA (cV (n1 (eX (n1 nV) yB (d6 (ar nV (ar nC aN)))))) (aA (cV (n1 nV)) (aA (nY (n2 nV (gS aN)) (aA Fx (aA (ik (n2 nV nV) (aA (bQ (bo (H rfl) (ar nV (ar nV aN)))) nZ) nZ) (aA (j8 (n1 (n2 (n1 nV) nV)) (aA (ik (n2 nV nV) (aA (EO nV nV) (aA (yC nV) nZ)) nZ) nZ)) nZ)))) (aA (bQ (gS aN)) nZ))))
theorem wL {a:Int}{c:cr}(H:∀{f:Nat},Al f=true->Cl a c f):Nt a c gx:=(aA (cV (gS (ar (n2 nV nC) aN))) (aA (j8 (n1 (ar (n1 (n1 nV)) aN)) (aA (cV (eX (n1 nV) (n1 (CH (H rfl) nV (ar nV (ar nV aN)))) nV)) (aA (cV (n2 nV (n3 (bo (H rfl) (ar nV (ar (n3 nV (n1 (n1 nC)) CG) (ar nV aN)))) (n1 nC) CG))) nZ))) (aA (cV (eX (n1 (n2 (n1 nV) (n2 nV (n1 nC)))) (n2 nV nV) nV)) (aA (bQ (n2 nV (n3 (bo (H rfl) (ar nV (ar nV (ar (n3 nV CG (n1 nC)) aN)))) CG (n1 (n1 nC))))) nZ))))
theorem pj {a:Int}{c:cr}(H:∀{f:Nat},Al f=true->Cl a c f):Nt a c du:=(aA (ik (uD (n1 (bo (H rfl) (ar nV aN)))) (aA FA nZ) nZ) (aA (ik (n2 (n1 (bo (H rfl) (ar nV aN))) nC) (aA FA nZ) nZ) (aA (bQ nV) nZ)))
theorem pk {a:Int}{c:cr}(H:∀{f:Nat},Al f=true->Cl a c f):Nt a c dw:=(aA (cV (gS (ar (d6 aN) aN))) (aA (j8 (n1 nV) (aA (cV (n2 (eX (n1 nV) yB (n2 nV (d6 (ar nC aN)))) (eX (n1 nV) yB (n2 nV (d6 (ar nC aN)))))) nZ)) (aA (bQ nV) nZ)))
theorem A3 {a:Int}{c:cr}(H:∀{f:Nat},Al f=true->Cl a c f):Nt a c j6:=(aA (cV (n2 nV nC)) (aA (ik (n2 nV nC) (aA (bQ (nB (n2 nV (n2 nV nC)))) nZ) nZ) (aA (ik (n2 nV nC) (aA (bQ nC) nZ) nZ) (aA (ik (n2 nV nC) (aA (bQ (n1 (bo (H rfl) (ar (n2 nV nC) (ar nV (ar nV (ar nV aN))))))) nZ) nZ) (aA (ik (n2 nV nC) (aA (bQ (pU (bo (H rfl) (ar (n2 nV nC) (ar nV (ar nV (ar nV aN))))) (bo (H rfl) (ar (n2 nV nC) (ar nV (ar nV (ar nV aN))))))) nZ) nZ) (aA (ik (n2 nV nC) (aA (bQ (A4 (bo (H rfl) (ar (n2 nV nC) (ar nV (ar nV (ar nV aN))))) (bo (H rfl) (ar (n2 nV nC) (ar nV (ar nV (ar nV aN))))))) nZ) nZ) (aA (ik (n2 nV nC) (aA (bQ (bo (H rfl) (ar (d6 (ar nC (ar (d6 (ar nC (ar (d6 (ar nC aN)) (ar (n2 nV nC) aN)))) aN))) (ar nV (ar nV aN))))) nZ) nZ) (aA (bQ (bo (H rfl) (ar nV (ar nV (ar nV aN))))) nZ))))))))
theorem o9 {a:Int}{c:cr}(H:∀{f:Nat},Al f=true->Cl a c f):Nt a c dt:=(aA (bQ (n2 (gS (ar nC aN)) (eX (n1 (bo (H rfl) (ar nV aN))) (n2 (n2 nV nC) (d6 (ar nC (ar nC aN)))) nV))) nZ)
theorem uB {a:Int}{c:cr}(H:∀{f:Nat},Al f=true->Cl a c f):Nt a c fG:=(aA (cV (gS aN)) (aA (j8 (n1 (bo (H rfl) (ar nV aN))) (aA (yC (eX (n1 (bo (H rfl) (ar nV aN))) (n2 nV nV) nV)) nZ)) (aA (yC (eX (n1 (bo (H rfl) (ar nV aN))) (n2 nV nV) nV)) (aA (bQ nV) nZ))))
theorem uC {a:Int}{c:cr}(H:∀{f:Nat},Al f=true->Cl a c f):Nt a c fJ:=(aA (cV (n1 (DF (d6 (ar nV (ar nC aN)))))) (aA (cV nC) (aA (nY (n2 nV (n1 DE)) (aA (cV (Hw nV)) (aA (CJ nV (DC (H rfl) (ar nV aN))) (aA (j8 (n1 (Hw nV)) (aA (ik (n2 nV nV) (aA (EO nV nC) (aA (Fy nV) nZ)) nZ) nZ)) (aA (cV (n2 nV nC)) nZ))))) nZ)))
theorem nX {a:Int}{c:cr}(H:∀{f:Nat},Al f=true->Cl a c f):Nt a c c8:=(aA (bQ (n2 lh nV)) nZ)
theorem lg {a:Int}{c:cr}(H:∀{f:Nat},Al f=true->Cl a c f):Nt a c cz:=(aA (bQ (n1 lh)) nZ)
theorem yA {a:Int}{c:cr}(H:∀{f:Nat},Al f=true->Cl a c f):Nt a c iD:=(aA (ik (n2 nV nC) (aA (bQ nC) nZ) nZ) (aA (ik (n2 (n2 nV nC) nC) (aA (bQ (A4 (n1 (bo (H rfl) (ar nV (ar nV (ar nV aN))))) (bo (H rfl) (ar (n2 nV nC) (ar nV (ar nV (ar nV aN))))))) nZ) nZ) (aA (bQ (A4 (bo (H rfl) (ar nV (ar nV (ar nV aN)))) (n1 (bo (H rfl) (ar (n2 nV nC) (ar nV (ar nV (ar nV aN)))))))) nZ)))
theorem sI {a:Int}{c:cr}(H:∀{f:Nat},Al f=true->Cl a c f):Nt a c eH:=(aA (cV (gS aN)) (aA (nY (n2 nV nC) (aA (yC nV) (aA (cV (n2 nV nV)) nZ))) (aA (bQ (n1 nV)) nZ)))
theorem sL {a:Int}{c:cr}(H:∀{f:Nat},Al f=true->Cl a c f):Nt a c eL:=(aA (bQ (bo (H rfl) (ar nV (ar nC aN)))) nZ)
theorem wO {a:Int}{c:cr}(H:∀{f:Nat},Al f=true->Cl a c f):Nt a c gA:=(aA (bQ (n2 nV (I5 nV nV))) nZ)
theorem uz {a:Int}{c:cr}(H:∀{f:Nat},Al f=true->Cl a c f):Nt a c fE:=(aA (ik (n2 (n2 nV nC) nC) (aA (bQ (gS aN)) nZ) nZ) (aA (bQ (n1 (n3 nV (n1 nC) CG))) nZ))
theorem sJ {a:Int}{c:cr}(H:∀{f:Nat},Al f=true->Cl a c f):Nt a c eJ:=(aA (ik (n2 (n2 nV nC) (d6 (ar nC (ar nC (ar nC aN))))) (aA (bQ (gS (ar nV aN))) nZ) nZ) (aA (ik (n2 (n2 nV nC) nC) (aA (cV (d6 (ar nC (ar (d6 (ar nC aN)) (ar (n2 nV nC) aN))))) (aA (bQ (gS (ar nV (ar (d6 (ar nC (ar nV aN))) aN)))) nZ)) nZ) (aA (bQ (gS aN)) nZ)))
theorem qR {a:Int}{c:cr}(H:∀{f:Nat},Al f=true->Cl a c f):Nt a c dS:=(aA (cV (d6 (ar (CH (H rfl) lh (ar (n2 nV nC) aN)) (ar (n2 nV nC) aN)))) (aA (cV (gS aN)) (aA (j8 (n1 (CH (H rfl) lh (ar (n2 nV nC) aN))) (aA (yC (eX (n1 (DC (H rfl) (ar nV (ar (CH (H rfl) lh (ar nV aN)) aN)))) yB (d6 (ar nV (ar nV aN))))) nZ)) (aA (bQ nV) nZ))))
theorem sK {a:Int}{c:cr}(H:∀{f:Nat},Al f=true->Cl a c f):Nt a c eK:=(aA (ik (DD (n2 nV nC) (DD (uD (n1 (bo (H rfl) (ar nV aN)))) Hx)) (aA (bQ nC) nZ) nZ) (aA (bQ (n1 (eX (n1 (bo (H rfl) (ar nV aN))) yB (bo (H rfl) (ar nV (ar (n2 nV nC) aN)))))) nZ))
theorem iJ {a:Int}{c:cr}(H:∀{f:Nat},Al f=true->Cl a c f):Nt a c bR:=(aA (ik (n2 (d6 (ar nV (ar nV aN))) DE) (aA (cV (eX (n1 (bo (H rfl) (ar lh aN))) (n1 (bo (H rfl) (ar lh (ar nV (ar (d6 (ar nV (ar nV aN))) aN))))) nV)) (aA (CJ (d6 (ar nV (ar nV aN))) nV) nZ)) nZ) (aA (bQ (Hw (d6 (ar nV (ar nV aN))))) nZ))
theorem md {a:Int}{c:cr}(H:∀{f:Nat},Al f=true->Cl a c f):Nt a c cM:=(aA (bQ (n1 (n2 lh nV))) nZ)
theorem uA {a:Int}{c:cr}(H:∀{f:Nat},Al f=true->Cl a c f):Nt a c fF:=(aA (ik (DD (uD (n1 (n1 nV))) (DD (n2 (n1 nV) nC) (DD (uD (n1 (n1 (n2 nV nC)))) Hx))) (aA (bQ nC) nZ) nZ) (aA (ik (n2 (n2 nV nC) nC) (aA (bQ (pU (nB (n2 (n1 nV) nC)) (pU (bo (H rfl) (ar (n2 nV nC) aN)) (nB (n2 (n2 nV nC) nC))))) nZ) nZ) (aA (ik (n2 (n2 nV nC) nC) (aA (bQ (nB (n2 (n1 nV) nC))) nZ) nZ) (aA (ik (n2 (n2 nV nC) (d6 (ar nC (ar nC (ar nC (ar nC aN)))))) (aA (bQ (nB (n2 (n1 nV) nC))) nZ) nZ) (aA (bQ (pU (nB (n2 (n2 nV nC) (d6 (ar nC (ar nC (ar nC aN)))))) (nB (n2 (n1 nV) nC)))) nZ)))))
theorem wP {a:Int}{c:cr}(H:∀{f:Nat},Al f=true->Cl a c f):Nt a c gB:=(aA (j8 (n1 nV) (aA (ik (n2 (bo (H rfl) (ar nV (ar nV (ar (n2 nV nC) aN)))) (bo (H rfl) (ar nV (ar nV (ar nV (ar nV aN)))))) (aA (bQ nC) nZ) nZ) nZ)) (aA (bQ nC) nZ))
theorem wN {a:Int}{c:cr}(H:∀{f:Nat},Al f=true->Cl a c f):Nt a c gz:=(aA (ik (DD (uD (n1 (n1 nV))) (DD (n2 (n1 nV) nC) Hx)) (aA (bQ nC) nZ) nZ) (aA (bQ (n1 (eX (n1 nV) yB (nB (n2 nV nC))))) nZ))
theorem yy {a:Int}{c:cr}(H:∀{f:Nat},Al f=true->Cl a c f):Nt a c iA:=(aA (ik (n2 (n2 nV nC) nC) (aA (bQ (bo (H rfl) (ar (n2 nV nC) (ar (n2 nV nC) (ar nV (ar (n2 nV nC) aN)))))) nZ) nZ) (aA (ik (n2 (n2 nV nC) nC) (aA (ik (n1 (bo (H rfl) (ar (n2 nV nC) (ar (n2 nV nC) (ar nV (ar (n2 nV nC) aN)))))) (aA (bQ nC) nZ) nZ) (aA (bQ (pU (bo (H rfl) (ar (n2 nV nC) (ar (n2 nV nC) (ar nV (ar (n2 nV nC) aN))))) (bo (H rfl) (ar nV (ar nV (ar (n2 nV nC) aN)))))) nZ)) nZ) (aA (bQ (pU (bo (H rfl) (ar (n2 nV nC) (ar (n2 nV nC) (ar nV (ar (n2 nV nC) aN))))) (bo (H rfl) (ar nV (ar nV (ar (n2 nV nC) aN)))))) nZ)))
theorem bZ {a:Int}{c:cr}{i:Nat}{G:gK}(e:Ψ i=some G)(h:Nt a c G.body)(F:gK)(e':Ψ i=some F):Nt a c F.body:=by
 rw [e] at e'
 exact Option.some.inj e'▸h
theorem Dy {a:Int}{c:cr}(H:∀{f:Nat},Al f=true->Cl a c f):∀i∈H1,∀F,Ψ i=some F->Nt a c F.body:=aq ⟨bZ (G:=⟨1,1,gz⟩) rfl (wN H),aq ⟨bZ (G:=⟨1,0,fE⟩) rfl (uz H),aq ⟨bZ (G:=⟨1,0,fF⟩) rfl (uA H),aq ⟨bZ (G:=⟨2,1,eK⟩) rfl (sK H),aq ⟨bZ (G:=⟨1,0,eL⟩) rfl (sL H),aq ⟨bZ (G:=⟨1,1,eJ⟩) rfl (sJ H),aq ⟨bZ (G:=⟨1,0,du⟩) rfl (pj H),aq ⟨bZ (G:=⟨1,4,dw⟩) rfl (pk H),aq ⟨bZ (G:=⟨3,0,gA⟩) rfl (wO H),aq ⟨bZ (G:=⟨4,1,j6⟩) rfl (A3 H),aq ⟨bZ (G:=⟨4,0,iA⟩) rfl (yy H),aq ⟨bZ (G:=⟨3,1,gB⟩) rfl (wP H),aq ⟨bZ (G:=⟨1,1,dt⟩) rfl (o9 H),aq ⟨bZ (G:=⟨4,0,iD⟩) rfl (yA H),aq ⟨bZ (G:=⟨1,7,dP⟩) rfl (qP H),aq ⟨bZ (G:=⟨1,4,rQ⟩) rfl Hv,aq ⟨bZ (G:=⟨1,7,eM⟩) rfl (sM H),aq ⟨bZ (G:=⟨2,0,dQ⟩) rfl (qQ H),aq ⟨bZ (G:=⟨2,2,j5⟩) rfl (A2 H),aq ⟨bZ (G:=⟨3,5,gy⟩) rfl (wM H),aq ⟨bZ (G:=⟨2,1,eH⟩) rfl (sI H),aq ⟨bZ (G:=⟨2,6,gx⟩) rfl (wL H),aq ⟨bZ (G:=⟨2,3,eN⟩) rfl (sN H),aq ⟨bZ (G:=⟨2,7,iC⟩) rfl (yz H),aq ⟨bZ (G:=⟨1,4,fG⟩) rfl (uB H),aq ⟨bZ (G:=⟨3,2,c7⟩) rfl (nU H),aq ⟨bZ (G:=⟨1,5,fJ⟩) rfl (uC H),aq ⟨bZ (G:=⟨2,4,dS⟩) rfl (qR H),aq ⟨bZ (G:=⟨3,2,bR⟩) rfl (iJ H),aq ⟨bZ (G:=⟨3,0,eO⟩) rfl (sO H),aq ⟨bZ (G:=⟨2,0,c8⟩) rfl (nX H),aq ⟨bZ (G:=⟨2,0,cM⟩) rfl (md H),aq ⟨bZ (G:=⟨1,0,cz⟩) rfl (lg H),fun _ h=>nomatch h⟩⟩⟩⟩⟩⟩⟩⟩⟩⟩⟩⟩⟩⟩⟩⟩⟩⟩⟩⟩⟩⟩⟩⟩⟩⟩⟩⟩⟩⟩⟩⟩⟩
theorem ED {f:Nat}(h:Al f=true):f∈H1:=
 let ⟨i,h1,h2⟩:=any_eq_true.mp h
 eq_of_beq_eq_true h2▸h1
theorem zQ (a:Int)(n:Nat){f:Nat}(h:Al f=true):Cl a ⟨aj Ψ n⟩ f:=Es (A:=Al) (fun c H f F hf e=>Dy (H _) f (ED hf) F e) n f h
theorem sY {n:Nat}{args:List T}{sp a:Int}{t:T}(h:aj Ψ n 43 args ⟨sp,none⟩=.ret t ⟨sp,none⟩):aj Ψ n 43 args ⟨a,none⟩=.ret t ⟨a,none⟩:=
 (zQ a n (f:=43) rfl args ⟨sp,none⟩).trans (congrArg (mp a) h)
end
end Mine.L08
end
section
set_option maxRecDepth 100000
namespace Mine.L08
noncomputable section
open PySem Ltl
theorem E4:∀b:Bool,ck (vd b) (.str (ofString "breaks"))=some b
 |true=>by kernel_rfl
 |false=>by kernel_rfl
theorem AC:∀b:Bool,ck (vd b) (.str (ofString "keeps"))=some (!b)
 |true=>by kernel_rfl
 |false=>by kernel_rfl
section
variable {M:Mc} {s c:Sy} {t t0 t1:T} {b b0 b1:Bool} {w r:List Nat} {σ:Sg} {ns:List Int} {n:Nat} {Q:T->Sg->Prop} {κ:PK aW}
theorem ub.i0 (T:ub M s b t):au t (.int 0)=some (vd b):=by
 obtain ⟨l,rfl,_⟩:=T.fm
 exact rW
inductive Ip (M:Mc) (s:Sy) (t:T):Prop
 |mk (w r:List Nat) (e1:au t (.int 1)=some (bz w)) (e2:au t (.int 2)=some (bz r)) (W:Wa M w r) (h:wB M w r s=false)
theorem ub.way (T:ub M s true t):Ip M s t:=by
 obtain ⟨l,rfl,h⟩:=T.fm
 obtain ⟨w,r,rfl,W,h⟩:=h rfl
 exact ⟨w,r,vf,Cq,W,h⟩
theorem fR {c:Bool}{x y:cg}(h:c=false)(h2:bb Q y):bb Q (bif c then x else y):=by rw [h];exact h2
theorem tR {c:Bool}{x y:cg}(h:c=true)(h2:bb Q x):bb Q (bif c then x else y):=by rw [h];exact h2
noncomputable abbrev kF (ns:List Int)(x2 x3 x4 x5 x6 x7 x8 x9 x10 x11 x12:Option T):aW:=[some (.scr ns),some .spot,x2,x3,x4,x5,x6,x7,x8,x9,x10,x11,x12]
noncomputable def HV:PS:=aG 2 (aw 19 (aa (aw 17 (aa (pV 0) (aa (pC (.int 0)) ao))) ao))
noncomputable def HT:PS:=lP [3,4] (aw 48 (aa (pV 0) (aa (pV 1) (aa (pV 2) (aa (pC (.int 4)) ao)))))
noncomputable def HR:PS:=aG 5 (uv 0 1006 (aa (p2 au (pV 3) (pC (.int 0))) (aa (p2 au (pV 3) (pC (.int 1))) (aa (p2 au (pV 3) (pC (.int 2))) ao))))
noncomputable def GK:PS:=aG 6 (aw 43 (aa (pV 5) (aa (pV 4) ao)))
noncomputable def HO:PS:=aG 7 (aM (aa (pC (.str (ofString "not"))) (aa (pV 4) ao)))
noncomputable def HM:PS:=bK (p2 ck (p2 au (pV 4) (pC (.int 0))) (pC (.str (ofString "not")))) (af (aG 7 (p2 au (pV 4) (pC (.int 1)))) an) an
noncomputable def GJ:PS:=aG 8 (aw 43 (aa (pV 5) (aa (pV 7) ao)))
noncomputable def GI:PS:=bK (er (p2 ck (p2 au (pV 6) (pC (.int 0))) (pC (.str (ofString "keeps")))) (er (p2 ck (p2 au (pV 8) (pC (.int 0))) (pC (.str (ofString "keeps")))) aJ)) (af (aH (pC (.bool false))) an) an
noncomputable def DU:PS:=(af (lP [10,11] (aw 59 (aa (pV 0) (aa (pV 1) (aa (pV 3) (aa (pC (.int 5)) ao))))))
  (af (aG 12 (aw 60 (aa (pV 5) (aa (pV 3) (aa (pV 4) (aa (pV 10) (aa (pV 11) ao)))))))
  (af (bK (hJ (p2 s8 (pV 12) (pC .none)) (hJ (er (dK (qE (pV 12))) (er (p2 ck (p2 au (pV 6) (pC (.int 0))) (pC (.str (ofString "keeps")))) aJ)) (hJ (er (qE (pV 12)) (er (p2 ck (p2 au (pV 8) (pC (.int 0))) (pC (.str (ofString "keeps")))) aJ)) cS)))
  (af (aH (pC (.bool false)))
  an)
  an)
  an)))
noncomputable def GH:PS:=cU (cn (aa (pC (.int 3)) ao)) (bj 9) DU
noncomputable def GG:PS:=bK (er (p2 ck (p2 au (pV 6) (pC (.int 0))) (pC (.str (ofString "breaks")))) (er (p2 y5 (aw 60 (aa (pV 5) (aa (pV 3) (aa (pV 4) (aa (p2 au (pV 6) (pC (.int 1))) (aa (p2 au (pV 6) (pC (.int 2))) ao)))))) (pC (.bool false))) aJ)) (af (aH (pC (.bool false))) an) an
noncomputable def Bw:PS:=bK (er (p2 ck (p2 au (pV 8) (pC (.int 0))) (pC (.str (ofString "breaks")))) (er (p2 y5 (aw 60 (aa (pV 5) (aa (pV 3) (aa (pV 4) (aa (p2 au (pV 8) (pC (.int 1))) (aa (p2 au (pV 8) (pC (.int 2))) ao)))))) (pC (.bool true))) aJ)) (af (aH (pC (.bool false))) an) an
noncomputable def Bv:PS:=af (aH (pB (p2 ck (aw 43 (aa (pV 5) (aa (pV 4) ao))) (pV 6)))) an
theorem DY:vB=af HV (af HT (af HR (af GK (af HO (af HM (af GJ (af GI (af GH (af GG (af Bw Bv)))))))))):=rfl
theorem HU (hn:ns.length<=63)(h:∀x y z,C9 x y z->bb Q (κ (kF ns (some (o4 x y z)) none none none none none none none none none none) σ)):bb Q (HV ⟨aj Ψ (n+25)⟩ (kF ns none none none none none none none none none none none) σ κ):=by
 unfold HV
 refine aC rfl (bY (v8 hn 0 (n+24)) ?_)
 rintro _ _ ⟨rfl,c,rfl⟩
 refine bY (yx c (n+24)) ?_
 rintro _ _ ⟨rfl,x,y,z,rfl,N⟩
 exact h x y z N
theorem HS (hn:ns.length<=63){j:Nat}{x y z:Str}(N:C9 x y z)(h:∀(j':Nat) M s,GS M s->bb Q (κ (kF ns (some (o4 x y z)) (some (.tup M.fs)) (some (bx s)) none none none none none none none none) ⟨(j':Int),none⟩)):bb Q (HT ⟨aj Ψ (n+25)⟩ (kF ns (some (o4 x y z)) none none none none none none none none none none) ⟨(j:Int),none⟩ κ):=by
 unfold HT
 refine aC rfl (aC rfl (aC rfl (bY (xO hn j (n+11) N) ?_)))
 rintro _ _ ⟨⟨j,rfl⟩,M,s,rfl,S⟩
 exact aC rfl (h j M s S)
theorem HQ (O:M.Ok){x2 x4:Option T}{sp:Int}(h:bb Q (κ (kF ns x2 (some (.tup M.fs)) x4 (some M.t) none none none none none none none) ⟨sp,none⟩)):bb Q (HR ⟨aj Ψ (n+25)⟩ (kF ns x2 (some (.tup M.fs)) x4 none none none none none none none none) ⟨sp,none⟩ κ):=by
 unfold HR
 exact aC rfl (aC rW (aC rfl (aC vf (aC rfl (aC Cq (Fw (BB O (n+22)) h))))))
theorem HN (s:Sy){c:cr}{x2 x3 x5 x6:Option T}:∃d,vc s d/\∀κ:PK aW,(af HO HM) c (kF ns x2 x3 (some (bx s)) x5 x6 none none none none none none) σ κ=κ (kF ns x2 x3 (some (bx s)) x5 x6 (some (bx d)) none none none none none) σ:=by
 cases s with
 |not a=>exact ⟨_,.un _,fun κ=>by kernel_rfl⟩
 |_=>exact ⟨_,.no rfl,fun κ=>by kernel_rfl⟩
theorem HK (O:M.Ok)(h:vc s c)(T0:ub M s b0 t0)(T1:ub M c b1 t1){x2 x3 x4 x5 x7:Option T}{cx:cr}(hk:bb Q (κ (kF ns x2 x3 x4 x5 (some t0) x7 (some t1) none none none none) σ)):bb Q (GI cx (kF ns x2 x3 x4 x5 (some t0) x7 (some t1) none none none none) σ κ):=by
 unfold GI
 refine aC rfl (aC T0.i0 (aC (AC b0) ?_))
 cases b0 with
 |true=>exact hk
 |false=>
  refine fu (c:=true) (fun _=>aC rfl (aC T1.i0 (aC (AC b1) ?_))) fun h=>nomatch h
  cases b1 with
  |true=>exact hk
  |false=>exact (T0.not O h T1).elim
theorem HI (O:M.Ok)(hn:ns.length<=63)(hd:dep s<=10)(h:vc s c)(T0:ub M s b0 t0)(T1:ub M c b1 t1){x2 x7:Option T}:∀(l:List T) (x9 x10 x11 x12:Option T) (j:Nat),(∀(x9 x10 x11 x12:Option T) (j:Nat),bb Q (κ (kF ns x2 (some (.tup M.fs)) (some (bx s)) (some M.t) (some t0) x7 (some t1) x9 x10 x11 x12) ⟨(j:Int),none⟩))->
  bb Q (cD (bj 9) DU ⟨aj Ψ (n+25)⟩ l (kF ns x2 (some (.tup M.fs)) (some (bx s)) (some M.t) (some t0) x7 (some t1) x9 x10 x11 x12) ⟨(j:Int),none⟩ κ):=fun l=>by
 induction l with
 |nil=>exact fun x9 x10 x11 x12 j hk=>hk x9 x10 x11 x12 j
 |cons v l ih=>
  intro x9 x10 x11 x12 j hk
  refine Ei rfl ?_
  unfold DU
  refine aC rfl (aC rfl (aC rfl (bY (lV O hn j (n+23)) ?_)))
  rintro _ _ ⟨⟨j,rfl⟩,w,r,rfl,W⟩
  refine aC rfl (aC rfl (aC rfl (aC rfl (aC rfl (aC rfl (gD (oR O W hd n) ?_))))))
  have I:=ih (some v) (some (bz w)) (some (bz r)) (some (.bool (wB M w r s))) j hk
  cases hv:wB M w r s with
  |true=>
   have e:b1=true:=by
    cases b1 with
    |true=>rfl
    |false=>
     have:=mz (T1.kp rfl) W
     rw [h.wb,hv] at this;cases this
   subst e
   rw [hv] at I
   exact aC rfl (aC rfl (fR rfl (aC rfl (aC rfl (fR rfl (fR rfl (aC rfl (aC rfl (tR rfl (aC rfl (aC T1.i0 (aC (AC true) I))))))))))))
  |false=>
   have e:b0=true:=by
    cases b0 with
    |true=>rfl
    |false=>
     have:=mz (T0.kp rfl) W
     rw [hv] at this;cases this
   subst e
   rw [hv] at I
   exact aC rfl (aC rfl (fR rfl (aC rfl (aC rfl (tR rfl (aC rfl (aC T0.i0 (aC (AC true) (fR rfl (fR rfl (aC rfl (aC rfl I))))))))))))
theorem HH (O:M.Ok)(hd:dep s<=10)(T0:ub M s b0 t0){x2 x7 x8 x9 x10 x11 x12:Option T}(hk:bb Q (κ (kF ns x2 (some (.tup M.fs)) (some (bx s)) (some M.t) (some t0) x7 x8 x9 x10 x11 x12) σ)):bb Q (GG ⟨aj Ψ (n+25)⟩ (kF ns x2 (some (.tup M.fs)) (some (bx s)) (some M.t) (some t0) x7 x8 x9 x10 x11 x12) σ κ):=by
 unfold GG
 refine aC rfl (aC T0.i0 (aC (E4 b0) ?_))
 cases b0 with
 |false=>exact hk
 |true=>
  obtain ⟨w,r,e1,e2,W,h⟩:=T0.way
  refine fu (c:=true) (fun _=>aC rfl (aC rfl (aC rfl (aC rfl (aC e1 (aC rfl (aC e2 (gD (oR O W hd n) ?_)))))))) fun h=>nomatch h
  rw [h]
  exact aC rfl hk
theorem FJ (O:M.Ok)(hd:dep s<=10)(h:vc s c)(T1:ub M c b1 t1){x2 x6 x7 x9 x10 x11 x12:Option T}(hk:bb Q (κ (kF ns x2 (some (.tup M.fs)) (some (bx s)) (some M.t) x6 x7 (some t1) x9 x10 x11 x12) σ)):bb Q (Bw ⟨aj Ψ (n+25)⟩ (kF ns x2 (some (.tup M.fs)) (some (bx s)) (some M.t) x6 x7 (some t1) x9 x10 x11 x12) σ κ):=by
 unfold Bw
 refine aC rfl (aC T1.i0 (aC (E4 b1) ?_))
 cases b1 with
 |false=>exact hk
 |true=>
  obtain ⟨w,r,e1,e2,W,h'⟩:=T1.way
  have e:wB M w r s=true:=by rw [h.wb] at h';exact (Bool.not_eq_false' ..▸h')
  refine fu (c:=true) (fun _=>aC rfl (aC rfl (aC rfl (aC rfl (aC e1 (aC rfl (aC e2 (gD (oR O W hd n) ?_)))))))) fun h=>nomatch h
  rw [e]
  exact aC rfl hk
theorem HP {x2 x3:Option T}{sp:Int}(e:aj Ψ (n+25) 43 [M.t,bx s] ⟨sp,none⟩=.ret t ⟨sp,none⟩)(h:bb Q (κ (kF ns x2 x3 (some (bx s)) (some M.t) (some t) none none none none none none) ⟨sp,none⟩)):bb Q (GK ⟨aj Ψ (n+25)⟩ (kF ns x2 x3 (some (bx s)) (some M.t) none none none none none none none) ⟨sp,none⟩ κ):=by
 unfold GK
 exact aC rfl (aC rfl (gD e h))
theorem HL {x2 x3 x4 x6:Option T}{sp:Int}(e:aj Ψ (n+25) 43 [M.t,bx c] ⟨sp,none⟩=.ret t ⟨sp,none⟩)(h:bb Q (κ (kF ns x2 x3 x4 (some M.t) x6 (some (bx c)) (some t) none none none none) ⟨sp,none⟩)):bb Q (GJ ⟨aj Ψ (n+25)⟩ (kF ns x2 x3 x4 (some M.t) x6 (some (bx c)) none none none none none) ⟨sp,none⟩ κ):=by
 unfold GJ
 exact aC rfl (aC rfl (gD e h))
theorem HJ (O:M.Ok)(hn:ns.length<=63)(hd:dep s<=10)(h:vc s c)(T0:ub M s b0 t0)(T1:ub M c b1 t1){x2 x7:Option T}{j:Nat}(hk:∀(x9 x10 x11 x12:Option T) (j:Nat),bb Q (κ (kF ns x2 (some (.tup M.fs)) (some (bx s)) (some M.t) (some t0) x7 (some t1) x9 x10 x11 x12) ⟨(j:Int),none⟩)):bb Q (GH ⟨aj Ψ (n+25)⟩ (kF ns x2 (some (.tup M.fs)) (some (bx s)) (some M.t) (some t0) x7 (some t1) none none none none) ⟨(j:Int),none⟩ κ):=by
 unfold GH
 exact aC (gh (n:=3) (by decide)) (HI O hn hd h T0 T1 _ none none none none j hk)
theorem FH {x2 x3 x7 x8 x9 x10 x11 x12:Option T}{sp:Int}(e:aj Ψ (n+25) 43 [M.t,bx s] ⟨sp,none⟩=.ret t ⟨sp,none⟩)(h:ck t t=some true):bb (fun t _=>t=.bool true) (Bv ⟨aj Ψ (n+25)⟩ (kF ns x2 x3 (some (bx s)) (some M.t) (some t) x7 x8 x9 x10 x11 x12) ⟨sp,none⟩ κ):=by
 unfold Bv
 exact aC rfl (aC rfl (gD e (aC rfl (aC h (cR rfl)))))
noncomputable def IL:PS:=af GK (af HO (af HM (af GJ (af GI (af GH (af GG (af Bw Bv)))))))
theorem AP (hn:ns.length<=63)(S:GS M s){j:Nat}{x2:Option T}:bb (fun t _=>t=.bool true) (IL ⟨aj Ψ (n+25)⟩ (kF ns x2 (some (.tup M.fs)) (some (bx s)) (some M.t) none none none none none none none) ⟨(j:Int),none⟩ κ):=by
 have O:=S.ok
 obtain ⟨t0,_,e0,rfl,J0⟩:=pZ O S.g.g S.u (sp:=(j:Int)) (n+1)
 have e0:aj Ψ (n+25) 43 [M.t,bx s] ⟨(j:Int),none⟩=.ret t0 ⟨(j:Int),none⟩:=e0
 obtain ⟨c,hc,e45⟩:=HN (ns:=ns) (σ:=⟨(j:Int),none⟩) s (c:=⟨aj Ψ (n+25)⟩) (x2:=x2) (x3:=some (.tup M.fs)) (x5:=some M.t) (x6:=some t0)
 have U:(t6 M c).length<=128:=by rw [mu,hc.bonds,<-mu];exact S.u
 obtain ⟨t1,_,e1,rfl,J1⟩:=pZ O (S.g.ctr hc) U (sp:=(j:Int)) (n+1)
 have e1:aj Ψ (n+25) 43 [M.t,bx c] ⟨(j:Int),none⟩=.ret t1 ⟨(j:Int),none⟩:=e1
 obtain ⟨b0,T0⟩:=IC J0
 obtain ⟨b1,T1⟩:=IC J1
 have hd:dep s<=10:=le_trans S.g.g.dep (by decide)
 unfold IL
 refine HP (n:=n) e0 (AO (e45 _) (HL (n:=n) e1 ?_))
 refine HK O hc T0 T1 ?_
 refine HJ (n:=n) O hn hd hc T0 T1 fun x9 x10 x11 x12 j'=>?_
 exact HH (n:=n) O hd T0 (FJ (n:=n) O hd hc T1 (FH (n:=n) (sY e0) T0.sf.eq))
theorem DX (hn:ns.length<=63)(n:Nat):bb (fun t _=>t=.bool true) (vB ⟨aj Ψ (n+25)⟩ (kF ns none none none none none none none none none none none) ⟨((1:Nat):Int),none⟩ κ):=by
 rw [DY]
 exact HU hn fun x y z N=>HS hn N fun j M s S=>HQ S.ok (AP hn S)
end
end
end Mine.L08
end
namespace Mine.L08
noncomputable section
open PySem
noncomputable def depth:Nat:=16+25
theorem plain (ns:List Int)(h:ns.length<=63):∃s,vB ⟨aj Ψ depth⟩ (frame [.scr ns,.spot] 11) ⟨1,none⟩ (fun _ s=>.ret .none s)=.ret (.bool true) s:=by
 obtain ⟨_,s,e,rfl⟩:=DX h 16 (κ:=fun _ s=>.ret .none s)
 exact ⟨s,e⟩
end
end Mine.L08
end
open PySem PySem.W PyProof.Rows Mine Mine.L08
set_option maxRecDepth 100000
set_option maxHeartbeats 8000000
namespace Mine.L08
theorem zw:(defOf q rw_uf020006_08.row.name).isSome=true:=by kernel_rfl
noncomputable def GO:DefRec:=((defOf q rw_uf020006_08.row.name).get zw).1
theorem F4:defOf q rw_uf020006_08.row.name=some (GO,[]):=by kernel_rfl
theorem F3:rw_uf020006_08.row.prog.theDef rw_uf020006_08.row.name=some (GO.params,GO.body,GO.scope):=by kernel_rfl
end Mine.L08
theorem PySem.Challenge.cw_uf020006_08_holds : PySem.Challenge.rw_uf020006_08.Holds := by
 refine holds_law G8 fun sd=>?_
 refine holds_open (q:=q) (loose:=[]) (Xt:=Mine.L08.Xt) (XP:=XL q []) (Yf:=Hook.obs Hook.none) (Ya:=Hook.val Hook.none) (YP:=Hook.says Hook.none) (N:=4000) left (Hook.of _) (Hook.keeps _) (fun s e=>xl_of s (df e)) (fun mg h h' x k=>XL.keeps mg h h' x k) F4 F3 (by kernel_rfl) (fun s e=>recFacts_of (dB e)) (by rfl) sd I3 ⟨rfl,rfl,rfl,rfl,rfl,by decide+kernel⟩ ?hw ?hc
 case hw=>w_witness2
 intro w s0 s₁ mg mb G Y fa o pm cd doc dV kV ho hd hcd hD hmg hg args vals as hpre hlay hrd hwl hlo
 clear Y ho hd hcd hD
 wrow_args hpre hlay hrd hwl hlo
 rename IntsAre _ _=>hI
 rename Heap.IsList _ _ _=>hL
 obtain ⟨σ,hc⟩:=(fun {vs:List Value} {ns:List Int} (_:IntsAre vs ns)=>Mine.L08.plain ns) hI (by omega)
 refine wpAny_mono (yX (pg:=rw_uf020006_08.row.prog) (n:=Mine.L08.depth) (m:=11) (bd:=(u4 lW 999).tail) H5 (fun f F e=>Ea e) G.T G.TE (BW G.T) AJ Bo rfl rfl rfl rfl rfl (by decide+kernel) rfl rfl rfl DV ⟨by decide,by decide,rfl⟩ hmg hL hI (by omega) hc) (fun v s' q=>?_) fun _ _ q=>q.elim
 obtain ⟨rfl,h',tk,rfl,hk⟩:=q
 exact zj rf (by first |rfl |wrow_post) (.of_eq hg) hk
