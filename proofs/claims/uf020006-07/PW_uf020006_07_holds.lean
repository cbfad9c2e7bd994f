import PyProof.Rows.All
import Wide.All
import OpenK.AllK
import PySem.Challenge.RW_uf020006_07
set_option Elab.async false
set_option linter.all false
set_option autoImplicit false
set_option genInjectivity false
set_option genSizeOf false
set_option compiler.extract_closed false
set_option bootstrap.genMatcherCode false
open PySem.Str (ofString)
open List (all_eq_true any_eq_true append_nil concat_eq_append cons_append dropLast_concat drop_zero eq_nil_or_concat filter_nil find?_some findIdx?_cons flatMap_cons flatMap_nil flatten_append flatten_cons getElem?_append_left getElem?_append_right getElem?_eq_getElem getElem?_map getElem?_of_mem getElem_mem getLast?_concat head?_append idxOf_cons length_cons length_drop length_eq_zero_iff length_filter_le length_map length_nil length_range length_reverse length_set length_singleton length_take lookup_cons map_append map_congr_left map_cons map_map map_nil mem_append mem_append_left mem_append_right mem_cons mem_cons_of_mem mem_cons_self mem_flatMap mem_flatten mem_map mem_map_of_mem mem_of_getElem? mem_singleton nodup_append nodup_cons not_mem_nil pairwise_singleton range' range'_succ replicate size_toArray take_length zipWith)
open Bool (and_eq_true and_eq_true_iff not_eq_true' or_eq_true)
open Int (ediv_one le_natAbs natCast_nonneg ofNat ofNat_lt)
open Nat (add_assoc add_comm add_le_add add_le_add_left add_le_add_right beq_refl ble_eq_true_of_le eq_of_beq_eq_true exists_eq_add_of_le le_add_left le_add_right le_antisymm le_max_left le_max_right le_of_ble_eq_true le_of_eq le_of_lt le_of_lt_succ le_of_succ_le le_of_succ_le_succ le_refl le_succ le_succ_of_le le_trans lt_irrefl lt_of_le_of_lt lt_of_lt_of_le lt_of_succ_lt lt_one_iff lt_succ_of_le lt_succ_self lt_trans max_le min_le_left mul_le_mul_right ne_of_lt not_lt not_lt_zero pow_le_pow_right pow_succ sub_le sub_pos_of_lt sub_self succ_le_succ succ_pos zero_add zero_le)
open PySem.Challenge (pw_uf020006_07 rw_uf020006_07)
open Option (bind_some)
namespace Mine
universe u
@[elab_as_elim] theorem rwm {α : Sort u} {a b : α} {motive : α → Prop} (t : a = b) (x : motive b) : motive a := t ▸ x
@[elab_as_elim] theorem rwn {α : Sort u} {a b : α} {motive : α → Prop} (t : b = a) (x : motive b) : motive a := t ▸ x
@[elab_as_elim] theorem rwi {a b : Prop} {motive : Prop → Prop} (t : a ↔ b) (x : motive b) : motive a := propext t ▸ x
@[elab_as_elim] theorem rwj {a b : Prop} {motive : Prop → Prop} (t : b ↔ a) (x : motive b) : motive a := propext t ▸ x
theorem rwp {a b : Prop} (t : b ↔ a) : a = b := propext t.symm
section
variable {α β : Type} {a b : α} {s t : List α} {x y : Bool} {n m i : Nat} {p : α → Prop}
theorem aa : a ∈ [b] → a = b := List.mem_singleton.mp
theorem ay : a = b → a ∈ [b] := List.mem_singleton.mpr
theorem ai : a ∈ s ++ t → a ∈ s ∨ a ∈ t := List.mem_append.mp
theorem aj : (x && y) = true → x = true ∧ y = true := Bool.and_eq_true_iff.mp
theorem cA (h : (x && y) = true) : x = true := (Bool.and_eq_true_iff.mp h).1
theorem cz (h : (x && y) = true) : y = true := (Bool.and_eq_true_iff.mp h).2
theorem aI : (p a ∧ ∀ x, x ∈ s → p x) → ∀ x, x ∈ a :: s → p x := List.forall_mem_cons.mpr
theorem au : a ∈ b :: s → a = b ∨ a ∈ s := List.mem_cons.mp
theorem ak : s[i]? = some a → ∃ h : i < s.length, s[i] = a := List.getElem?_eq_some_iff.mp
theorem av {x : Option β} {f : β → α} : Option.map f x = some b → ∃ a, x = some a ∧ f a = b := Option.map_eq_some_iff.mp
theorem aC {f : α → β} {b : β} : b ∈ s.map f → ∃ a, a ∈ s ∧ f a = b := List.mem_map.mp
theorem dK {f : α → β} {b : β} : (∃ a, a ∈ s ∧ f a = b) → b ∈ s.map f := List.mem_map.mpr
theorem aA {p : α → Bool} : s.all p = true → ∀ x, x ∈ s → p x = true := List.all_eq_true.mp
theorem bh : m ∈ List.range n → m < n := List.mem_range.mp
theorem bJ : m < n → m ∈ List.range n := List.mem_range.mpr
theorem aG : (s ++ t).Nodup → s.Nodup ∧ t.Nodup ∧ ∀ a, a ∈ s → ∀ b, b ∈ t → a ≠ b := List.nodup_append.mp
theorem aX : (a :: s).Nodup → ¬ a ∈ s ∧ s.Nodup := List.nodup_cons.mp
theorem aE {x : Option α} : x.isSome = true → ∃ a, x = some a := Option.isSome_iff_exists.mp
theorem cc : m ≤ n → (m : Int) ≤ n := Int.ofNat_le.mpr
theorem bN : m < n → (m : Int) < n := Int.ofNat_lt.mpr
theorem cw : ¬ m < n → n ≤ m := Nat.not_lt.mp
theorem eR : m < n → ¬ n ≤ m := Nat.not_le.mpr
theorem bu {p : α → Bool} : a ∈ s.filter p → a ∈ s ∧ p a = true := List.mem_filter.mp
theorem cM {p : α → Bool} : a ∈ s ∧ p a = true → a ∈ s.filter p := List.mem_filter.mpr
end
end Mine
open Lean in
local macro_rules (kind := Lean.Parser.Tactic.rwSeq)
  | s =>
    let l := s[2][1]
    let r := l[0]
    let h := s[3][0][1][0]
    if r.isMissing || !(s[3].isNone || h.getArgs.size == 1 && s[3][0][1][1].isMissing) then Macro.throwUnsupported else
    let z k a := Syntax.node .none (.str `Lean.Parser.Term k) a
    let y k a := Syntax.node .none (.str `Lean.Parser.Tactic k) a
    let w := Syntax.node .none `null
    let q x := s.setArg 2 (s[2].setArg 1 (w x))
    let c f a := z "app" #[f, w a]
    let t := c r[1] #[z "ellipsis" #[r]]
    let u a b := mkIdent (cond r[0].isNone a b)
    let i m v := w #[r, cond s[3].isNone (y "refine" #[r, c m #[t, z "syntheticHole" #[r, z "hole" #[r]]]])
      (y "replace" #[r, z "letDecl" #[z "letIdDecl" #[z "letId" #[h[0]], w #[], w #[], r, z "subst" #[v, r, h]]]])]
    return w #[y "first" #[r, w #[i (u `Mine.rwm `Mine.rwn) (cond r[0].isNone t (c (mkIdent `Eq.symm) #[t])), i (u `Mine.rwi `Mine.rwj) (c (u `propext `Mine.rwp) #[t]), w #[r, y "rewriteSeq" (q #[r]).getArgs]]], q (l.getArgs.extract 2)]
namespace Mine
noncomputable section
open PySem PySem.W PyProof.Rows
noncomputable def jA (tb:String->Option Builtin)(p:Program)(w:World)(n0:Nat)(ann:Option Value):Nat->SharedT->Thread->Option SharedT
 | 0,_,_=>none
 |n+1,s,t=>match through t with
  |true=>some s
  |false=>match stepOk n0 ann t with
   |false=>none
   |true=>match stepT (denote tb) p w s t with
    |some (s',t')=>jA tb p w n0 ann n s' t'
    |none=>none
theorem pE {tb:String->Option Builtin}{p:Program}{w:World}{n0:Nat}{ann:Option Value}:∀{n:Nat} {s s':SharedT} {t:Thread},jA tb p w n0 ann n s t=some s'->topRun tb p w n0 ann n s.abs t=some s'.abs
 | 0,_,_,_,h=>by cases h
 |n+1,s,s',t,h=>by
  unfold jA at h
  unfold topRun
  cases he:through t with
  |true=>rw [he] at h;cases h;rfl
  |false=>
   rw [he] at h
   cases hk:stepOk n0 ann t with
   |false=>rw [hk] at h;cases h
   |true=>
    rw [hk] at h
    cases hs:stepT (denote tb) p w s t with
    |none=>rw [hs] at h;cases h
    |some r=>obtain ⟨s₂,t2⟩:=r;rw [hs] at h;rw [stepT_spec hs];exact pE h
noncomputable def IE {α:Type}:List α->List α
 | []=>[]
 |a::r=>match r with
  | []=>[a]
  |_::r=>a::IE r
noncomputable def ug:Nat->List Obj->BT
 | 0,_=>.nil
 |n+1,l=>match l with
  | []=>.nil
  |a::r=>.node a (ug n (IE r)) (ug n (IE r.tail))
def kC (P:Params):BT:=ug 14 (boot_heap P).objs.toList
theorem BP {p q:Program}{loose:List Str}{Xt:Shared->Bool}{α:Type}{Yf:Shared->α}{Ya:World->α}{N:Nat}{g0:Bool}{m0:Nat}{ann:Option Value}{life:Life}
  (e:opening p=plainProg p.main.scope.names)(hN:Nat.ble 600 N=true)(f:∀s,fenceModules? p s=some s)
  (h0:∀P,absHeap (kC P) m0 life=boot_heap P)
  (size:∀P,((boot_heap P).isNs mainGlobals,(boot_heap P).objs.size,(boot_heap P).nsMap mainGlobals "__annotations__")=(true,m0,ann))
  (run:∀(w:World) (os:OsState),(jA treeTable p w m0 ann N ⟨kC w.params,m0,life,Array.mk [],boot_drawn,boot_toks,os⟩ (topStub p)).map (fun s=>
   (staticsOk (importedModules p.main.body) (boot_heap w.params) s.abs.heap&&namesBound p s.abs.heap&&gensDone s.abs&&laidKept (boot_heap w.params) s.abs.heap,openSeen q loose (importedModules p.main.body) Xt g0 s.abs,Yf s.abs))=some (true,openGood q loose,Ya w)):LeftO p q loose Xt Yf Ya N g0:=fun w=>by
 obtain ⟨⟨h,gs,d,k,os⟩,e1,e2⟩:=av (boot_open e hN f w)
 obtain ⟨rfl,rfl,rfl,rfl⟩:h=boot_heap w.params/\gs=Array.mk []/\d=boot_drawn/\k=boot_toks:=by simpa using e2
 obtain ⟨s,e3,e4⟩:=av (run w os)
 obtain ⟨l1,l2⟩:=Prod.mk.inj e4
 obtain ⟨z1,z2,z3⟩:_/\_/\_:=by simpa only [Prod.mk.injEq] using size w.params
 have r:=pE e3
 rw [SharedT.abs,h0 w.params] at r
 have t:topFrom treeTable p w N ⟨boot_heap w.params,Array.mk [],boot_drawn,boot_toks,os⟩=some s.abs:=by
  unfold topFrom
  dsimp only
  rw [z1,z2,z3,r]
  show (match staticsOk (importedModules p.main.body) (boot_heap w.params) s.abs.heap&&namesBound p s.abs.heap&&gensDone s.abs&&laidKept (boot_heap w.params) s.abs.heap with |true=>_ |false=>_)=_
  rw [l1]
 unfold openEnds
 rw [e1]
 show Option.map _ (topFrom treeTable p w N _)=_
 rw [t]
 exact congrArg some l2
end
end Mine
section
namespace Mine.L07
end Mine.L07
open PySem PySem.W PyProof.Rows Mine Mine.L07
set_option maxRecDepth 100000
set_option maxHeartbeats 8000000
namespace Mine.L07
noncomputable section
noncomputable def q:Program:=PySem.W.view pw_uf020006_07 [1,2,3,4,6,7,8,9,10,11,12,13,14,15,16,17,19,20,21,22,23,24,25,27,29,30,31,32,33,34,35,36,37,38,40,41,42,43,45,46,47,48,49,50,51,52,53,54,55,56,57,58,59,60,61,62,63,64,65,66,67,68]
def Xt (s:Shared):Bool:=xlAt q [] s&&recOk [] s
theorem Ia:rw_uf020006_07.wellSaid=true:=by kernel_rfl
theorem Jk:(chainsOk q&&opensWell rw_uf020006_07.row.prog&&(frees rw_uf020006_07.row.toRowW&&rw_uf020006_07.row.within.isEmpty))=true:=by kernel_rfl
theorem l1:opening pw_uf020006_07=plainProg pw_uf020006_07.main.scope.names:=by kernel_rfl
theorem l2 (s:Shared):fenceModules? pw_uf020006_07 s=some s:=by kernel_rfl
theorem l3 (P:Params):absHeap (kC P) 11 {}=boot_heap P:=by kernel_rfl
theorem l4 (P:Params):((boot_heap P).isNs mainGlobals,(boot_heap P).objs.size,(boot_heap P).nsMap mainGlobals "__annotations__")=(true,11,some (.ref 6)):=by kernel_rfl
theorem l5 (w:World)(os:OsState):(jA treeTable pw_uf020006_07 w 11 (some (.ref 6)) 4000 ⟨kC w.params,11,{},Array.mk [],boot_drawn,boot_toks,os⟩ (topStub pw_uf020006_07)).map (fun s=>
   (staticsOk (importedModules pw_uf020006_07.main.body) (boot_heap w.params) s.abs.heap&&namesBound pw_uf020006_07 s.abs.heap&&gensDone s.abs&&laidKept (boot_heap w.params) s.abs.heap,openSeen q [] (importedModules pw_uf020006_07.main.body) Xt true s.abs,Hook.obs Hook.none s.abs))=some (true,openGood q [],Hook.val Hook.none w):=by kernel_rfl
theorem left:LeftO pw_uf020006_07 q [] Xt (Hook.obs Hook.none) (Hook.val Hook.none) 4000:=BP l1 rfl l2 l3 l4 l5
end
end Mine.L07
end
section
set_option genInjectivity true
namespace Mine
noncomputable section
open PySem PySem.W
inductive Ky where
 |int (i:Int)
 |str (x:Str)
 |tup (ks:List Ky)
noncomputable instance:DecidableEq Ky:=fun a b=>Classical.propDecidable (a=b)
noncomputable def u7 (b:Bool):Int:=if b then 1 else 0
inductive Kx where
 |int (i:Int)
 |bool (b:Bool)
 |str (x:Str)
 |tup (ks:List Kx)
mutual
noncomputable def Ky.hash (w:World):Ky->Int
 |.int i=>hashInt i
 |.str x=>hashStr w x
 |.tup ks=>reduceHash (Builtin.Tuple.tupleHashOf (Ky.hashes w ks))
termination_by structural k=>k
noncomputable def Ky.hashes (w:World):List Ky->List Int
 | []=>[]
 |k::r=>k.hash w::Ky.hashes w r
termination_by structural k=>k
end
mutual
noncomputable def Ky.draws:Ky->Nat
 |.int _=>1
 |.str _=>1
 |.tup ks=>Ky.drawsL ks+1
termination_by structural k=>k
noncomputable def Ky.drawsL:List Ky->Nat
 | []=>0
 |k::r=>k.draws+Ky.drawsL r
termination_by structural k=>k
end
mutual
noncomputable def Kx.norm:Kx->Ky
 |.int i=>.int i
 |.bool b=>.int (u7 b)
 |.str x=>.str x
 |.tup ks=>.tup (Kx.norms ks)
termination_by structural k=>k
noncomputable def Kx.norms:List Kx->List Ky
 | []=>[]
 |k::r=>k.norm::Kx.norms r
termination_by structural k=>k
end
mutual
noncomputable def Kx.dat:Kx->PyData
 |.int i=>.int i
 |.bool b=>.bool b
 |.str x=>.str x
 |.tup ks=>.tuple (Kx.dats ks)
termination_by structural k=>k
noncomputable def Kx.dats:List Kx->List PyData
 | []=>[]
 |k::r=>k.dat::Kx.dats r
termination_by structural k=>k
end
mutual
noncomputable def c8 (h:Heap):Kx->Nat->Value->Prop
 |.int i,_,v=>∃t,v=.int i t
 |.bool b,_,v=>v=.bool b
 |.str x,_,v=>PyData.strOk x=true/\∃t,v=.str x t
 |.tup ks,n,v=>∃a vs k m,v=.ref a/\n=m+1/\h.get? a=some ⟨.type "tuple",none,.seq vs k,#[]⟩/\fQ h ks m vs.toList
termination_by structural k=>k
noncomputable def fQ (h:Heap):List Kx->Nat->List Value->Prop
 | [],_,vs=>vs=[]
 |k::ks,n,vs=>∃v vs',vs=v::vs'/\c8 h k n v/\fQ h ks n vs'
termination_by structural k=>k
end
section
variable {h h':Heap}
theorem c8.keeps (hk:∀a vs k,h.get? a=some ⟨.type "tuple",none,.seq vs k,#[]⟩->h'.get? a=some ⟨.type "tuple",none,.seq vs k,#[]⟩)(x:Kx):∀n v,c8 h x n v->c8 h' x n v:=
 Kx.rec (motive_1:=fun x=>∀n v,c8 h x n v->c8 h' x n v) (motive_2:=fun x=>∀n v,fQ h x n v->fQ h' x n v)
  (fun _ _ _ q=>q) (fun _ _ _ q=>q) (fun _ _ _ q=>q) (fun _ ih _ _ ⟨a,vs,k,m,e,e',g,r⟩=>⟨a,vs,k,m,e,e',hk a vs k g,ih m _ r⟩) (fun _ _ q=>q) (fun _ _ i1 i2 n _ ⟨v,vs,e,r,r'⟩=>⟨v,vs,e,i1 n v r,i2 n vs r'⟩) x
theorem c8.inj (x:Kx):∀y n m v,c8 h x n v->c8 h y m v->x=y:=
 Kx.rec (motive_1:=fun x=>∀y n m v,c8 h x n v->c8 h y m v->x=y) (motive_2:=fun x=>∀y n m v,fQ h x n v->fQ h y m v->x=y)
  (fun i y n m v ⟨_,e⟩=>Kx.casesOn (motive_1:=fun y=>c8 h y m v->Kx.int i=y) y (fun _ ⟨_,q⟩=>congrArg Kx.int (Value.int.inj (e.symm.trans q)).1) (fun _ q=>nomatch e.symm.trans (show v=_ from q)) (fun _ ⟨_,_,q⟩=>nomatch e.symm.trans q) (fun _ ⟨_,_,_,_,q,_⟩=>nomatch e.symm.trans q))
  (fun b y n m v e=>Kx.casesOn (motive_1:=fun y=>c8 h y m v->Kx.bool b=y) y (fun _ ⟨_,q⟩=>nomatch (show v=_ from e).symm.trans q) (fun _ q=>congrArg Kx.bool (Value.bool.inj ((show v=_ from e).symm.trans q))) (fun _ ⟨_,_,q⟩=>nomatch (show v=_ from e).symm.trans q) (fun _ ⟨_,_,_,_,q,_⟩=>nomatch (show v=_ from e).symm.trans q))
  (fun s y n m v ⟨_,_,e⟩=>Kx.casesOn (motive_1:=fun y=>c8 h y m v->Kx.str s=y) y (fun _ ⟨_,q⟩=>nomatch e.symm.trans q) (fun _ q=>nomatch e.symm.trans (show v=_ from q)) (fun _ ⟨_,_,q⟩=>congrArg Kx.str (Value.str.inj (e.symm.trans q)).1) (fun _ ⟨_,_,_,_,q,_⟩=>nomatch e.symm.trans q))
  (fun ks ih y n m v ⟨a,vs,k,j,e,_,g,r⟩=>Kx.casesOn (motive_1:=fun y=>c8 h y m v->Kx.tup ks=y) y (fun _ ⟨_,q⟩=>nomatch e.symm.trans q) (fun _ q=>nomatch e.symm.trans (show v=_ from q)) (fun _ ⟨_,_,q⟩=>nomatch e.symm.trans q)
   (fun ls ⟨_,_,_,j',q,_,g',r'⟩=>by cases e.symm.trans q;rw [g] at g';cases g';rw [ih _ j j' _ r r']))
  (fun y n m v e q=>by rw [show v=_ from e] at q;cases y with
   |nil=>rfl
   |cons=>obtain ⟨_,_,e,_⟩:=q;cases e)
  (fun x xs i1 i2 y n m v ⟨u,us,e,r,r'⟩ q=>by subst e;cases y with
   |nil=>cases q
   |cons=>obtain ⟨_,_,e,q,q'⟩:=q;cases e;rw [i1 _ n m _ r q,i2 _ n m _ r' q']) x
theorem c8.reads (x:Kx):∀n v,c8 h x n v->(∃as,Reads h v x.dat as)/\x.dat.canLay0=true/\x.dat.depth<=n:=
 Kx.rec (motive_1:=fun x=>∀n v,c8 h x n v->(∃as,Reads h v x.dat as)/\x.dat.canLay0=true/\x.dat.depth<=n) (motive_2:=fun x=>∀n v,fQ h x n v->(∃as,ReadsAll h v (Kx.dats x) as)/\PyData.canLayAll0 (Kx.dats x)=true/\PyData.depthAll (Kx.dats x)<=n)
  (fun i _ _ ⟨t,e⟩=>e▸⟨⟨_,.int i t⟩,rfl,zero_le _⟩) (fun b _ v e=>(show v=_ from e)▸⟨⟨_,.bool b⟩,rfl,zero_le _⟩) (fun x _ _ ⟨g,t,e⟩=>e▸⟨⟨_,.str _ t⟩,g,zero_le _⟩)
  (fun _ ih _ _ ⟨a,vs,k,m,e,e',g,r⟩=>let ⟨⟨as,q⟩,c,l⟩:=ih m _ r;e▸e'▸⟨⟨as,.tuple g rfl rfl q⟩,c,succ_le_succ l⟩)
  (fun _ v e=>(show v=_ from e)▸⟨⟨_,.nil⟩,rfl,zero_le _⟩)
  (fun _ _ i1 i2 n _ ⟨v,vs,e,r,r'⟩=>let ⟨⟨as,q⟩,c,l⟩:=i1 n v r;let ⟨⟨bs,q'⟩,c',l'⟩:=i2 n vs r';e▸⟨⟨_,.cons q q'⟩,and_eq_true_iff.mpr ⟨c,c'⟩,max_le.mpr ⟨l,l'⟩⟩) x
theorem v9 {α Z:Type}{a b:α}{f:α->Z} [DecidableEq α] [DecidableEq Z] (hf:∀x y,f x=f y->x=y):decide (f a=f b)=decide (a=b):=by
 by_cases q:a=b
 .rw [decide_eq_true q,decide_eq_true (congrArg f q)]
 .rw [decide_eq_false q,decide_eq_false fun e=>q (hf _ _ e)]
theorem mZ {α:Type} [BEq α] [LawfulBEq α] [DecidableEq α] (a b:α):(a==b)=decide (a=b):=by
 by_cases q:a=b
 .rw [decide_eq_true q,beq_iff_eq.mpr q]
 .rw [decide_eq_false q,beq_eq_false_iff_ne.mpr q]
theorem uG (i j:Int):decide (Ky.int i=Ky.int j)=decide (i=j):=v9 fun _ _ e=>Ky.int.inj e
theorem Kx.eqv (x:Kx):∀y:Kx,PyData.eqv x.dat y.dat=decide (x.norm=y.norm):=
 have no:∀{a b:Ky},a≠b->false=decide (a=b):=fun h=>(decide_eq_false h).symm
 Kx.rec (motive_1:=fun x=>∀y:Kx,PyData.eqv x.dat y.dat=decide (x.norm=y.norm)) (motive_2:=fun x=>∀y:List Kx,PyData.eqvAll (Kx.dats x) (Kx.dats y)=decide (Ky.tup (Kx.norms x)=Ky.tup (Kx.norms y)))
  (fun i y=>match y with
   |.int j=>(mZ i j).trans (uG i j).symm
   |.bool b=>(mZ i (u7 b)).trans (uG i _).symm
   |.str _=>no nofun
   |.tup _=>no nofun)
  (fun b y=>match y with
   |.int j=>(mZ (u7 b) j).trans (uG _ j).symm
   |.bool c=>by cases b<;>cases c<;>first |exact (decide_eq_true rfl).symm |exact no fun e=>absurd (Ky.int.inj e) (by decide)
   |.str _=>no nofun
   |.tup _=>no nofun)
  (fun s y=>match y with
   |.int _=>no nofun
   |.bool _=>no nofun
   |.str t=>(mZ s t).trans (v9 fun _ _ e=>Ky.str.inj e).symm
   |.tup _=>no nofun)
  (fun ks ih y=>match y with
   |.int _=>no nofun
   |.bool _=>no nofun
   |.str _=>no nofun
   |.tup ls=>ih ls)
  (fun y=>match y with
   | []=>(decide_eq_true rfl).symm
   |_::_=>no nofun)
  (fun x xs i1 i2 y=>match y with
   | []=>no nofun
   |z::zs=>by
    show (PyData.eqv x.dat z.dat&&PyData.eqvAll (Kx.dats xs) (Kx.dats zs))=decide (Ky.tup (x.norm::Kx.norms xs)=Ky.tup (z.norm::Kx.norms zs))
    rw [i1 z,i2 zs]
    by_cases h:x.norm=z.norm
    .rw [decide_eq_true h,h,Bool.true_and]
     exact decide_eq_decide.mpr ⟨fun e=>by rw [Ky.tup.inj e],fun e=>by rw [(List.cons.inj (Ky.tup.inj e)).2]⟩
    .rw [decide_eq_false h,Bool.false_and]
     exact no fun e=>h (List.cons.inj (Ky.tup.inj e)).1) x
end
section
variable {prog:Program} {w:World} {E:Value->Shared->Prop}
theorem c8.pyHash (x:Kx):∀(n:Nat) (v:Value) (A:Around) (s:Shared) (Q:Int->Shared->Prop),c8 s.heap x n v->A.units+n < cLine->Q (x.norm.hash w) {s with toks:=s.toks+x.norm.draws}->wpAny (model prog w) A (PySem.pyHash v) Q E s:=
 Kx.rec (motive_1:=fun x=>∀(n:Nat) (v:Value) (A:Around) (s:Shared) (Q:Int->Shared->Prop),c8 s.heap x n v->A.units+n < cLine->Q (x.norm.hash w) {s with toks:=s.toks+x.norm.draws}->wpAny (model prog w) A (PySem.pyHash v) Q E s)
  (motive_2:=fun x=>∀(n:Nat) (vs:List Value) (A:Around) (s:Shared) (b:Array Int) (Q:Array Int->Shared->Prop),fQ s.heap x n vs->A.units+n < cLine->(∀b':Array Int,b'.toList=b.toList++Ky.hashes w (Kx.norms x)->Q b' {s with toks:=s.toks+Ky.drawsL (Kx.norms x)})->
   wpAny (model prog w) A (forIn vs b fun x r=>do let h <-PySem.pyHash x;pure PUnit.unit;pure (ForInStep.yield (r.push h))) Q E s)
  (fun i n v A s Q ⟨t,e⟩ _ h=>e▸wpAny_pyHash_int h)
  (fun b n v A s Q e hu h=>by
   rw [show v=_ from e]
   refine pyHash_slot (T:="bool") rfl F.slot_bool_hash entry_int_hash (args_int_hash _) (beq_builtin_none _) (.inl rfl) ?_
   cases b
   .exact (show wpAny _ _ (do ret (<-mkInt 0)) _ _ s from wpAny_bind (wpAny_mkInt (wpAny_pure ⟨_,_,rfl,h⟩)))
   .exact (show wpAny _ _ (do ret (<-mkInt 1)) _ _ s from wpAny_bind (wpAny_mkInt (wpAny_pure ⟨_,_,rfl,h⟩))))
  (fun x n v A s Q ⟨_,t,e⟩ _ h=>e▸wpAny_pyHash_str h)
  (fun ks ih n v A s Q ⟨a,vs,k,m,e,e',hg,r⟩ hu h=>by
   subst e e'
   refine pyHash_slot (T:="tuple") ⟨_,hg,rfl⟩ F.slot_tuple_hash F.entry_tuple_hash (F.args_tuple_hash_1 _) (beq_builtin_none _) (.inr (lt_of_le_of_lt (le_add_right _ _) hu)) ?_
   show wpAny _ _ (Builtin.Tuple.tupleItemsOf (.ref a) >>=_) _ _ s
   refine wpAny_bind (wpAny_tupleItemsOf hg rfl ?_)
   refine wpAny_bind ?_
   rw [<-Array.forIn_toList]
   refine ih m _ _ _ _ _ r (by simp only [Around.in1_units];lia -abstractProof) fun b hb=>?_
   show wpAny _ _ (retInt (Builtin.Tuple.tupleHashOf b.toList)) _ _ _
   rw [hb]
   exact wpAny_bind (wpAny_mkInt (wpAny_pure ⟨_,_,rfl,h⟩)))
  (fun n vs A s b Q e _ h=>by rw [show vs=_ from e];exact wpAny_pure (h b (append_nil _).symm))
  (fun x xs i1 i2 n vs A s b Q ⟨v,vs',e,r,r'⟩ hu h=>by
   rw [e,List.forIn_cons]
   refine wpAny_bind (wpAny_bind (i1 n _ _ _ _ r hu ?_))
   refine wpAny_bind (wpAny_pure (wpAny_pure ?_))
   refine i2 n _ _ _ _ _ r' hu fun b' hb=>?_
   have:=h b' (by rw [hb,Array.toList_push,List.append_assoc];rfl)
   rw [show Ky.drawsL (Kx.norms (x::xs))=_+_ from rfl,<-add_assoc] at this
   exact this) x
theorem c8.quiet (x:Kx):∀(n:Nat) (v:Value) (m:Nat) (A:Around) (s:Shared) (Q:Bool->Shared->Prop),c8 s.heap x n v->n<=m->Q true s->wpAny (model prog w) A (eqIsQuiet m v) Q E s:=
 Kx.rec (motive_1:=fun x=>∀(n:Nat) (v:Value) (m:Nat) (A:Around) (s:Shared) (Q:Bool->Shared->Prop),c8 s.heap x n v->n<=m->Q true s->wpAny (model prog w) A (eqIsQuiet m v) Q E s)
  (motive_2:=fun x=>∀(n:Nat) (vs:List Value) (m:Nat) (A:Around) (s:Shared) (Q:Option Bool×PUnit->Shared->Prop),fQ s.heap x n vs->n<=m->Q (none,⟨⟩) s->
   wpAny (model prog w) A (forIn vs ((none:Option Bool),PUnit.unit) fun y r=>do
    let c <-eqIsQuiet m y
    if (!c)=true then pure (ForInStep.done (some false,PUnit.unit)) else pure (ForInStep.yield (none,PUnit.unit))) Q E s)
  (fun i n v m A s Q ⟨t,e⟩ _ h=>by rw [e,eqIsQuiet_byValue m rfl];exact wpAny_pure h)
  (fun b n v m A s Q e _ h=>by rw [show v=_ from e,eqIsQuiet_byValue m rfl];exact wpAny_pure h)
  (fun x n v m A s Q ⟨_,t,e⟩ _ h=>by rw [e,eqIsQuiet_byValue m rfl];exact wpAny_pure h)
  (fun ks ih n v m A s Q ⟨a,vs,k,j,e,e',hg,r⟩ hu h=>by
   subst e e'
   cases m with
   |zero=>exact absurd hu (Nat.not_succ_le_zero _)
   |succ m=>
    have hT:s.TypeIs (.ref a) "tuple":=⟨_,hg,rfl⟩
    unfold eqIsQuiet
    refine wpAny_bind (wpAny_specialOf hT F.slot_tuple_eq.lookup ?_)
    show wpAny _ _ (isInstance (.ref a) (.type "tuple") >>=_) _ _ s
    refine wpAny_bind (wpAny_isInstance hT isSubtype_tuple_tuple ?_)
    simp only [Bool.not_true,Bool.false_eq_true,if_false]
    refine wpAny_bind (wpAny_seqItems hg rfl ?_)
    refine wpAny_bind ?_
    show wpAny _ _ (forIn vs _ _) _ _ s
    rw [<-Array.forIn_toList]
    exact ih j _ m _ _ _ r (le_of_succ_le_succ hu) (wpAny_pure h))
  (fun n vs m A s Q e _ h=>by rw [show vs=_ from e];exact wpAny_pure h)
  (fun x xs i1 i2 n vs m A s Q ⟨v,vs',e,r,r'⟩ hu h=>by
   rw [e,List.forIn_cons]
   refine wpAny_bind (wpAny_bind (i1 n _ m _ _ _ r hu ?_))
   exact wpAny_pure (i2 n _ m _ _ _ r' hu h)) x
end
def xL (h:Heap)(n:Nat)(k:Ky)(v:Value):Prop:=∃x:Kx,x.norm=k/\c8 h x n v
def Fg (h:Heap)(n:Nat)(k:List Ky)(v:List Value):Prop:=∃x:List Kx,Kx.norms x=k/\fQ h x n v
noncomputable def b7 (prog:Program)(w:World):HeapKind prog w Ky where
 is:=fun h k a=>xL h 6 k (.ref a)
 hash:=Ky.hash w
 draws:=Ky.draws
 room:=fun A=>A.units+6 < cLine
 inj:=fun hx hy=>let ⟨x,e,q⟩:=hx;let ⟨y,e',q'⟩:=hy;by rw [<-e,<-e',c8.inj x y 6 6 _ q q']
 keeps:=fun {h h' k a d o es ep} hx ho hd hs=>let ⟨x,e,q⟩:=hx;⟨x,e,c8.keeps (fun b vs j e=>(hs.2 b fun q=>by rw [q,ho] at e;cases e;cases hd).trans e) x 6 _ q⟩
 pyHash:=fun hu hk h=>by obtain ⟨x,rfl,q⟩:=hk;exact c8.pyHash x 6 _ _ _ _ q hu h
 eqBool:=fun {A E s x y a b Q} hu hx hy h=>by
  obtain ⟨x,rfl,q1⟩:=hx
  obtain ⟨y,rfl,q2⟩:=hy
  by_cases q:a=b
  .subst q
   rw [c8.inj x y 6 6 _ q1 q2,decide_eq_true rfl] at h
   exact SeqAt.EqAt.same (.ref a) prog w E Q h
  .obtain ⟨⟨as,r1⟩,c1,l1⟩:=c8.reads x 6 _ q1
   obtain ⟨⟨bs,r2⟩,c2,l2⟩:=c8.reads y 6 _ q2
   rw [<-x.eqv y] at h
   exact SeqAt.EqAt.of_refs q (SeqAt.rcAt_reads r1 r2 c1 c2 (lt_of_le_of_lt (add_le_add_left (le_trans (min_le_left _ _) l1) _) hu)) prog w E Q h
 quiet:=fun hk h=>by obtain ⟨x,rfl,q⟩:=hk;exact c8.quiet x 6 _ _ _ _ _ q (by decide) h
end
end Mine
end
section
set_option backward.eqns.nonrecursive false
namespace Mine
noncomputable section
open PySem PyProof.Rows
noncomputable def lim:Nat:=1000000
noncomputable def du:Nat:=50
noncomputable def cut {α:Type}(lo hi:Option Int)(xs:List α):List α:=
 (xs.drop (lo.elim 0 (clipAt xs.length))).take (hi.elim xs.length (clipAt xs.length) - lo.elim 0 (clipAt xs.length))
theorem kq (n k:Nat):clipAt n (k:Int)=min k n:=by
 unfold clipAt
 rw [if_neg (Int.not_lt.mpr (natCast_nonneg k))]
 rcases Nat.le_total k n with h |h
 .rw [Nat.min_eq_left h,Int.min_eq_left (cc h),Int.max_eq_right (natCast_nonneg k)];rfl
 .rw [Nat.min_eq_right h,Int.min_eq_right (cc h),Int.max_eq_right (natCast_nonneg n)];rfl
theorem wi (n:Nat):clipAt n (-1)=n - 1:=by
 unfold clipAt
 rw [if_pos (by decide)]
 cases n with
 |zero=>rfl
 |succ n=>
  rw [show (-1:Int)+((n+1:Nat):Int)=n from (Int.add_comm _ _).trans (Int.add_sub_cancel (n:Int) 1),Int.min_eq_left (cc (le_succ n)),Int.max_eq_right (natCast_nonneg n)];rfl
noncomputable def f6 (lo hi:Option Int)(x:Str):Str:=⟨(cut lo hi x.cps.toList).toArray⟩
inductive T where
 |none
 |bool (b:Bool)
 |int (i:Int)
 |str (s:Str)
 |tup (ts:List T)
 |lst (ts:List T)
 |dct (ks vs:List T)
 |obj (c:Nat) (fs:List T)
 |scr (ns:List Int)
 |spot
 |self
 deriving Inhabited
structure Sg where
 spot:Int
 self:Option (Nat×List T)
@[reducible] noncomputable def S1:Type:=Sg
@[reducible] noncomputable def S2:Type:=S1
@[reducible] noncomputable def S3:Type:=S2
@[reducible] noncomputable def S4:Type:=S3
@[reducible] noncomputable def S5:Type:=S4
@[reducible] noncomputable def B1:Type:=Bool
@[reducible] noncomputable def B2:Type:=B1
@[reducible] noncomputable def B3:Type:=B2
@[reducible] noncomputable def B4:Type:=B3
@[reducible] noncomputable def B5:Type:=B4
noncomputable abbrev aP:=List (Option T)
inductive cj where
 |ret (t:T) (J:Sg)
 |fall (V:aP) (J:Sg)
 |exc (c:Nat) (J:Sg)
 |bad
@[reducible] noncomputable def gd (b:B5)(o:cj):cj:=Bool.rec (motive:=fun _=>cj) .bad o b
structure eO where
 call:Nat->List T->Sg->cj
noncomputable abbrev PK (α:Type):=α->Sg->cj
noncomputable abbrev PG (α:Type):=eO->aP->Sg->PK α->cj
noncomputable abbrev PE:=PG T
noncomputable abbrev PT:=PG Bool
noncomputable abbrev PL:=PG (List T)
noncomputable abbrev PO:=PG (Option Int)
noncomputable abbrev PS:=PG aP
noncomputable def bX:aP->Nat->Option T
 | [],_=>none
 |x::_,0=>x
 |_::r,n+1=>bX r n
noncomputable def up {α:Type}(o:Option α)(J:S3)(k:PK α):cj:=match o with
 |some a=>k a J
 |none=>.bad
@[irreducible] noncomputable def vI (o:cj)(k:PK T):cj:=match o with
 |.ret t J=>k t J
 |_=>.bad
theorem Da {t:T}{J:Sg}{k:PK T}:vI (.ret t J) k=k t J:=by with_unfolding_all rfl
def bS (n:Nat):Bool:=Nat.ble n lim
noncomputable def fO (f:T->Option PyData):List T->Option (List PyData)
 | []=>some []
 |x::r=>match f x with
  |none=>none
  |some d=>(fO f r).map (d::·)
def cX:Nat->T->Option PyData
 |_,.none=>some .none
 |_,.bool b=>some (.bool b)
 |_,.int i=>some (.int i)
 |_,.str s=>some (.str s)
 |n+1,.tup xs=>(fO (cX n) xs).map .tuple
 |n+1,.lst xs=>(fO (cX n) xs).map .list
 |_,_=>none
@[reducible] def pV (i:Nat):PE:=fun _ V J k=>up (bX V i) J k
@[reducible] noncomputable def pC (t:T):PE:=fun _ _ (J:S5) k=>k t J
@[reducible] noncomputable def p1 {α z:Type}(f:α->Option z)(e:PG α):PG z:=fun c V J k=>e c V J fun a J=>up (f a) J k
@[reducible] noncomputable def p2 {α z γ:Type}(f:α->z->Option γ)(l:PG α)(r:PG z):PG γ:=fun c V J k=>l c V J fun a J=>r c V J fun b J=>up (f a b) J k
@[reducible] noncomputable def p3 {α z γ g:Type}(f:α->z->γ->Option g)(l:PG α)(m:PG z)(r:PG γ):PG g:=fun c V J k=>l c V J fun a J=>m c V J fun b J=>r c V J fun x J=>up (f a b x) J k
@[reducible] noncomputable def pB (t:PT):PE:=fun c V (J:S5) k=>t c V J fun b J=>k (.bool b) J
@[reducible] noncomputable def an:PL:=fun _ _ (J:S5) k=>k [] J
@[reducible] noncomputable def ae (e:PE)(r:PL):PL:=fun c V (J:S5) k=>e c V J fun v J=>r c V J fun vs J=>k (v::vs) J
@[reducible] def aT (r:PL):PE:=fun c V (J:S5) k=>r c V J fun vs J=>bif bS vs.length then k (.tup vs) J else .bad
@[reducible] def bW (r:PL):PE:=fun c V (J:S5) k=>r c V J fun vs J=>bif bS vs.length then k (.lst vs) J else .bad
noncomputable def eW:T->Option Bool
 |.none=>some false
 |.bool b=>some b
 |.int i=>some (i !=0)
 |_=>none
@[reducible] def qE (e:PE):PT:=p1 eW e
@[reducible] noncomputable def c9 (t:PT):PT:=fun c V (J:S5) k=>t c V J fun b J=>k (!b) J
@[reducible] noncomputable def wR (t u:PT):PT:=fun c V (J:S5) k=>t c V J fun b J=>bif b then u c V J k else k false J
@[reducible] noncomputable def gG (t u:PT):PT:=fun c V (J:S5) k=>t c V J fun b J=>bif b then k true J else u c V J k
@[reducible] noncomputable def aM:PT:=fun _ _ (J:S5) k=>k true J
@[reducible] noncomputable def cU:PT:=fun _ _ (J:S5) k=>k false J
@[reducible] def lk (e:PE):PE:=p1 (fun t=>(eW t).map fun b=>.bool (!b)) e
@[reducible] def lq (d e:PE):PE:=fun c V (J:S5) k=>d c V J fun v J=>match eW v with
 |some true=>e c V J k
 |some false=>k v J
 |none=>.bad
@[reducible] def AO (d e:PE):PE:=fun c V (J:S5) k=>d c V J fun v J=>match eW v with
 |some true=>k v J
 |some false=>e c V J k
 |none=>.bad
@[reducible] noncomputable def JE (t:PT)(d e:PE):PE:=fun c V (J:S5) k=>t c V J fun b J=>bif b then d c V J k else e c V J k
@[reducible] def ax (f:Nat)(args:PL):PE:=fun c V (J:S5) k=>args c V J fun vs J=>vI (c.call f vs J) k
noncomputable def G1:T->Option Bool
 |.bool b=>some b
 |_=>none
noncomputable def i7:T->Option Int
 |.int i=>some i
 |_=>none
noncomputable def rJ:T->Option Str
 |.str s=>some s
 |_=>none
noncomputable def oQ:T->Option (List T)
 |.tup xs=>some xs
 |_=>none
noncomputable def f8:T->Option (List T)
 |.lst xs=>some xs
 |_=>none
noncomputable def E7:T->Option (List Int)
 |.scr ns=>some ns
 |_=>none
noncomputable def el {α:Type}(x:Option α)(y:Option α):Option α:=match x with
 |some a=>some a
 |none=>y
noncomputable def o2 {α z γ:Type}(x:Option α)(y:Option z)(f:α->z->Option γ):Option γ:=match x with
 |some a=>match y with
  |some b=>f a b
  |none=>none
 |none=>none
noncomputable def o1 {α z:Type}(x:Option α)(f:α->Option z):Option z:=match x with
 |some a=>f a
 |none=>none
def cH (a b:T):Option Bool:=o2 (cX du a) (cX du b) fun d e=>some (PyData.eqv d e)
def mu (a b:T):Option Bool:=(cH a b).map (!·)
noncomputable def mi {α:Type}(n:Nat)(x:α):Option α:=bif bS n then some x else none
def bw (a b:T):Option T:=match i7 a with
 |some i=>o1 (i7 b) fun j=>some (.int (i+j))
 |none=>match rJ a with
  |some x=>o1 (rJ b) fun y=>mi (x++y).length (.str (x++y))
  |none=>match oQ a with
   |some x=>o1 (oQ b) fun y=>mi (x++y).length (.tup (x++y))
   |none=>o2 (f8 a) (f8 b) fun x y=>mi (x++y).length (.lst (x++y))
def Cd (f:Int->Int->Option T)(a b:T):Option T:=o2 (i7 a) (i7 b) f
def gF:T->T->Option T:=Cd fun a b=>some (.int (a - b))
noncomputable def sm (i:Int):Bool:=Nat.ble i.natAbs 1000000000
@[irreducible] def hU:T->T->Option T:=Cd fun a b=>bif sm a||sm b then some (.int (a * b)) else none
@[irreducible] def dY:T->T->Option T:=Cd fun a b=>bif b==0||Nat.ble 1073741824 b.natAbs then none else some (.int (a.fdiv b))
@[irreducible] def bZ:T->T->Option T:=Cd fun a b=>bif b==0 then none else some (.int (a.fmod b))
def qU (a:T):Option T:=o1 (i7 a) fun i=>some (.int (-i))
def CA (f:Int->Int->Bool)(a b:T):Option Bool:=o2 (i7 a) (i7 b) fun i j=>some (f i j)
def o7:T->T->Option Bool:=CA fun a b=>decide (a < b)
def EB:T->T->Option Bool:=CA fun a b=>decide (a<=b)
def Dp:T->T->Option Bool:=CA fun a b=>decide (a > b)
def HA:T->T->Option Bool:=CA fun a b=>decide (a ≥ b)
def gO (a:T):Option (List T):=el (oQ a) (f8 a)
def ox (xs:List T):Option (List PyData):=fO (cX du) xs
def iM (a b:T):Option Bool:=o1 (gO b) fun xs=>o2 (cX du a) (ox xs) fun d es=>some (es.any fun y=>PyData.eqv y d)
def fK (a b:T):Option Bool:=(iM a b).map (!·)
def AS (i:Int)(xs:List T):Option T:=bif sm i then o1 (seqIndex? i xs.length) fun j=>xs[j]? else none
def vk (i:Int)(x:Str):Option T:=bif sm i then ((seqIndex? i x.length).bind (x.cps[·]?)).map fun c=>T.str ⟨#[c]⟩ else none
def aL (a b:T):Option T:=o1 (i7 b) fun i=>match gO a with
 |some xs=>AS i xs
 |none=>match E7 a with
  |some ns=>AS i (ns.map T.int)
  |none=>o1 (rJ a) (vk i)
@[irreducible] def bR (a:T)(lo hi:Option Int):Option T:=match oQ a with
 |some xs=>some (.tup (cut lo hi xs))
 |none=>match f8 a with
  |some xs=>some (.lst (cut lo hi xs))
  |none=>o1 (rJ a) fun x=>some (.str (f6 lo hi x))
def br (a:T):Option T:=match gO a with
 |some xs=>some (.int xs.length)
 |none=>match E7 a with
  |some xs=>some (.int xs.length)
  |none=>o1 (rJ a) fun x=>some (.int x.length)
def gz (a:T):Option T:=o1 (gO a) fun xs=>some (.lst xs)
def HZ (a:T):Option T:=o1 (f8 a) fun xs=>some (.tup xs)
def fM (a v:T):Option T:=o1 (f8 a) fun xs=>o2 (cX du v) (ox xs) fun d es=>o1 (es.findIdx? fun y=>PyData.eqv y d) fun i=>some (.int i)
@[reducible] noncomputable def am:PS:=fun _ V (J:S5) k=>k V J
@[reducible] noncomputable def ah (a b:PS):PS:=fun c V (J:S5) k=>a c V J fun V J=>b c V J k
@[reducible] noncomputable def aD (i:Nat)(e:PE):PS:=fun c V (J:S5) k=>e c V J fun v J=>k (V.set i (some v)) J
@[reducible] def bI (t:PT)(a b:PS):PS:=fun c V (J:S5) k=>t c V J fun q J=>bif q then a c V J k else b c V J k
@[reducible] noncomputable def aF (e:PE):PS:=fun c V (J:S5) _=>e c V J fun v J=>.ret v J
@[reducible] noncomputable def m6 (e:PE):PS:=fun c V (J:S5) k=>e c V J fun _ J=>k V J
@[reducible] noncomputable def iJ:PS:=fun _ _ _ _=>.bad
@[reducible] def HN (x:Nat)(r:PL):PS:=fun c V J _=>r c V J fun vs J=>bif bS vs.length then .exc x J else .bad
noncomputable def ew:List Nat->List T->aP->Option aP
 | [],[],V=>some V
 |i::is,v::vs,V=>ew is vs (V.set i (some v))
 |_,_,_=>none
@[reducible] def I7 (is:List Nat)(e:PE):PS:=fun c V J k=>e c V J fun v J=>match v with
 |.tup ts=>up (ew is ts V) J k
 |_=>.bad
noncomputable abbrev PB:=T->aP->Option aP
@[reducible] noncomputable def ba (i:Nat):PB:=fun v V=>some (V.set i (some v))
@[reducible] noncomputable def xN (i j:Nat):PB:=fun v V=>match v with
 |.tup [a,b]=>some ((V.set i (some a)).set j (some b))
 |_=>none
noncomputable def cu (bd:PB)(body:PS)(c:eO):List T->aP->Sg->PK aP->cj
 | [],V,J,k=>k V J
 |v::r,V,J,k=>match bd v V with
  |none=>.bad
  |some ρ'=>body c ρ' J fun V J=>cu bd body c r V J k
theorem zX {bd:PB}{body:PS}{c:eO}{v:T}{r:List T}{V:aP}{J:Sg}{k:PK aP}:cu bd body c (v::r) V J k=(match bd v V with
  |none=>.bad
  |some ρ'=>body c ρ' J fun V J=>cu bd body c r V J k):=rfl
@[reducible] def cC (it:PL)(bd:PB)(body:PS):PS:=fun c V (J:S5) k=>it c V J fun xs J=>cu bd body c xs V J k
@[irreducible] noncomputable def fG (t:PT)(body:PS)(c:eO):Nat->aP->Sg->PK aP->cj
 | 0,_,_,_=>.bad
 |n+1,V,J,k=>t c V J fun b J=>bif b then body c V J fun V J=>fG t body c n V J k else k V J
theorem jx {t:PT}{body:PS}{c:eO}{n:Nat}{V:aP}{J:Sg}{k:PK aP}:fG t body c (n+1) V J k=t c V J fun b J=>bif b then body c V J fun V J=>fG t body c n V J k else k V J:=by with_unfolding_all rfl
theorem x0 {t:PT}{body:PS}{c:eO}{V:aP}{J:Sg}{k:PK aP}:fG t body c 0 V J k=.bad:=by with_unfolding_all rfl
@[reducible] def eS (n:Nat)(t:PT)(body:PS):PS:=fun c V (J:S5) k=>fG t body c n V J k
@[irreducible] noncomputable def bx (bd:PB)(cond:PT)(elt:PE)(c:eO)(V:aP):List T->Sg->List T->PK (List T)->cj
 | [],J,acc,k=>k acc J
 |v::r,J,acc,k=>match bd v V with
  |none=>.bad
  |some ρ'=>cond c ρ' J fun b J=>bif b then elt c ρ' J fun x J=>bx bd cond elt c V r J (acc++[x]) k else bx bd cond elt c V r J acc k
theorem wf {bd:PB}{cond:PT}{elt:PE}{c:eO}{V:aP}{J:Sg}{acc:List T}{k:PK (List T)}:bx bd cond elt c V [] J acc k=k acc J:=by with_unfolding_all rfl
theorem wg {bd:PB}{cond:PT}{elt:PE}{c:eO}{V:aP}{v:T}{r:List T}{J:Sg}{acc:List T}{k:PK (List T)}:bx bd cond elt c V (v::r) J acc k=(match bd v V with
  |none=>.bad
  |some ρ'=>cond c ρ' J fun b J=>bif b then elt c ρ' J fun x J=>bx bd cond elt c V r J (acc++[x]) k else bx bd cond elt c V r J acc k):=by with_unfolding_all rfl
@[reducible] def aU (it:PL)(bd:PB)(cond:PT)(elt:PE):PE:=fun c V (J:S5) k=>it c V J fun xs J=>bx bd cond elt c V xs J [] fun ys J=>k (.lst ys) J
@[reducible] def bm (e:PE):PL:=p1 gO e
noncomputable def dJ (a b c:Int):List T:=(List.range (Builtin.Range.rangeSize a b c).toNat).map fun k=>T.int (a+(k:Nat) * c)
def rg (a n:Int):Option (List T):=bif (sm a&&sm n)&&bS (dJ a n 1).length then some (dJ a n 1) else none
@[irreducible] def vy:List T->Option (List T)
 | []=>none
 |m::r=>match r with
  | []=>o1 (i7 m) (rg 0)
  |n::r=>match r with
   | []=>o2 (i7 m) (i7 n) rg
   |_::_=>none
@[reducible] def cV (r:PL):PL:=p1 vy r
noncomputable def im:Nat->List T->List T
 |_,[]=>[]
 |n,x::r=>.tup [.int n,x]::im (n+1) r
def Jp (t:T):Option (List T):=o1 (f8 t) fun xs=>some (im 0 xs)
@[reducible] def qd (e:PE):PL:=p1 Jp e
def dL (x v:T):Option T:=o1 (f8 x) fun xs=>mi (xs.length+1) (.lst (xs++[v]))
def iO (x v:T):Option T:=o2 (f8 x) (f8 v) fun xs ys=>mi (xs.length+ys.length) (.lst (xs++ys))
noncomputable def rR (f:Nat):Bool:=Nat.ble 1000 f
noncomputable def iN (f:Nat):Bool:=Nat.ble 500 f&&Nat.ble f 599
structure gE where
 np:Nat
 ns:Nat
 body:PS
noncomputable def frame (ts:List T)(n:Nat):aP:=ts.map some++replicate n none
def aw (Z:Nat->Option gE):Nat->Nat->List T->Sg->cj
 | 0,_,_,_=>.bad
 |n+1,f,args,J=>match Z f with
  |none=>.bad
  |some F=>bif Nat.beq args.length F.np then
    match F.body ⟨aw Z n⟩ (frame args F.ns) J fun _ J=>bif iN f then .bad else .ret .none J with
    |.ret t J=>.ret t J
    |.exc c J=>.exc c J
    |_=>.bad
   else .bad
theorem wk {Z:Nat->Option gE}{n f:Nat}{args:List T}{J:Sg}:aw Z (n+1) f args J=(match Z f with
  |none=>.bad
  |some F=>bif Nat.beq args.length F.np then
    match F.body ⟨aw Z n⟩ (frame args F.ns) J fun _ J=>bif iN f then .bad else .ret .none J with
    |.ret t J=>.ret t J
    |.exc c J=>.exc c J
    |_=>.bad
   else .bad):=rfl
inductive BT where
 |list |bool |int |str |tuple
noncomputable def BT.id:BT->String
 |.list=>"list" |.bool=>"bool" |.int=>"int" |.str=>"str" |.tuple=>"tuple"
noncomputable def BT.nm (T:BT):Str:=ofString T.id
inductive MK where
 |list |str |tuple
noncomputable def MK.id:MK->String
 |.list=>"list" |.str=>"str" |.tuple=>"tuple"
noncomputable def q8 (κs:List Ky)(H:Ky):Option Nat:=κs.findIdx? fun x=>decide (x=H)
noncomputable def nG {α:Type}(i:Option Nat)(k v:α)(ks vs:List α):List α×List α:=match i with
 |some i=>(ks,vs.set i v)
 |none=>(ks++[k],vs++[v])
noncomputable def isN:T->Bool
 |.none=>true
 |_=>false
def zJ (a b:T):Option Bool:=bif isN b then some (isN a) else none
def cZ (t:T):Option (Option Int):=o1 (i7 t) fun i=>some (some i)
def ej:List T->Option (List Bool)
 | []=>some []
 |t::r=>o2 (eW t) (ej r) fun b bs=>some (b::bs)
def G2 (f:List Bool->Bool)(t:T):Option T:=o1 (f8 t) fun ts=>o1 (ej ts) fun bs=>some (.bool (f bs))
def AA:T->Option T:=G2 (·.any id)
def kN:T->Option T:=G2 (·.all id)
def qf (t:T):Option T:=o1 (G1 t) fun b=>some (.int (if b then 1 else 0))
noncomputable def Ir (X:BT):T->Option Bool
 |.bool _=>some (match X with |.bool |.int=>true |_=>false)
 |.int _=>some (match X with |.int=>true |_=>false)
 |.str _=>some (match X with |.str=>true |_=>false)
 |.tup _=>some (match X with |.tuple=>true |_=>false)
 |.lst _=>some (match X with |.list=>true |_=>false)
 |_=>none
def dS (X:BT)(t:T):Option T:=o1 (Ir X t) fun b=>some (.bool b)
def kT (K:MK)(t:T):Bool:=match K with
 |.list=>(f8 t).isSome
 |.str=>(rJ t).isSome
 |.tuple=>(oQ t).isSome
@[reducible] def xO (K:MK)(F:T->T->Option T)(l r:PE):PE:=fun c V J k=>l c V J fun a J=>gd (kT K a) (r c V J fun b J=>up (F a b) J k)
def IB (a v:T):Option T:=o1 (f8 a) fun xs=>o2 (cX du v) (ox xs) fun d es=>some (.int ((es.countP fun y=>PyData.eqv y d:Nat):Int))
def yn:List T->Option (List Str)
 | []=>some []
 |t::r=>o2 (rJ t) (yn r) fun x xs=>some (x::xs)
def vR (a b:T):Option T:=o2 (rJ a) (f8 b) fun sep ts=>o1 (yn ts) fun xs=>bif JoinOk sep xs&&PyData.strOk (Txt.join sep xs)&&bS (Txt.join sep xs).length then some (.str (Txt.join sep xs)) else none
def qz (a b:T):Option T:=o2 (rJ a) (rJ b) fun x y=>bif !(y.length==0)&&bS (Txt.split x y).length&&(Txt.split x y).all (fun t=>PyData.strOk t&&decide (t.length<=lim)) then some (.lst ((Txt.split x y).map T.str)) else none
@[irreducible] def Jh (a b:T):Option T:=o2 (f8 a) (i7 b) fun xs k=>bif decide (0<=k)&&(decide (k<=1000)&&Nat.ble xs.length 1000) then some (.lst (replicate k.toNat xs).flatten) else none
def CC (t:T):Option (List T):=o1 (rJ t) fun x=>bif x.cps.all (· < 128) then some (x.cps.toList.map fun c=>T.str ⟨#[c]⟩) else none
def Hz (a b:T):Option Bool:=o2 (rJ a) (rJ b) fun y x=>some (Txt.contains x y)
@[reducible] def iI (i:Nat)(F:T->T->Option T)(e:PE):PS:=fun c V (J:S5) k=>match bX V i with
 |some x=>gd (kT .list x) (e c V J fun v J=>up (F x v) J fun y J=>k (V.set i (some y)) J)
 |none=>.bad
def kS:Nat->T->Option Ky
 |_,.int i=>some (.int i)
 |_,.bool b=>some (.int (u7 b))
 |_,.str s=>some (.str s)
 |n+1,.tup xs=>o1 (go (kS n) xs) fun ks=>some (.tup ks)
 |_,_=>none
where go (f:T->Option Ky):List T->Option (List Ky)
 | []=>some []
 |x::r=>o2 (f x) (go f r) fun k ks=>some (k::ks)
theorem Dk {n:Nat}{xs:List T}:kS (n+1) (.tup xs)=o1 (kS.go (kS n) xs) fun ks=>some (.tup ks):=rfl
theorem xn {f:T->Option Ky}{x:T}{r:List T}:kS.go f (x::r)=o2 (f x) (kS.go f r) fun k ks=>some (k::ks):=rfl
def zC (t:T):Option Ky:=o1 (oQ t) fun xs=>kS 6 (.tup xs)
def fW (us:List T):Option (List Ky):=kS.go zC us
noncomputable def AT:T->Option (List T×List T)
 |.dct us ts=>some (us,ts)
 |_=>none
def kU (us:List T)(k:T):Option (Option Nat):=o2 (fW us) (zC k) fun κs H=>some (q8 κs H)
def AR (a b:T):Option Bool:=o1 (AT b) fun p=>o1 (kU p.1 a) fun i=>some i.isSome
def idxD (a k:T):Option T:=o1 (AT a) fun p=>o1 (kU p.1 k) fun i=>o1 i fun j=>p.2[j]?
def I0 (a:T):Option T:=o1 (AT a) fun p=>some (.int p.1.length)
def oq:List T->List T->List T->Option (List T×List T)
 | [],us,ts=>some (us,ts)
 |x::r,us,ts=>o1 (oQ x) fun ps=>match ps with
  | [k,v]=>o1 (kU us k) fun i=>oq r (nG i k v us ts).1 (nG i k v us ts).2
  |_=>none
def tf (a:T):Option T:=o1 (f8 a) fun xs=>o1 (oq xs [] []) fun p=>some (.dct p.1 p.2)
@[reducible] def AM (i:Nat)(F:T->T->T->Option T)(j e:PE):PS:=fun c V (J:S5) k=>e c V J fun v J=>match bX V i with
 |some x=>j c V J fun H J=>up (F x H v) J fun y J=>k (V.set i (some y)) J
 |none=>.bad
def Jj (x H v:T):Option T:=o2 (f8 x) (i7 H) fun xs i=>bif decide (0<=i)&&decide (i < xs.length) then some (.lst (xs.set i.toNat v)) else none
def d5 (x H v:T):Option T:=o1 (AT x) fun p=>o1 (kU p.1 H) fun i=>mi (p.1.length+1) (.dct (nG i H v p.1 p.2).1 (nG i H v p.1 p.2).2)
noncomputable def cD:Nat->List Str
 | 0=>[ofString "names",ofString "roads",ofString "firsts"]
 | 10=>[ofString "bonds",ofString "promises",ofString "machine",ofString "known",ofString "knots",ofString "begun",ofString "threads"]
 |_=>[]
noncomputable def hJ:Nat->Nat->Bool
 | 10,3=>true
 | 10,4=>true
 | 10,6=>true
 |_,_=>false
@[reducible] def yQ (j:Nat)(is:List Nat):PS:=fun _ V J k=>up (o1 (bX V j) fun x=>o1 (f8 x) fun xs=>o1 xs.getLast? fun t=>o1 (oQ t) fun ts=>ew is ts (V.set j (some (.lst xs.dropLast)))) J k
@[reducible] def pL (j i:Nat):PS:=fun _ V J k=>up (o1 (bX V j) fun x=>o1 (f8 x) fun xs=>o1 xs.head? fun y=>some ((V.set j (some (.lst xs.tail))).set i (some y))) J k
noncomputable def HF (c:Nat):T->Option (List T)
 |.obj c' ts=>bif Nat.beq c' c then some ts else none
 |_=>none
def o3 (c i:Nat)(t:T):Option T:=o1 (HF c t) fun ts=>ts[i]?
def Ji (c i:Nat)(J:Sg):T->Option T
 |.self=>o1 J.self fun p=>bif Nat.beq p.1 c&&!hJ c i then p.2[i]? else none
 |t=>o3 c i t
@[reducible] def fJ (c i:Nat):PE:=fun _ V J k=>up (o1 (bX V 0) (Ji c i J)) J k
@[reducible] def vH (c f:Nat)(o:PE)(args:PL):PE:=fun cx V (J:S5) k=>o cx V J fun t J=>gd (HF c t).isSome (args cx V J fun ts J=>vI (cx.call f (t::ts) J) k)
def zL (c:Nat)(V:aP)(J:Sg):Bool:=match bX V 0 with
 |some .self=>match J.self with
  |some p=>Nat.beq p.1 c
  |none=>false
 |_=>false
@[reducible] def ux (c f:Nat)(args:PL):PE:=fun cx V (J:S5) k=>gd (zL c V J) (args cx V J fun ts J=>vI (cx.call f (.self::ts) J) k)
noncomputable def Sg.fld (J:Sg)(i:Nat)(y:T):Sg:=⟨J.spot,J.self.map fun p=>(p.1,p.2.set i y)⟩
def eY (c i:Nat)(V:aP)(J:Sg):Option T:=bif zL c V J&&hJ c i then o1 J.self fun p=>p.2[i]? else none
noncomputable def Sg.push (J:Sg)(y:T):Sg:=⟨J.spot,J.self.map fun p=>(p.1,p.2++[y])⟩
def DC (c i:Nat)(V:aP)(J:Sg):Bool:=zL c V J&&(match J.self with
 |some p=>Nat.beq p.2.length i
 |none=>false)
@[reducible] def uw (c i:Nat)(e:PE):PS:=fun cx V J k=>e cx V J fun v J=>gd (DC c i V J) (k V (J.push v))
@[irreducible] def w0 (c:Nat)(o:cj)(k:PK T):cj:=match o with
 |.ret t J=>bif isN t then (match J.self with
   |some p=>bif Nat.beq p.1 c then k (.obj c p.2) ⟨J.spot,none⟩ else .bad
   |none=>.bad) else .bad
 |_=>.bad
@[reducible] def yU (c f:Nat)(args:PL):PE:=fun cx V (J:S5) k=>args cx V J fun ts J=>match J.self with
 |some _=>.bad
 |none=>w0 c (cx.call f (.self::ts) ⟨J.spot,some (c,[])⟩) k
def rd (V:aP)(i:Nat):Bool:=match bX V i with
 |some .spot=>true
 |_=>false
@[reducible] def pU (i:Nat):PE:=fun _ V J k=>gd (rd V i) (k (.int J.spot) J)
@[reducible] def jV (i:Nat)(e:PE):PS:=fun cx V J k=>e cx V J fun v J=>gd (rd V i) (match i7 v with
 |some n=>k V ⟨n,J.self⟩
 |none=>.bad)
@[reducible] noncomputable def md (F G:T->T->Option Bool)(l m r:PE):PT:=fun c V J k=>l c V J fun a J=>m c V J fun b J=>match F a b with
 |some true=>r c V J fun x J=>up (G b x) J k
 |some false=>k false J
 |none=>.bad
def dI (a b:T):Option Bool:=(AR a b).map (!·)
def GC (a b:T):Option Bool:=(zJ a b).map (!·)
def uo (a:T):Option T:=o1 (f8 a) fun xs=>some (.lst xs.reverse)
def ip:List T->Option (List Bool)
 | []=>some []
 |t::r=>o2 (G1 t) (ip r) fun b bs=>some (b::bs)
def qr (f:Bool->Bool->Bool)(a b:T):Option T:=o2 (f8 a) (f8 b) fun xs ys=>o2 (ip xs) (ip ys) fun bs cs=>some (.lst ((zipWith f bs cs).map T.bool))
def dn (a n c:Int):Option (List T):=bif (sm a&&sm n&&decide (c=-1))&&bS (dJ a n (-1)).length then some (dJ a n (-1)) else none
@[irreducible] def Jt:List T->Option (List T)
 | []=>none
 |m::r=>match r with
  | []=>none
  |n::r=>match r with
   | []=>none
   |l::r=>match r with
    | []=>o2 (i7 m) (i7 n) fun a b=>o1 (i7 l) (dn a b)
    |_::_=>none
@[reducible] def JF (r:PL):PL:=p1 Jt r
def lA (ks:List T)(kn:T):List T->List (List T)->Option (List (List T))
 | [],ds=>some ds
 |o::r,ds=>o1 (kU ks o) fun i=>o1 i fun j=>o1 ds[j]? fun l=>bif bS (l.length+1) then lA ks kn r (ds.set j (l++[kn])) else none
def sU (ks:List T)(th:T):List T->List (List T)->Option (List (List T))
 | [],ds=>some ds
 |kn::r,ds=>o1 (idxD th kn) fun l=>o1 (f8 l) fun os=>o1 (lA ks kn os ds) fun ds=>sU ks th r ds
def fg:List T->List T->Bool
 | [],_=>true
 |k::r,us=>match kU us k with
  |some none=>fg r (us++[k])
  |_=>false
theorem EA {ks:List T}{kn o:T}{r:List T}{ds:List (List T)}:lA ks kn (o::r) ds=o1 (kU ks o) fun i=>o1 i fun j=>o1 ds[j]? fun l=>bif bS (l.length+1) then lA ks kn r (ds.set j (l++[kn])) else none:=rfl
theorem Ez {ks:List T}{th kn:T}{r:List T}{ds:List (List T)}:sU ks th (kn::r) ds=o1 (idxD th kn) fun l=>o1 (f8 l) fun os=>o1 (lA ks kn os ds) fun ds=>sU ks th r ds:=rfl
theorem od {k:T}{r us:List T}:fg (k::r) us=(match kU us k with
  |some none=>fg r (us++[k])
  |_=>false):=rfl
def zu (w:T):Option T:=o1 (o3 10 4 w) fun kl=>o1 (f8 kl) fun ks=>o1 (o3 10 6 w) fun th=>bif bS ks.length&&fg ks [] then o1 (sU ks th ks (ks.map fun _=>[])) fun ds=>some (.dct ks (ds.map .lst)) else none
@[reducible] def xZ:PS:=fun _ V J _=>match bX V 0 with
 |some w=>match zu w with
  |some t=>.ret t J
  |none=>.bad
 |none=>.bad
@[reducible] noncomputable def jt:PO:=fun _ _ (J:S5) k=>k none J
@[reducible] def pD (is:List Nat)(e:PE):PS:=fun c V (J:S5) k=>e c V J fun v J=>up (o1 (oQ v) fun ts=>ew is ts V) J k
@[reducible] noncomputable def nQ:PE:=fun _ _ (J:S5) k=>k (.dct [] []) J
@[reducible] def qM (c i:Nat):PE:=fun _ V J k=>up (eY c i V J) J k
@[reducible] def Ef (c i:Nat)(F:T->T->Option T)(q:PE):PE:=fun cx V J k=>match eY c i V J with
 |some t=>q cx V ⟨J.spot,none⟩ fun s J'=>up (F t s) ⟨J'.spot,J.self⟩ k
 |none=>.bad
@[reducible] def sO (c i:Nat)(q:PE):PS:=fun cx V J k=>match eY c i V J with
 |some t=>gd (kT .list t) (q cx V ⟨J.spot,none⟩ fun v J'=>up (dL t v) ⟨J'.spot,J.self⟩ fun y J=>k V (J.fld i y))
 |none=>.bad
@[reducible] def sN (c i:Nat)(q e:PE):PS:=fun cx V J k=>e cx V J fun v J=>match eY c i V J with
 |some t=>q cx V ⟨J.spot,none⟩ fun H J'=>up (d5 t H v) ⟨J'.spot,J.self⟩ fun y J=>k V (J.fld i y)
 |none=>.bad
@[reducible] def qN (c i:Nat)(zb:PB)(elt:PE):PE:=fun cx V J k=>match o1 (eY c i V J) f8 with
 |some xs=>bx zb aM elt cx V xs ⟨J.spot,none⟩ [] fun ys J'=>k (.lst ys) ⟨J'.spot,J.self⟩
 |none=>.bad
end
end Mine
end
namespace Mine
noncomputable section
open PySem
noncomputable def ub:Nat->T->Bool
 |n+1,.tup ts=>ts.all (ub n)
 |_,.none=>true
 |_,.bool _=>true
 |_,.int _=>true
 |_,.str _=>true
 |_,_=>false
def uD (t:T):Bool:=(f8 t).elim false fun ts=>ts.all (ub 4)&&bS (ts.length+1)
def xQ (t:T):Option T:=bif uD t then some t else none
def jY (t:T):T:=(f8 t).elim t fun ts=>.lst (ts++[.str (ofString "more")])
def jc (t:T):Bool:=(oQ t).elim false fun us=>(us.head?.bind rJ).isSome&&(us.tail.all uD&&bS us.length)
def r6 (t:T):T:=(oQ t).elim t fun us=>.tup (us.take 1++us.tail.map jY)
def CV (iF iK iP:Nat)(pr:PS)(c:eO)(V:aP)(k:PK aP)(v:T):PK T:=fun kv J=>gd J.self.isNone (pr c ((((V.set iF none).set iK (some kv)).set iP none).set iF (some (r6 v))) J k)
def He (iF iK iP:Nat)(e3:PE)(pr:PS)(c:eO)(V:aP)(k:PK aP)(v:T):PK Bool:=fun b J=>gd (!b&&J.self.isNone) (e3 c (V.set iF (some v)) J (CV iF iK iP pr c V k v))
def Hf (iF iK iP:Nat)(q2:PT)(e3:PE)(pr:PS)(c:eO)(V:aP)(k:PK aP):PK T:=fun v J=>gd (J.self.isNone&&jc v) (q2 c (V.set iF (some v)) J (He iF iK iP e3 pr c V k v))
def lR (iF iK iP:Nat)(e1:PE)(q2:PT)(e3:PE)(pr:PS):PS:=fun c V J k=>e1 c V J (Hf iF iK iP q2 e3 pr c V k)
def C4:List T->List T->Int->Option (Option T)
 | [],_,_=>some none
 |u::us,ts,k=>o1 (i7 u) fun i=>match ts with
  | []=>none
  |t::ts=>bif decide (i=k) then some (some t) else C4 us ts k
def Ec (x H v:T):Option (T×T):=o2 (AT x) (i7 H) fun p i=>o1 (C4 p.1 p.2 i) fun o=>match o with
 |some r=>some (r,x)
 |none=>mi (p.1.length+1) (v,.dct (p.1++[H]) (p.2++[v]))
@[reducible] def xY (i:Nat)(ke ve we:PE)(b:PS):PS:=fun c V J k=>match bX V i with
 |some d=>gd (AT d).isSome (ke c V J fun H J=>ve c V J fun v J=>up (Ec d H v) J fun r J=>we c (V.set i (some r.2)) J fun w J=>up (mu r.1 w) J fun f J=>bif f then b c (V.set i (some r.2)) J k else k (V.set i (some r.2)) J)
 |none=>.bad
@[reducible] def Hg (i:Nat)(q:PT)(ke ve we:PE)(b:PS):PS:=bI q b (xY i ke ve we b)
end
end Mine
section
set_option tactic.hygienic false
set_option backward.eqns.nonrecursive false
namespace Mine
noncomputable section
open PySem
structure Pg where
 prog:Program
 w:World
 h₀:Heap
 cls:Nat->Addr
 Ψ:Nat->Option gE
 fnA:Nat->Addr
 fd:Nat->FuncData
 gl:Nat->Bool
 mg:Str->Option Value
 mb:Str->Option Value
noncomputable abbrev Pg.M (P:Pg):Model:=model P.prog P.w
noncomputable abbrev Pg.cx (P:Pg)(n:Nat):eO:=⟨aw P.Ψ n⟩
structure Gh where
 F:Addr->Prop
 Z:Addr->Prop
 o:Nat->Option Addr
 sp:Addr
 sa:Addr
def Gh.O (g:Gh)(a:Addr):Prop:=∃i,g.o i=some a
noncomputable abbrev dW (vs:Array Value)(n:Nat):Obj:=⟨.type "tuple",none,.seq vs n,#[]⟩
noncomputable abbrev bA (vs:Array Value)(n:Nat):Obj:=⟨.type "list",none,.seq vs n,#[]⟩
structure Ha (P:Pg) (c:Nat) (dx:Addr) (o:Obj):Prop where
 cls:o.cls=.ref (P.cls c)
 dict:o.dict=some dx
 no:∀k,o.data≠.cls k
structure t6 (c:Nat) (m:Str->Option Value) (us:List Value):Prop where
 no:∀x,x∉cD c->m x=none
 at_:∀(i:Nat) (x:Str) (u:Value),us[i]?=some u->(cD c)[i]?=some x->m x=some u
structure I6 (w:World) (ks:List T) (o:Obj) (es:List DictEntry):Prop where
 x:o.ExactDict
 d:∃ep,o.data=.dict es.toArray ep
 k:∃H,fW ks=some H/\es.map (·.hash)=H.map (Ky.hash w)/\H.Nodup
 l:ks.length<=lim
noncomputable def qp:List Int->List Value->Prop
 | [],vs=>vs=[]
 |i::is,vs=>∃t vs',vs=.int i t::vs'/\qp is vs'
theorem ar {h:Heap}{a:Addr}{o:Obj}(e:h.get? a=some o):h.get? a≠none:=fun q=>by rw [e] at q;cases q
inductive Fz (g:Gh) (O:Addr->Prop) (x:Value):Prop
 |mk (a:Addr) (e:x=.ref a) (f:g.F a) (o:O a)
inductive xT (h:Heap) (ob:Array Value->Nat->Obj) (R:List Value->Prop) (k:Nat) (a:Addr):Prop
 |mk (vs:Array Value) (n:Nat) (e:h.get? a=some (ob vs n)) (l:k<=lim) (r:R vs.toList)
inductive rN (P:Pg) (h:Heap) (us:List T) (R R':List Value->Prop) (a:Addr):Prop
 |mk (q:(a==sysModules)=false) (o:Obj) (es:List DictEntry) (e:h.get? a=some o) (d:I6 P.w us o es) (r:R (es.map (·.key))) (r':R' (es.map (·.val)))
 |ix (q:(a==sysModules)=false) (kvs:List (Int×Value)) (d:h.DictOf (intKind P.prog P.w) a kvs) (e:us=kvs.map fun p=>.int p.1) (l:kvs.length<=lim) (ne:kvs≠[]) (r':R' (kvs.map (·.2)))
inductive eh (P:Pg) (h:Heap) (c:Nat) (m:Str->Option Value) (dx a:Addr):Prop
 |mk (o:Obj) (e:h.get? a=some o) (k:Ha P c dx o) (n:h.Ns1 dx m) (ne:dx≠a)
inductive HJ (P:Pg) (g:Gh) (h:Heap) (c:Nat) (R:List Value->Prop) (a:Addr):Prop
 |mk (dx:Addr) (m:Str->Option Value) (us:List Value) (f:g.F dx) (i:eh P h c m dx a) (k:t6 c m us) (r:R us)
inductive I3 (P:Pg) (ns:List Int) (x:Value):Prop
 |mk (a:Addr) (items:Array Value) (e:x=.ref a) (l:P.h₀.IsList a items) (b:items.size<=lim) (r:qp ns items.toList)
mutual
noncomputable def Rp (P:Pg)(g:Gh)(h:Heap):T->Value->Prop
 |.none,x=>x=.none
 |.bool b,x=>x=.bool b
 |.int i,x=>∃t,x=.int i t
 |.str s,x=>(PyData.strOk s=true/\s.length<=lim)/\∃t,x=.str s t
 |.scr ns,x=>I3 P ns x
 |.tup ts,x=>Fz g (xT h dW (aZ P g h ts) ts.length) x
 |.lst ts,x=>Fz g (xT h bA (aZ P g h ts) ts.length) x
 |.dct us ts,x=>Fz g (rN P h us (aZ P g h us) (aZ P g h ts)) x
 |.obj c ts,x=>Fz g (HJ P g h c (aZ P g h ts)) x
 |.spot,x=>x=.ref g.sp
 |.self,_=>False
termination_by structural t=>t
noncomputable def aZ (P:Pg)(g:Gh)(h:Heap):List T->List Value->Prop
 | [],vs=>vs=[]
 |t::ts,vs=>∃v vs',vs=v::vs'/\Rp P g h t v/\aZ P g h ts vs'
termination_by structural t=>t
end
noncomputable def fR (P:Pg)(g:Gh)(h:Heap)(a:Addr):T->Prop
 |.lst ts=>xT h bA (aZ P g h ts) ts.length a
 |.dct us ts=>rN P h us (aZ P g h us) (aZ P g h ts) a
 |_=>False
section
variable {P:Pg} {g g':Gh} {h h':Heap}
structure aQ (g:Gh) (h:Heap) (g':Gh) (h':Heap):Prop where
 F:∀a,g.F a->g'.F a/\∀o,h.get? a=some o->h'.get? a=some o
 sp:g'.sp=g.sp
theorem xT.mono {ob:Array Value->Nat->Obj}{R R':List Value->Prop}{k:Nat}{a:Addr}(r:xT h ob R k a)(ha:∀o,h.get? a=some o->h'.get? a=some o)(q:∀v,R v->R' v):xT h' ob R' k a:=let ⟨vs,n,e,l,r⟩:=r;⟨vs,n,ha _ e,l,q _ r⟩
theorem rN.mono {us:List T}{R R' S S':List Value->Prop}{a:Addr}(r:rN P h us R S a)(ha:∀o,h.get? a=some o->h'.get? a=some o)(q:∀v,R v->R' v)(q':∀v,S v->S' v):rN P h' us R' S' a:=
 r.casesOn (fun n o es e d r r'=>.mk n o es (ha _ e) d (q _ r) (q' _ r')) fun n kvs d e l ne r'=>.ix n kvs (let ⟨o,es,ep,ho,r⟩:=d;⟨o,es,ep,ha _ ho,r⟩) e l ne (q' _ r')
theorem Fz.mono {O O':Addr->Prop}{x:Value}(k:aQ g h g' h')(r:Fz g O x)(q:∀a,(∀o,h.get? a=some o->h'.get? a=some o)->O a->O' a):Fz g' O' x:=let ⟨a,e,f,o⟩:=r;⟨a,e,(k.F a f).1,q a (k.F a f).2 o⟩
theorem eh.mono {c:Nat}{m:Str->Option Value}{dx a:Addr}(i:eh P h c m dx a)(ha:∀o,h.get? a=some o->h'.get? a=some o)(hd:∀o,h.get? dx=some o->h'.get? dx=some o):eh P h' c m dx a:=let ⟨o,e,k,n,ne⟩:=i;⟨o,ha _ e,k,n.at hd,ne⟩
theorem HJ.mono {c:Nat}{R R':List Value->Prop}{a:Addr}(k:aQ g h g' h')(r:HJ P g h c R a)(ha:∀o,h.get? a=some o->h'.get? a=some o)(q:∀v,R v->R' v):HJ P g' h' c R' a:=let ⟨dx,m,us,f,i,i',r⟩:=r;⟨dx,m,us,(k.F dx f).1,i.mono ha (k.F dx f).2,i',q _ r⟩
theorem Rp.both (k:aQ g h g' h'):(∀t v,Rp P g h t v->Rp P g' h' t v)/\∀t v,aZ P g h t v->aZ P g' h' t v:=
 have n:∀v,aZ P g h [] v->aZ P g' h' [] v:=fun _ h=>h
 have c:∀(t:T) (ts:List T),(∀v,Rp P g h t v->Rp P g' h' t v)->(∀v,aZ P g h ts v->aZ P g' h' ts v)->∀v,aZ P g h (t::ts) v->aZ P g' h' (t::ts) v:=fun _ _ h h' _ ⟨v,vs,e,r,r'⟩=>⟨v,vs,e,h v r,h' vs r'⟩
 have a:∀t v,Rp P g h t v->Rp P g' h' t v:=fun t=>T.rec (motive_1:=fun t=>∀v,Rp P g h t v->Rp P g' h' t v) (motive_2:=fun t=>∀v,aZ P g h t v->aZ P g' h' t v)
  (fun _ h=>h) (fun _ _ h=>h) (fun _ _ h=>h) (fun _ _ h=>h) (fun _ ih _ r=>Fz.mono k r fun _ ha r=>r.mono ha ih) (fun _ ih _ r=>Fz.mono k r fun _ ha r=>r.mono ha ih)
  (fun _ _ i1 i2 _ r=>Fz.mono k r fun _ ha r=>r.mono ha i1 i2) (fun _ _ ih _ r=>Fz.mono k r fun _ ha r=>r.mono k ha ih)
  (fun _ _ h=>h) (fun v h=>(show v=_ from h).trans (congrArg Value.ref k.sp.symm)) (fun _ h=>h) n c t
 ⟨a,fun t=>List.rec n (fun t ts h=>c t ts (a t) h) t⟩
theorem Rp.mono (k:aQ g h g' h'){t:T}{x:Value}(r:Rp P g h t x):Rp P g' h' t x:=(Rp.both k).1 t x r
theorem aZ.mono (k:aQ g h g' h'){t:List T}{x:List Value}(r:aZ P g h t x):aZ P g' h' t x:=(Rp.both k).2 t x r
theorem fR.case {a:Addr}{p:T->Prop}(h1:∀ts,fR P g h a (.lst ts)->p (.lst ts))(h2:∀us ts,fR P g h a (.dct us ts)->p (.dct us ts)):∀{t:T},fR P g h a t->p t
 |.lst ts,h=>h1 ts h
 |.dct us ts,h=>h2 us ts h
theorem fR.mono (k:aQ g h g' h'){a:Addr}(ha:∀o,h.get? a=some o->h'.get? a=some o){t:T}(r:fR P g h a t):fR P g' h' a t:=
 r.case (p:=fR P g' h' a) (fun _ r=>xT.mono r ha fun _=>aZ.mono k) fun _ _ r=>rN.mono r ha (fun _=>aZ.mono k) fun _=>aZ.mono k
theorem fR.rp {a:Addr}{t:T}(f:g.F a)(r:fR P g h a t):Rp P g h t (.ref a):=
 r.case (p:=fun t=>Rp P g h t (.ref a)) (fun _ h=>⟨a,rfl,f,h⟩) fun _ _ h=>⟨a,rfl,f,h⟩
theorem fR.live {a:Addr}{t:T}(r:fR P g h a t):h.get? a≠none:=
 r.case (p:=fun _=>h.get? a≠none) (fun _ r=>let ⟨_,_,e,_,_⟩:=r;ar e) fun _ _ r=>rN.casesOn (motive:=fun _=>h.get? a≠none) r (fun _ _ _ e _ _ _=>ar e) fun _ _ d _ _ _ _=>let ⟨_,_,_,e,_⟩:=d;ar e
theorem aZ.nil:aZ P g h [] []:=rfl
theorem aZ.cons {v:Value}{t:T}{vs:List Value}{ts:List T}(q:Rp P g h t v)(r:aZ P g h ts vs):aZ P g h (t::ts) (v::vs):=⟨v,vs,rfl,q,r⟩
theorem aZ.length {ts:List T}:∀{vs:List Value},aZ P g h ts vs->vs.length=ts.length:=by
 induction ts with
 |nil=>exact fun h=>congrArg List.length h
 |cons t ts ih=>exact fun ⟨v,vs,e,_,r⟩=>e▸congrArg (·+1) (ih r)
theorem aZ.append {ts':List T}{vs':List Value}(r':aZ P g h ts' vs'){ts:List T}:∀{vs:List Value},aZ P g h ts vs->aZ P g h (ts++ts') (vs++vs'):=by
 induction ts with
 |nil=>exact fun h=>(show _=[] from h)▸r'
 |cons t ts ih=>exact fun ⟨v,vs,e,h,r⟩=>e▸aZ.cons h (ih r)
theorem aZ.get {ts:List T}:∀{vs:List Value},aZ P g h ts vs->∀{i:Nat} {t:T},ts[i]?=some t->∃v,vs[i]?=some v/\Rp P g h t v:=by
 induction ts with
 |nil=>exact fun _ _ _ e=>nomatch e
 |cons t ts ih=>
  rintro _ ⟨v,vs,rfl,q,r⟩ i u e
  cases i with
  |zero=>exact ⟨v,rfl,Option.some.inj e▸q⟩
  |succ i=>exact ih r (i:=i) e
theorem aZ.drop (n:Nat){ts:List T}:∀{vs:List Value},aZ P g h ts vs->aZ P g h (ts.drop n) (vs.drop n):=by
 induction n generalizing ts with
 |zero=>exact fun h=>h
 |succ n ih=>cases ts with
  |nil=>exact fun h=>(show _=[] from h)▸rfl
  |cons t ts=>exact fun ⟨v,vs,e,h,r⟩=>e▸ih r
theorem aZ.take (n:Nat){ts:List T}:∀{vs:List Value},aZ P g h ts vs->aZ P g h (ts.take n) (vs.take n):=by
 induction n generalizing ts with
 |zero=>exact fun _=>rfl
 |succ n ih=>cases ts with
  |nil=>exact fun h=>(show _=[] from h)▸rfl
  |cons t ts=>exact fun ⟨v,vs,e,h,r⟩=>e▸aZ.cons h (ih r)
theorem aZ.set {v:Value}{t:T}(q:Rp P g h t v)(n:Nat){ts:List T}:∀{vs:List Value},aZ P g h ts vs->aZ P g h (ts.set n t) (vs.set n v):=by
 induction n generalizing ts with
 |zero=>cases ts with
  |nil=>exact fun h=>(show _=[] from h)▸rfl
  |cons t ts=>exact fun ⟨v,vs,e,h,r⟩=>e▸aZ.cons q r
 |succ n ih=>cases ts with
  |nil=>exact fun h=>(show _=[] from h)▸rfl
  |cons t ts=>exact fun ⟨v,vs,e,h,r⟩=>e▸aZ.cons h (ih r)
end
inductive js (P:Pg) (g:Gh) (h:Heap) (c:Nat) (ts:List T):Prop
 |mk (dx:Addr) (m:Str->Option Value) (us:List Value) (i:eh P h c m dx g.sa) (z:g.Z g.sa) (z':g.Z dx) (ne:dx≠g.sp/\g.sa≠g.sp) (f:t6 c m us) (l:us.length=ts.length)
  (sh:∀(i:Nat) (u:Value) (t:T),us[i]?=some u->ts[i]?=some t->hJ c i=false->Rp P g h t u)
  (ow:∀(i:Nat) (u:Value) (t:T),us[i]?=some u->ts[i]?=some t->hJ c i=true->∃a,u=.ref a/\g.Z a/\(a≠dx/\a≠g.sa/\a≠g.sp)/\fR P g h a t)
  (nn:∀(i j:Nat) (a:Addr),us[i]?=some (.ref a)->us[j]?=some (.ref a)->hJ c i=true->hJ c j=true->i=j)
structure bC (P:Pg) (g:Gh) (h:Heap) (J:Sg):Prop where
 base:∀a o,P.h₀.get? a=some o->g.F a/\h.get? a=some o
 F:∀a,g.F a->h.get? a≠none
 Z:∀a,g.Z a->h.get? a≠none/\¬g.F a
 O:∀a,g.O a->h.get? a≠none/\¬g.F a/\¬g.Z a
 oo:∀i j a,g.o i=some a->g.o j=some a->i=j
 spot:(∃t n,h.get? g.sp=some (bA #[.int J.spot t] n))/\g.Z g.sp/\(J.self=none->∀a,g.Z a->a=g.sp)
 self:∀c ts,J.self=some (c,ts)->js P g h c ts
structure aJ (g:Gh) (s:Shared) (g':Gh) (s':Shared):Prop where
 st:∃h' tk,s'={s with heap:=h',toks:=tk}
 keep:∀a o,s.heap.get? a=some o->¬g.Z a->s'.heap.get? a=some o
 back:∀a,s'.heap.get? a=none->s.heap.get? a=none
 F:∀a,g.F a->g'.F a
 Fn:∀a,g'.F a->g.F a\/s.heap.get? a=none
 Zn:∀a,g'.Z a->g.Z a\/s.heap.get? a=none
 o:g'.o=g.o
 sp:g'.sp=g.sp
 sa:g'.sa=g.sa
theorem St.trans {s s₁ s₂:Shared}(p:∃h' tk,s₁={s with heap:=h',toks:=tk})(q:∃h' tk,s₂={s₁ with heap:=h',toks:=tk}):∃h' tk,s₂={s with heap:=h',toks:=tk}:=
 let ⟨_,_,e⟩:=p;let ⟨h,t,e'⟩:=q;⟨h,t,by rw [e',e]⟩
theorem aJ.refl (g:Gh)(s:Shared):aJ g s g s:=⟨⟨s.heap,s.toks,rfl⟩,fun _ _ e _=>e,fun _ e=>e,fun _ h=>h,fun _ h=>.inl h,fun _ h=>.inl h,rfl,rfl,rfl⟩
theorem aJ.trans {g g1 g2:Gh}{s s₁ s₂:Shared}(p:aJ g s g1 s₁)(q:aJ g1 s₁ g2 s₂):aJ g s g2 s₂:=
 ⟨St.trans p.st q.st,fun a o e n=>q.keep a o (p.keep a o e n) fun z=>(p.Zn a z).elim n fun z=>(ar e z).elim,fun a e=>p.back a (q.back a e),fun a f=>q.F a (p.F a f),
  fun a f=>(q.Fn a f).elim (p.Fn a) fun e=>.inr (p.back a e),fun a f=>(q.Zn a f).elim (p.Zn a) fun e=>.inr (p.back a e),q.o.trans p.o,q.sp.trans p.sp,q.sa.trans p.sa⟩
theorem aJ.toks (g:Gh)(s:Shared)(t:Nat):aJ g s g {s with toks:=t}:=⟨⟨s.heap,t,rfl⟩,fun _ _ e _=>e,fun _ e=>e,fun _ h=>h,fun _ h=>.inl h,fun _ h=>.inl h,rfl,rfl,rfl⟩
theorem aJ.k {P:Pg}{g g':Gh}{s s':Shared}{J:Sg}(p:aJ g s g' s')(w:bC P g s.heap J):aQ g s.heap g' s'.heap:=
 ⟨fun a f=>⟨p.F a f,fun o e=>p.keep a o e fun z=>(w.Z a z).2 f⟩,p.sp⟩
theorem js.mono' {P:Pg}{g g':Gh}{h h':Heap}{c:Nat}{ts:List T}(k:aQ g h g' h')(z:∀a,a≠g.sp->g.Z a->g'.Z a/\∀o,h.get? a=some o->h'.get? a=some o)(hs:g'.sa=g.sa)(s:js P g h c ts):js P g' h' c ts:=by
 obtain ⟨dx,m,us,i,z1,z2,ne,f,l,sh,ow,nn⟩:=s
 have hp:=k.sp
 have a1:=z _ ne.2 z1
 have a2:=z _ ne.1 z2
 refine ⟨dx,m,us,hs▸i.mono a1.2 a2.2,hs▸a1.1,a2.1,hs▸hp▸ne,f,l,fun j u t h1 h2 h3=>(sh j u t h1 h2 h3).mono k,fun j u t h1 h2 h3=>?_,nn⟩
 obtain ⟨a,h4,h5,h6,h7⟩:=ow j u t h1 h2 h3
 have a3:=z _ h6.2.2 h5
 exact ⟨a,h4,a3.1,hs▸hp▸h6,h7.mono k a3.2⟩
theorem js.mono {P:Pg}{g g':Gh}{h h':Heap}{c:Nat}{ts:List T}(k:aQ g h g' h')(z:∀a,g.Z a->g'.Z a/\∀o,h.get? a=some o->h'.get? a=some o)(hs:g'.sa=g.sa)(s:js P g h c ts):js P g' h' c ts:=s.mono' k (fun a _=>z a) hs
theorem bC.grow {P:Pg}{g:Gh}{h h':Heap}{J:Sg}(w:bC P g h J)(k:∀a o,h.get? a=some o->h'.get? a=some o)(F:Addr->Prop)(hF:∀a,g.F a->F a)(hn:∀a,F a->g.F a\/(h.get? a=none/\h'.get? a≠none)):bC P {g with F:=F} h' J:=by
 have lv:∀a,h.get? a≠none->h'.get? a≠none:=fun a n q=>by
  cases e:h.get? a with
  |none=>exact n e
  |some o=>rw [k a o e] at q;cases q
 have kf:aQ g h {g with F:=F} h':=⟨fun a f=>⟨hF a f,k a⟩,rfl⟩
 have nf:∀a,h.get? a≠none->¬g.F a->¬F a:=fun a l n q=>(hn a q).elim n fun q=>l q.1
 exact ⟨fun a o e=>⟨hF a (w.base a o e).1,k a o (w.base a o e).2⟩,fun a f=>(hn a f).elim (fun f=>lv a (w.F a f)) (·.2),fun a z=>⟨lv a (w.Z a z).1,nf a (w.Z a z).1 (w.Z a z).2⟩,
  fun a z=>⟨lv a (w.O a z).1,nf a (w.O a z).1 (w.O a z).2.1,(w.O a z).2.2⟩,w.oo,⟨let ⟨t,n,e⟩:=w.spot.1;⟨t,n,k _ _ e⟩,w.spot.2⟩,fun c ts e=>(w.self c ts e).mono kf (fun a z=>⟨z,k a⟩) rfl⟩
theorem aJ.grow {g:Gh}{s:Shared}{h':Heap}(t:Nat)(k:∀a o,s.heap.get? a=some o->h'.get? a=some o)(F:Addr->Prop)(hF:∀a,g.F a->F a)(hn:∀a,F a->g.F a\/s.heap.get? a=none):aJ g s {g with F:=F} {s with heap:=h',toks:=t}:=
 ⟨⟨h',t,rfl⟩,fun a o e _=>k a o e,fun a e=>by
  cases q:s.heap.get? a with
  |none=>rfl
  |some o=>exact (ar (k a o q) e).elim,hF,hn,fun _ h=>.inl h,rfl,rfl,rfl⟩
theorem aN (h:Heap):h.get? h.objs.size=none:=by
 cases e:h.get? h.objs.size with
 |none=>rfl
 |some o=>exact absurd (Heap.lt_size e) (lt_irrefl _)
end
end Mine
namespace Mine
noncomputable section
open PySem PyProof.Rows
noncomputable def jk:List Str:=["len","isinstance","list","tuple","str","int","bool","range","zip","enumerate","any","all","max","sorted","dict","set","ValueError"]
structure t7 (P:Pg):Prop where
 g:P.h₀.Ns mainGlobals P.mg
 b:P.h₀.Ns builtinsNs P.mb
 nolimit:P.h₀.NoLimit
 fn:∀f F,P.Ψ f=some F->∃o,P.h₀.get? (P.fnA f)=some o/\o.data=.func (P.fd f)/\(P.gl f=true->P.mg (P.fd f).name=some (.ref (P.fnA f)))/\P.h₀.CodeRec (P.fd f).code (P.fd f).qualname/\
  (P.fd f).closure=[]/\(P.fd f).globals=mainGlobals/\(P.fd f).builtins=builtinsNs
 blt:∀x∈jk,P.mg x=none/\P.mb x=bootBuiltins x
structure bG where
 sc:Scope
 tab:List (Option (Str×NameKind))
noncomputable def bG.ok (B:bG):Bool:=B.sc.kind==.function&&(B.tab.all fun
  |some (x,k)=>B.sc.names.lookup x==some k&&(k==.local||k==.cell||k==.free)&&!(x==("__debug__":Str))&&!(x==("__classdict__":Str))
  |none=>true)&&decide ((B.tab.filterMap (·.map (·.1))).Nodup)
structure Ct where
 O:List Nat
 U:List Nat
 m:Bool
noncomputable def bi (C:Ct)(i:Nat):Bool:=C.O.any (Nat.beq i)
inductive Jy (P:Pg) (g:Gh) (h:Heap) (i:Nat) (t:T) (u:Value):Prop
 |mk (a:Addr) (e:u=.ref a) (o:g.o i=some a) (r:fR P g h a t)
def bE (P:Pg)(C:Ct)(g:Gh)(h:Heap)(i:Nat)(t:T)(u:Value):Prop:=match bi C i with
 |true=>Jy P g h i t u
 |false=>Rp P g h t u\/(C.m=true/\i=0/\t=.self/\u=.ref g.sa)
inductive cQ (B:bG) (env:Env) (h:Heap) (i:Nat) (u:Value):Prop
 |loc (x:Str) (m:Str->Option Value) (t:B.tab[i]?=some (some (x,.local))) (n:h.Ns env.locals m) (e:m x=some u)
 |cel (x:Str) (k:NameKind) (c:Addr) (t:B.tab[i]?=some (some (x,k))) (hk:k=.cell\/k=.free) (l:env.cells.lookup x=some c) (n:h.IsCell c (some u))
noncomputable def own (env:Env):List Addr:=env.locals::env.cells.map (·.2)
structure cB (P:Pg) (B:bG) (C:Ct) (env:Env) (g:Gh) (V:aP) (h:Heap):Prop where
 ok:B.ok=true
 sc:env.scope=B.sc
 glob:env.globals=mainGlobals
 blt:env.builtins=builtinsNs
 ns:∃m,h.Ns env.locals m
 cell:∀(i:Nat) (x:Str) (k:NameKind),B.tab[i]?=some (some (x,k))->k=.cell\/k=.free->∃c u,env.cells.lookup x=some c/\h.IsCell c u
 apart:∀x y c,env.cells.lookup x=some c->env.cells.lookup y=some c->x=y
 own:∀a∈own env,h.get? a≠none/\¬g.F a/\¬g.Z a/\¬g.O a
 var:∀i y t,B.tab[i]?=some (some y)->bX V i=some t->∃u,cQ B env h i u/\bE P C g h i t u
 un:∀i∈C.U,bX V i=none
def CS (A:Around)(n:Nat):Prop:=A.depth+2 * n+10 < recursionLimit/\A.units+20 * n+200 < cLine/\A.handled=none
def oW (A:Around)(n:Nat):Prop:=A.depth+2 * n+9 < recursionLimit/\A.units+20 * n+190 < cLine/\A.handled=none
theorem CS.c {A:Around}{n:Nat}(h:CS A n):oW A n:=⟨lt_of_succ_lt h.1,lt_of_le_of_lt (add_le_add_left (by decide) _) h.2.1,h.2.2⟩
inductive CT (P:Pg) (h:Heap) (g':Gh) (h':Heap) (t:T) (x:Value):Prop
 |mk (a:Addr) (e:x=.ref a) (n:h.get? a=none) (f:¬g'.F a) (z:¬g'.Z a) (o:¬g'.O a) (r:fR P g' h' a t)
def AU (P:Pg)(fr:Bool)(h:Heap)(g':Gh)(h':Heap)(t:T)(x:Value):Prop:=match fr with
 |false=>Rp P g' h' t x
 |true=>CT P h g' h' t x
noncomputable def A3 (f:Nat):Bool:=Nat.beq f 42||Nat.beq f 43
inductive Nw (N:Addr->Prop) (g':Gh) (h':Heap) (x:Value):Prop
 |mk (a:Addr) (n:Nat) (v:Value) (ls:List Addr) (e:x=.ref a) (f:g'.F a) (o:h'.get? a=some (dW (v::ls.map Value.ref).toArray n)) (hv:∀b,v≠.ref b) (nd:ls.Nodup) (k:∀l∈ls,N l)
theorem Nw.mono {N N':Addr->Prop}{g g':Gh}{h h':Heap}{x:Value}(r:Nw N g h x)(hN:∀l,N l->N' l)(hF:∀a,g.F a->g'.F a)(hk:∀a o,g.F a->h.get? a=some o->h'.get? a=some o):Nw N' g' h' x:=let ⟨a,n,v,ls,e,f,o,hv,nd,k⟩:=r;⟨a,n,v,ls,e,hF a f,hk a _ f o,hv,nd,fun l hl=>hN l (k l hl)⟩
def xH (P:Pg)(f:Nat)(h:Heap)(g':Gh)(h':Heap)(t:T)(x:Value):Prop:=AU P (iN f) h g' h' t x/\(A3 f=true->∀ts,t=.tup ts->Nw (fun l=>h.get? l=none) g' h' x)
def Args (P:Pg)(m:Bool)(g:Gh)(h:Heap)(ts:List T)(vs:List Value):Prop:=match m with
 |false=>aZ P g h ts vs
 |true=>∃v vs' t ts',vs=v::vs'/\ts=t::ts'/\(Rp P g h t v\/(t=.self/\v=.ref g.sa))/\aZ P g h ts' vs'
def rO (P:Pg)(n:Nat):Prop:=
 ∀f A ts vs g J s t J' (Q:Value->Shared->Prop) (E:Value->Shared->Prop),oW A n->bC P g s.heap J->Args P (rR f) g s.heap ts vs->aw P.Ψ n f ts J=.ret t J'->
  (∀x s' g',aJ g s g' s'->bC P g' s'.heap J'->xH P f s.heap g' s'.heap t x->Q x s')->
  codeAny P.M A (.call (.ref (P.fnA f)) ⟨vs,[]⟩) (fun r s'=>match r with
   |.ok (.ret x)=>Q x s'
   |.ok _=>False
   |.error x=>E x s') s
structure At (P:Pg) (B:bG) (C:Ct) (n:Nat) (A:Around) (env:Env) (g:Gh) (V:aP) (J:Sg) (s:Shared):Prop where
 good:t7 P
 call:∀k,k<=n->rO P k
 room:CS A n
 env:cB P B C env g V s.heap
 g:bC P g s.heap J
noncomputable abbrev WP (α:Type):=Around->Env->(α->Shared->Prop)->(Value->Shared->Prop)->Shared->Prop
noncomputable abbrev RR (α j:Type):=Heap->Gh->Heap->j->α->Prop
def dG (P:Pg)(B:bG)(C:Ct){α j:Type}(W:WP α)(p:PG j)(R:RR α j):Prop:=
 ∀n A env g V J s (k:PK j) (Q:α->Shared->Prop) (E:Value->Shared->Prop),At P B C n A env g V J s->p (P.cx n) V J k≠.bad->
  (∀x s' g' t J',p (P.cx n) V J k=k t J'->aJ g s g' s'->bC P g' s'.heap J'->R s.heap g' s'.heap t x->Q x s')->W A env Q E s
noncomputable abbrev Pg.W (P:Pg){α:Type}(c:Env->Sem α):WP α:=fun A env Q E s=>wpAny P.M A (c env) Q E s
abbrev RV (P:Pg):RR Value T:=fun _ g h t x=>Rp P g h t x
noncomputable abbrev RN (P:Pg):RR Value T:=fun h₀ g h t x=>CT P h₀ g h t x
def kW (P:Pg)(g:Gh)(h:Heap)(t:T)(x:Value):Prop:=Rp P g h t x\/∃a,x=.ref a/\(g.O a\/¬g.Z a)/\fR P g h a t
noncomputable abbrev RX (P:Pg):RR Value T:=fun _ g h t x=>kW P g h t x
abbrev RL (P:Pg):RR (List Value) (List T):=fun _ g h t x=>aZ P g h t x
noncomputable abbrev RQ {α:Type}:RR α α:=fun _ _ _ t x=>t=x
abbrev aq (P:Pg)(B:bG)(C:Ct)(e:Expr)(p:PE)(R:RR Value T):Prop:=dG P B C (P.W fun env=>eval e env) p R
abbrev cN (P:Pg)(B:bG)(C:Ct)(e:Expr)(p:PT):Prop:=dG P B C (P.W fun env=>isTrue e env (eval e env)) p RQ
structure iq (P:Pg) (B:bG) (C:Ct) (es:List Expr) (p:PL):Prop where
 pl:∀env,∀q∈starEach es env,q.1=false
 sim:∀pos,dG P B C (P.W fun env=>spliced (backTo pos (starEach es env))) p (RL P)
section
variable {P:Pg} {B:bG} {C:Ct} {n:Nat} {A:Around} {env:Env} {g g':Gh} {V:aP} {J J':Sg} {s s':Shared} {h h':Heap} {t:T} {x:Value}
theorem bB {l:List (Str×Addr)}{x:Str}{c:Addr}(h:l.lookup x=some c):c∈l.map (·.2):=by
 induction l with
 |nil=>cases h
 |cons p r ih=>
  obtain ⟨y,d⟩:=p
  rw [lookup_cons] at h
  split at h
  .cases h;exact mem_cons_self
  .exact mem_cons_of_mem _ (ih h)
theorem cQ.move {i:Nat}{u:Value}(k:∀a∈Mine.own env,∀o,h.get? a=some o->h'.get? a=some o)(v:cQ B env h i u):cQ B env h' i u:=by
 cases v with
 |loc x m t n e=>exact .loc x m t (n.at (k _ mem_cons_self)) e
 |cel x kk c t hk l n=>
  obtain ⟨o,e,d⟩:=n
  exact .cel x kk c t hk l ⟨o,k c (mem_cons_of_mem _ (bB l)) o e,d⟩
theorem bE.move {i:Nat}{u:Value}(k:aQ g h g' h')(eo:g'.o=g.o)(es:g'.sa=g.sa)(ko:∀a,g.O a->∀o,h.get? a=some o->h'.get? a=some o)(v:bE P C g h i t u):bE P C g' h' i t u:=by
 unfold bE at *
 cases q:bi C i with
 |true=>rw [q] at v;exact let ⟨a,e,o,r⟩:=v;⟨a,e,eo▸o,r.mono k (ko a ⟨i,o⟩)⟩
 |false=>rw [q] at v;exact v.imp (·.mono k) fun ⟨a,b,c,d⟩=>⟨a,b,c,es▸d⟩
theorem cB.move (x:cB P B C env g V h)(k:aQ g h g' h')(eo:g'.o=g.o)(es:g'.sa=g.sa)(ko:∀a,g.O a\/a∈Mine.own env->∀o,h.get? a=some o->h'.get? a=some o)(lv:∀a∈Mine.own env,h'.get? a≠none/\¬g'.F a/\¬g'.Z a):cB P B C env g' V h':=
 {x with
  ns:=let ⟨m,n⟩:=x.ns;⟨m,n.at (ko _ (.inr mem_cons_self))⟩
  cell:=fun i y kk ht hk=>let ⟨c,u,l,o,e,d⟩:=x.cell i y kk ht hk;⟨c,u,l,o,ko c (.inr (mem_cons_of_mem _ (bB l))) o e,d⟩
  own:=fun a ha=>⟨(lv a ha).1,(lv a ha).2.1,(lv a ha).2.2,fun ⟨i,q⟩=>(x.own a ha).2.2.2 ⟨i,eo▸q⟩⟩
  var:=fun i y t ht hv=>let ⟨u,v,w⟩:=x.var i y t ht hv;⟨u,v.move fun a ha=>ko a (.inr ha),w.move k eo es fun a ha=>ko a (.inl ha)⟩}
theorem aJ.live (p:aJ g s g' s'){a:Addr}(l:s.heap.get? a≠none):s'.heap.get? a≠none:=fun q=>l (p.back a q)
theorem cB.post (x:cB P B C env g V s.heap)(w:bC P g s.heap J)(p:aJ g s g' s'):cB P B C env g' V s'.heap:=
 x.move (p.k w) p.o p.sa (fun a ha o e=>p.keep a o e (ha.elim (fun q=>(w.O a q).2.2) fun q=>(x.own a q).2.2.1)) fun a ha=>let ⟨l,f,z,_⟩:=x.own a ha;⟨p.live l,fun q=>(p.Fn a q).elim f l,fun q=>(p.Zn a q).elim z l⟩
theorem At.post (X:At P B C n A env g V J s)(p:aJ g s g' s')(w:bC P g' s'.heap J'):At P B C n A env g' V J' s':=⟨X.good,X.call,X.room,X.env.post X.g p,w⟩
theorem At.units (X:At P B C n A env g V J s):A.units+200 < cLine:=lt_of_le_of_lt (add_le_add_right (le_add_right _ _) _) X.room.2.1
theorem At.depth (X:At P B C n A env g V J s):A.depth+10 < recursionLimit:=lt_of_le_of_lt (add_le_add_right (le_add_right _ _) _) X.room.1
theorem kW.post (w:bC P g s.heap J)(p:aJ g s g' s')(r:kW P g s.heap t x):kW P g' s'.heap t x:=
 r.imp (·.mono (p.k w)) fun ⟨a,e,q,r⟩=>⟨a,e,q.imp (fun ⟨i,q⟩=>⟨i,p.o▸q⟩) fun z q=>(p.Zn a q).elim z r.live,r.mono (p.k w) fun o e=>p.keep a o e (q.elim (fun q=>(w.O a q).2.2) id)⟩
theorem dG.map {α j:Type}{W W':WP α}{p:PG j}{R:RR α j}(h:dG P B C W p R)(hW:∀A env Q E s,W A env Q E s->W' A env Q E s):dG P B C W' p R:=fun n A env g V J s k Q E X hb hq=>hW A env Q E s (h n A env g V J s k Q E X hb hq)
theorem dG.weak {α j:Type}{W:WP α}{p:PG j}{R R':RR α j}(h:dG P B C W p R)(hR:∀h g h' t x,R h g h' t x->R' h g h' t x):dG P B C W p R':=fun n A env g V J s k Q E X hb hq=>h n A env g V J s k Q E X hb fun x s' g' t J' e p w r=>hq x s' g' t J' e p w (hR _ _ _ _ _ r)
theorem dG.vx {W:WP Value}{p:PE}(h:dG P B C W p (RV P)):dG P B C W p (RX P):=h.weak fun _ _ _ _ _ r=>.inl r
theorem dG.nx {W:WP Value}{p:PE}(h:dG P B C W p (RN P)):dG P B C W p (RX P):=h.weak fun _ _ _ _ _ r=>let ⟨a,e,_,_,z,_,r⟩:=r;.inr ⟨a,e,.inr z,r⟩
theorem bC.freeze {a:Addr}(w:bC P g h J)(l:h.get? a≠none)(z:¬g.Z a)(o:¬g.O a):bC P {g with F:=fun y=>g.F y\/y=a} h J:=by
 have kf:aQ g h {g with F:=fun y=>g.F y\/y=a} h:=⟨fun b f=>⟨.inl f,fun _ e=>e⟩,rfl⟩
 exact ⟨fun b o e=>⟨.inl (w.base b o e).1,(w.base b o e).2⟩,fun b f=>f.elim (w.F b) fun q=>q▸l,fun b q=>⟨(w.Z b q).1,fun f=>f.elim (w.Z b q).2 fun e=>z (e▸q)⟩,
  fun b q=>⟨(w.O b q).1,fun f=>f.elim (w.O b q).2.1 fun e=>o (e▸q),(w.O b q).2.2⟩,w.oo,w.spot,fun c ts e=>(w.self c ts e).mono kf (fun _ q=>⟨q,fun _ e=>e⟩) rfl⟩
theorem dG.nv {W:WP Value}{p:PE}(h:dG P B C W p (RN P)):dG P B C W p (RV P):=fun n A env g V J s k Q E X hb hq=>h n A env g V J s k Q E X hb fun x s' g' t J' e p w r=>by
 obtain ⟨a,rfl,n,f,z,o,r⟩:=r
 have kf:aQ g' s'.heap {g' with F:=fun y=>g'.F y\/y=a} s'.heap:=⟨fun b f=>⟨.inl f,fun _ e=>e⟩,rfl⟩
 exact hq _ s' {g' with F:=fun y=>g'.F y\/y=a} t J' e ⟨p.st,p.keep,p.back,fun b f=>.inl (p.F b f),fun b f=>f.elim (p.Fn b) fun e=>.inr (e▸n),p.Zn,p.o,p.sp,p.sa⟩ (w.freeze r.live z o) ((r.mono kf fun _ e=>e).rp (.inr rfl))
theorem dG.now {α j:Type}{W:WP α}{p:PG j}{R:RR α j}(h:∀n A env g V J s (k:PK j) (Q:α->Shared->Prop) (E:Value->Shared->Prop),At P B C n A env g V J s->p (P.cx n) V J k≠.bad->(∀x t tk,p (P.cx n) V J k=k t J->R s.heap g s.heap t x->Q x {s with toks:=tk})->W A env Q E s):dG P B C W p R:=
 fun n A env g V J s k Q E X hb hq=>h n A env g V J s k Q E X hb fun x t tk e r=>hq x _ g t J e (.toks g s tk) X.g r
end
def Dn {α j:Type}(R:RR α j):Prop:=∀h ha g h' t x,(∀a,ha.get? a=none->h.get? a=none)->R ha g h' t x->R h g h' t x
section
variable {P:Pg} {B:bG} {C:Ct}
theorem mD:Dn (RV P):=fun _ _ _ _ _ _ _ r=>r
theorem Ju:Dn (RL P):=fun _ _ _ _ _ _ _ r=>r
theorem Fp {α:Type}:Dn (RQ (α:=α)):=fun _ _ _ _ _ _ _ r=>r
theorem HC:Dn (RN P):=fun _ _ _ _ _ _ b r=>let ⟨a,e,n,f,z,o,r⟩:=r;⟨a,e,b a n,f,z,o,r⟩
theorem dG.bind {α j γ d:Type}{W:WP α}{p:PG j}{R:RR α j}{N:Around->Env->α->(γ->Shared->Prop)->(Value->Shared->Prop)->Shared->Prop}{F:eO->aP->PK d->PK j}{R':RR γ d}(h:dG P B C W p R)(hd:Dn R')
  (hf:∀n A env g g1 V J s s₁ x t (k:PK d) Q E,aJ g s g1 s₁->At P B C n A env g1 V J s₁->R s.heap g1 s₁.heap t x->F (P.cx n) V k t J≠.bad->
   (∀y s' g' u J',F (P.cx n) V k t J=k u J'->aJ g1 s₁ g' s'->bC P g' s'.heap J'->R' s₁.heap g' s'.heap u y->Q y s')->N A env x Q E s₁):
  dG P B C (fun A env Q E s=>W A env (fun x s₁=>N A env x Q E s₁) E s) (fun c V J k=>p c V J (F c V k)) R':=fun n A env g V J s k Q E X hb hq=>
 h n A env g V J s (F _ V k) _ E X hb fun x s₁ g1 t J1 e p w r=>hf n A env g g1 V J1 s s₁ x t k Q E p (X.post p w) r (fun q=>hb (e.trans q)) fun y s' g' u J' e' p' w' r'=>hq y s' g' u J' (e.trans e') (p.trans p') w' (hd _ _ _ _ _ _ p.back r')
theorem ch {α:Type}{o:Option α}{J:Sg}{k:PK α}(h:up o J k≠.bad):∃a,o=some a:=by
 cases o with
 |none=>exact absurd rfl h
 |some a=>exact ⟨a,rfl⟩
def fP (P:Pg)(g:Gh)(h:Heap)(t:T)(x:Value):Prop:=Rp P g h t x\/∃a,x=.ref a/\fR P g h a t
theorem kW.y {g:Gh}{h:Heap}{t:T}{x:Value}(r:kW P g h t x):fP P g h t x:=r.imp id fun ⟨a,e,_,r⟩=>⟨a,e,r⟩
noncomputable abbrev RY (P:Pg):RR Value T:=fun _ g h t x=>fP P g h t x
theorem dG.xy {W:WP Value}{p:PE}(h:dG P B C W p (RX P)):dG P B C W p (RY P):=h.weak fun _ _ _ _ _=>kW.y
structure Rm (A:Around):Prop where
 units:A.units+200 < cLine
 handled:A.handled=none
 depth:A.depth+10 < recursionLimit
theorem At.rm {n:Nat}{A:Around}{env:Env}{g:Gh}{V:aP}{J:Sg}{s:Shared}(X:At P B C n A env g V J s):Rm A:=⟨X.units,X.room.2.2,X.depth⟩
noncomputable abbrev W1 (γ:Type):=Around->Env->Value->(γ->Shared->Prop)->(Value->Shared->Prop)->Shared->Prop
noncomputable abbrev W2 (γ:Type):=Around->Env->Value->Value->(γ->Shared->Prop)->(Value->Shared->Prop)->Shared->Prop
def AW (P:Pg){γ d:Type}(N:W1 γ)(F:T->Option d)(R:RR γ d):Prop:=
 ∀A env g J s x t y Q E,Rm A->bC P g s.heap J->fP P g s.heap t x->F t=some y->(∀u s' g',aJ g s g' s'->bC P g' s'.heap J->R s.heap g' s'.heap y u->Q u s')->N A env x Q E s
def t3 (P:Pg){γ d:Type}(N:W2 γ)(F:T->T->Option d)(R:RR γ d):Prop:=
 ∀A env g J s x x' t t' y Q E,Rm A->bC P g s.heap J->fP P g s.heap t x->fP P g s.heap t' x'->F t t'=some y->(∀u s' g',aJ g s g' s'->bC P g' s'.heap J->R s.heap g' s'.heap y u->Q u s')->N A env x x' Q E s
theorem dG.op1 {γ d:Type}{W:WP Value}{p:PE}{N:W1 γ}{F:T->Option d}{R:RR γ d}(h:dG P B C W p (RY P))(hd:Dn R)(o:AW P N F R):dG P B C (fun A env Q E s=>W A env (fun x s₁=>N A env x Q E s₁) E s) (p1 F p) R:=
 h.bind (F:=fun _ _ k t J=>up (F t) J k) hd fun n A env g g1 V J s s₁ x t k Q E p X r hb hq=>by
  obtain ⟨y,e⟩:=ch hb
  exact o A env g1 J s₁ x t y Q E X.rm X.g r e fun u s' g' p w r=>hq u s' g' y J (by rw [e];rfl) p w r
theorem dG.op2 {γ d:Type}{W W':WP Value}{p p':PE}{N:W2 γ}{F:T->T->Option d}{R:RR γ d}(h:dG P B C W p (RX P))(h':dG P B C W' p' (RY P))(hd:Dn R)(o:t3 P N F R):
  dG P B C (fun A env Q E s=>W A env (fun x s₁=>W' A env (fun y s₂=>N A env x y Q E s₂) E s₁) E s) (p2 F p p') R:=
 h.bind (N:=fun A env x Q E s₁=>W' A env (fun y s₂=>N A env x y Q E s₂) E s₁) (F:=fun c V k a J=>p' c V J fun b J=>up (F a b) J k) hd fun n A env g g1 V J s s₁ x t k Q E p X r hb hq=>
  h' n A env g1 V J s₁ _ _ E X hb fun x' s₂ g2 t' J2 e pa w2 r2=>by
   obtain ⟨y,e'⟩:=ch fun q=>hb (e.trans q)
   exact o A env g2 J2 s₂ x x' t t' y Q E X.rm w2 (kW.post X.g pa r).y r2 e' fun u s' g' p w r=>hq u s' g' y J2 (e.trans (by rw [e'];rfl)) (pa.trans p) w (hd _ _ _ _ _ _ pa.back r)
theorem aq.none {k pos}:aq P B C (.Constant .none k pos) (pC .none) (RV P):=.now fun _ _ _ _ _ _ _ _ _ _ _ _ hq=>wpAny_Constant_none (hq _ _ _ rfl rfl)
theorem aq.bool {b k pos}:aq P B C (.Constant (.bool b) k pos) (pC (.bool b)) (RV P):=.now fun _ _ _ _ _ _ _ _ _ _ _ _ hq=>wpAny_Constant_bool (hq _ _ _ rfl rfl)
theorem aq.int {i k pos}:aq P B C (.Constant (.int i) k pos) (pC (.int i)) (RV P):=.now fun _ _ _ _ _ _ _ _ _ _ _ _ hq=>wpAny_Constant_int (hq _ _ _ rfl ⟨_,rfl⟩)
theorem aq.str {y k pos}(h:(PyData.strOk y&&decide (y.length<=lim))=true):aq P B C (.Constant (.str y) k pos) (pC (.str y)) (RV P):=.now fun _ _ _ _ _ _ _ _ _ _ _ _ hq=>
 have h':=aj h
 wpAny_Constant_str (hq _ _ _ rfl ⟨⟨h'.1,of_decide_eq_true h'.2⟩,_,rfl⟩)
theorem bG.look {B:bG}(h:B.ok=true){i:Nat}{x:Str}{k:NameKind}(ht:B.tab[i]?=some (some (x,k))):
  B.sc.kind=.function/\B.sc.names.lookup x=some k/\(k=.local\/k=.cell\/k=.free)/\(x==("__debug__":Str))=false/\(x==("__classdict__":Str))=false:=by
 simp only [bG.ok,and_eq_true,beq_iff_eq] at h
 have:=aA h.1.2 _ (mem_of_getElem? ht)
 simp only [and_eq_true,beq_iff_eq,or_eq_true,not_eq_true'] at this
 exact ⟨h.1.1,this.1.1.1,this.1.1.2.elim (fun q=>q.imp_right .inl) fun q=>.inr (.inr q),this.1.2,this.2⟩
theorem bc {n:Nat}{A:Around}{env:Env}{g:Gh}{V:aP}{J:Sg}{s:Shared}{i:Nat}{y:Str}{u:Value}{k:NameKind}{pos:Pos}{Q:Value->Shared->Prop}{E:Value->Shared->Prop}(X:At P B C n A env g V J s)(ht:B.tab[i]?=some (some (y,k)))(v:cQ B env s.heap i u)(hq:Q u s):
  wpAny P.M A (eval (.Name y pos) env) Q E s:=by
 obtain ⟨h1,h2,h3,h4,h5⟩:=bG.look X.env.ok ht
 have hk:env.scope.kind=.function:=X.env.sc▸h1
 cases v with
 |loc x m t n e=>
  rw [t] at ht;cases ht
  exact wpAny_Name (wpAny_loadName_local hk (show env.scope.names.lookup y=_ from X.env.sc▸h2) n e hq) h4
 |cel x k c t hk' l n=>
  rw [t] at ht;cases ht
  rcases hk' with rfl |rfl
  .exact wpAny_Name (wpAny_loadName_cell hk (show env.scope.names.lookup y=_ from X.env.sc▸h2) l n hq) h4
  .exact wpAny_Name (wpAny_loadName_free hk (show env.scope.names.lookup y=_ from X.env.sc▸h2) l n hq h5) h4
theorem aq.name {i:Nat}{y:Str}{k:NameKind}{pos:Pos}{R:RR Value T}(ht:B.tab[i]?=some (some (y,k)))(h:∀g h t u,bE P C g h i t u->R h g h t u):aq P B C (.Name y pos) (pV i) R:=.now fun n A env g V J s k Q E X hb hq=>by
 obtain ⟨t,e⟩:=ch hb
 obtain ⟨u,v,w⟩:=X.env.var i _ t ht e
 exact bc X ht v (hq u t s.toks (by rw [pV,e];rfl) (h _ _ _ _ w))
def k9 (C:Ct)(i:Nat):Bool:=!bi C i&&(!C.m||!Nat.beq i 0)
theorem jy {g:Gh}{h:Heap}{i:Nat}{t:T}{u:Value}(hv:k9 C i=true)(v:bE P C g h i t u):Rp P g h t u:=by
 obtain ⟨h1,h2⟩:=aj hv
 unfold bE at v
 cases q:bi C i with
 |true=>rw [q] at h1;cases h1
 |false=>
  rw [q] at v
  refine v.elim id fun ⟨a,b,_⟩=>?_
  subst b;rw [a] at h2;cases h2
theorem aq.var {i:Nat}{y:Str}{k:NameKind}{pos:Pos}(hv:k9 C i=true)(ht:B.tab[i]?=some (some (y,k))):aq P B C (.Name y pos) (pV i) (RV P):=.name ht fun _ _ _ _=>jy hv
theorem aq.own {i:Nat}{y:Str}{k:NameKind}{pos:Pos}(hv:bi C i=true)(ht:B.tab[i]?=some (some (y,k))):aq P B C (.Name y pos) (pV i) (RX P):=.name ht fun _ _ _ _ v=>by
 unfold bE at v
 rw [hv] at v
 exact let ⟨a,e,o,r⟩:=v;.inr ⟨a,e,.inl ⟨i,o⟩,r⟩
theorem At.fn {n:Nat}{A:Around}{env:Env}{g:Gh}{V:aP}{J:Sg}{s:Shared}(X:At P B C n A env g V J s):env.scope.kind=.function:=by
 have:=X.env.ok
 simp only [bG.ok,and_eq_true,beq_iff_eq] at this
 exact X.env.sc▸this.1.1
theorem At.glob {n:Nat}{A:Around}{env:Env}{g:Gh}{V:aP}{J:Sg}{s:Shared}(X:At P B C n A env g V J s){x:Str}{pos:Pos}{v:Value}{Q:Value->Shared->Prop}{E:Value->Shared->Prop}(hx:B.sc.names.lookup x=some .globalImplicit)(hd:(x==("__debug__":Str))=false)
  (hv:P.mg x=some v)(h:Q v s):wpAny P.M A (eval (.Name x pos) env) Q E s:=
 Calls.Name_function_global X.fn (show env.scope.names.lookup x=_ from X.env.sc▸hx) (Calls.loadGlobal_global (mg:=P.mg) (X.env.glob▸X.good.g.keeps fun a o e=>(X.g.base a o e).2) hv h) hd
theorem aq.gconst {y:Str}{t:T}{pos:Pos}(hx:B.sc.names.lookup y=some .globalImplicit)(hd:(y==("__debug__":Str))=false)(hv:∃u,P.mg y=some u/\∀g h,Rp P g h t u):aq P B C (.Name y pos) (pC t) (RV P):=.now fun n A env g V J s k Q E X hb hq=>
 let ⟨u,h1,h2⟩:=hv;X.glob hx hd h1 (hq u t s.toks rfl (h2 _ _))
noncomputable abbrev DF (P:Pg)(op:Value->Value->Sem Value):W2 Value:=fun A _ x y Q E s=>wpAny P.M A (op x y) Q E s
noncomputable abbrev Fd (P:Pg)(op:Value->Sem Value):W1 Value:=fun A _ x Q E s=>wpAny P.M A (op x) Q E s
theorem aq.bin {l r:Expr}{op:Operator}{pos:Pos}{pl pr:PE}{F:T->T->Option T}{R:RR Value T}(hd:Dn R)(o:t3 P (DF P (binaryOp op)) F R)(hl:aq P B C l pl (RX P))(hr:aq P B C r pr (RX P)):aq P B C (.BinOp l op r pos) (p2 F pl pr) R:=
 (hl.op2 hr.xy hd o).map fun _ _ _ _ _=>wpAny_BinOp
def kX (P:Pg)(op:CmpOp)(F:T->T->Option Bool):Prop:=
 ∀A g J s x x' t t' b Q E,Rm A->bC P g s.heap J->fP P g s.heap t x->fP P g s.heap t' x'->F t t'=some b->(∀tk,Q (.bool b) {s with toks:=tk})->wpAny P.M A (compareOp op x x') Q E s
theorem kX.e {op:CmpOp}{F:T->T->Option Bool}(o:kX P op F):t3 P (DF P (compareOp op)) (fun a b=>(F a b).map T.bool) (RV P):=fun A env g J s x x' t t' y Q E rm w r r' e hq=>by
 obtain ⟨b,e1,rfl⟩:=av e
 exact o A g J s x x' t t' b Q E rm w r r' e1 fun tk=>hq _ _ g (.toks g s tk) w rfl
theorem kX.t {op:CmpOp}{F:T->T->Option Bool}(o:kX P op F):t3 P (fun A _ x y Q E s=>wpAny P.M A (compareOp op x y) (fun v s₁=>wpAny P.M A (truthy v) Q E s₁) E s) F RQ:=fun A env g J s x x' t t' b Q E rm w r r' e hq=>
 o A g J s x x' t t' b _ E rm w r r' e fun tk=>wpAny_truthy_bool (hq b _ g (.toks g s tk) w rfl)
theorem DM {α j:Type}(o:Option α)(f:α->j)(J:Sg)(k:PK j):up (o.map f) J k=up o J fun a J=>k (f a) J:=by cases o<;>rfl
theorem dG.eq {α j:Type}{W:WP α}{p p':PG j}{R:RR α j}(h:dG P B C W p R)(e:p=p'):dG P B C W p' R:=e▸h
theorem aq.cmp {l r:Expr}{op:CmpOp}{pos:Pos}{pl pr:PE}{F:T->T->Option Bool}(o:kX P op F)(hm:behindInMarks op r=false)(hl:aq P B C l pl (RX P))(hr:aq P B C r pr (RX P)):aq P B C (.Compare l [op] [r] pos) (pB (p2 F pl pr)) (RV P):=
 ((hl.op2 hr.xy mD o.e).map fun _ _ _ _ _ h=>wpAny_Compare1 h hm).eq (by unfold p2 pB;simp only [DM])
theorem cN.cmpY {l r:Expr}{op:CmpOp}{pos:Pos}{pl pr:PE}{F:T->T->Option Bool}(o:kX P op F)(hm:behindInMarks op r=false)(hl:aq P B C l pl (RX P))(hr:aq P B C r pr (RY P)):cN P B C (.Compare l [op] [r] pos) (p2 F pl pr):=
 (hl.op2 hr Fp o.t).map fun _ _ _ _ _ h=>wpAny_isTrue_Compare1 h hm
theorem cN.cmp {l r:Expr}{op:CmpOp}{pos:Pos}{pl pr:PE}{F:T->T->Option Bool}(o:kX P op F)(hm:behindInMarks op r=false)(hl:aq P B C l pl (RX P))(hr:aq P B C r pr (RX P)):cN P B C (.Compare l [op] [r] pos) (p2 F pl pr):=.cmpY o hm hl hr.xy
theorem gK {A:Around}{g:Gh}{h:Heap}{s:Shared}{t:T}{x:Value}{b:Bool}{Q:Bool->Shared->Prop}{E:Value->Shared->Prop}(r:fP P g h t x)(ht:eW t=some b)(k:Q b s):wpAny P.M A (truthy x) Q E s:=by
 cases t with
 |none=>cases ht;exact r.elim (fun r=>(show x=_ from r)▸fun _ _ _=>k) fun ⟨_,_,r⟩=>r.elim
 |bool c=>cases ht;exact r.elim (fun r=>(show x=_ from r)▸wpAny_truthy_bool k) fun ⟨_,_,r⟩=>r.elim
 |int i=>cases ht;exact r.elim (fun ⟨_,r⟩=>r▸PySem.P.truthy_int k) fun ⟨_,_,r⟩=>r.elim
 |_=>cases ht
theorem cN.val {e:Expr}{p:PE}(h:aq P B C e p (RX P))(he:∀env whole,isTrue e env whole=(do let v <-whole;standAt e.pos;holding [v] (truthy v))):cN P B C e (qE p):=
 (h.xy.op1 (N:=fun A _ x Q E s=>wpAny P.M A (truthy x) Q E s) Fp fun A env g J s x t b Q E rm w r e hq=>gK r e (hq b s g (.refl g s) w rfl)).map fun A env Q E s h=>wpAny_isTrue_value h (he env _)
theorem cN.not {e:Expr}{p:PT}{pos:Pos}(h:cN P B C e p):cN P B C (.UnaryOp .Not e pos) (c9 p):=
 (h.bind (N:=fun A _ b Q E s=>Q (!b) s) (F:=fun _ _ k b J=>k (!b) J) (R':=RQ) Fp fun n A env g g1 V J s s₁ x t k Q E p X r hb hq=>hq _ s₁ g1 _ J rfl (.refl _ _) X.g (congrArg Bool.not r)).map fun _ _ _ _ _=>wpAny_isTrue_Not
abbrev iQ (P:Pg)(B:bG)(C:Ct)(op:BoolOp)(es:List Expr)(p:PT):Prop:=dG P B C (P.W fun env=>allTrue op es env) p RQ
theorem iQ.andNil:iQ P B C .And [] aM:=.now fun _ _ _ _ _ _ _ _ _ _ _ _ hq=>wpAny_allTrue_And_nil (hq _ _ _ rfl rfl)
theorem iQ.orNil:iQ P B C .Or [] cU:=.now fun _ _ _ _ _ _ _ _ _ _ _ _ hq=>wpAny_allTrue_Or_nil (hq _ _ _ rfl rfl)
theorem dG.ite {α j:Type}{W:WP Bool}{p:PT}{W1 W2:WP α}{p1 p2:PG j}{R:RR α j}(h:dG P B C W p RQ)(hd:Dn R)(h1:dG P B C W1 p1 R)(h2:dG P B C W2 p2 R):
  dG P B C (fun A env Q E s=>W A env (fun b s₁=>match b with |true=>W1 A env Q E s₁ |false=>W2 A env Q E s₁) E s) (fun c V J k=>p c V J fun b J=>bif b then p1 c V J k else p2 c V J k) R:=
 h.bind (N:=fun A env b Q E s₁=>match b with |true=>W1 A env Q E s₁ |false=>W2 A env Q E s₁) (F:=fun c V k b J=>bif b then p1 c V J k else p2 c V J k) hd fun n A env g g1 V J s s₁ x t k Q E p X r hb hq=>by
  cases r
  cases x with
  |true=>exact h1 n A env g1 V J s₁ k Q E X hb hq
  |false=>exact h2 n A env g1 V J s₁ k Q E X hb hq
theorem dG.yes {j:Type}{t:j}:dG P B C (fun A env Q E s=>Q t s) (fun _ _ J k=>k t J) RQ:=.now fun _ _ _ _ _ _ _ _ _ _ _ _ hq=>hq _ _ _ rfl rfl
theorem iQ.and {e:Expr}{es:List Expr}{p ps:PT}(h:cN P B C e p)(hs:iQ P B C .And es ps):iQ P B C .And (e::es) (wR p ps):=
 (h.ite Fp hs (.yes (t:=false))).map fun A env Q E s h=>wpAny_allTrue_And_cons (wpAny_mono h (fun b s h=>by cases b<;>exact h) fun _ _ h=>h)
theorem iQ.or {e:Expr}{es:List Expr}{p ps:PT}(h:cN P B C e p)(hs:iQ P B C .Or es ps):iQ P B C .Or (e::es) (gG p ps):=
 (h.ite Fp (.yes (t:=true)) hs).map fun A env Q E s h=>wpAny_allTrue_Or_cons (wpAny_mono h (fun b s h=>by cases b<;>exact h) fun _ _ h=>h)
theorem cN.boolOp {op:BoolOp}{es:List Expr}{p:PT}{pos:Pos}(h:iQ P B C op es p):cN P B C (.BoolOp op es pos) p:=h.map fun _ _ _ _ _=>wpAny_isTrue_BoolOp
theorem aq.not {e:Expr}{p:PE}{pos:Pos}(h:aq P B C e p (RX P)):aq P B C (.UnaryOp .Not e pos) (lk p) (RV P):=
 (h.xy.op1 (N:=Fd P (unaryOp .Not)) mD fun A env g J s x t y Q E rm w r e hq=>by
  obtain ⟨b,e1,rfl⟩:=av e
  exact not_value (gK r e1 (hq _ s g (.refl g s) w rfl))).map fun _ _ _ _ _=>wpAny_UnaryOp
abbrev jr (P:Pg)(B:bG)(C:Ct)(op:BoolOp)(es:List Expr)(p:PE):Prop:=∀pos,dG P B C (P.W fun env=>boolOp pos op (evalEach es env)) p (RV P)
theorem jr.one {op:BoolOp}{e:Expr}{p:PE}(h:aq P B C e p (RV P)):jr P B C op [e] p:=fun _=>h
theorem jr.and {e e':Expr}{es:List Expr}{p ps:PE}(h:aq P B C e p (RV P))(hs:jr P B C .And (e'::es) ps):jr P B C .And (e::e'::es) (lq p ps):=fun pos=>
 (h.bind (N:=fun A env v Q E s=>wpAny P.M A (do standAt pos;let t <-holding [v] (truthy v);match BoolOp.And,t with |.And,false |.Or,true=>pure v |_,_=>boolOp pos .And (evalEach (e'::es) env)) Q E s)
  (F:=fun cx V k v J=>match eW v with |some true=>ps cx V J k |some false=>k v J |none=>.bad) (R':=RV P) mD fun n A env g g1 V J s s₁ x t k Q E p X r hb hq=>by
   cases e:eW t with
   |none=>rw [e] at hb;exact absurd rfl hb
   |some b=>
    rw [e] at hb hq
    refine wpAny_bind (wpAny_standAt (wpAny_bind (wpAny_holding (gK (.inl r) e ?_))))
    cases b with
    |true=>exact hs pos n A env g1 V J s₁ k Q E X hb hq
    |false=>exact wpAny_pure (hq x s₁ g1 t J rfl (.refl _ _) X.g r)).map fun _ _ _ _ _=>wpAny_bind
theorem jr.or {e e':Expr}{es:List Expr}{p ps:PE}(h:aq P B C e p (RV P))(hs:jr P B C .Or (e'::es) ps):jr P B C .Or (e::e'::es) (AO p ps):=fun pos=>
 (h.bind (N:=fun A env v Q E s=>wpAny P.M A (do standAt pos;let t <-holding [v] (truthy v);match BoolOp.Or,t with |.And,false |.Or,true=>pure v |_,_=>boolOp pos .Or (evalEach (e'::es) env)) Q E s)
  (F:=fun cx V k v J=>match eW v with |some true=>k v J |some false=>ps cx V J k |none=>.bad) (R':=RV P) mD fun n A env g g1 V J s s₁ x t k Q E p X r hb hq=>by
   cases e:eW t with
   |none=>rw [e] at hb;exact absurd rfl hb
   |some b=>
    rw [e] at hb hq
    refine wpAny_bind (wpAny_standAt (wpAny_bind (wpAny_holding (gK (.inl r) e ?_))))
    cases b with
    |false=>exact hs pos n A env g1 V J s₁ k Q E X hb hq
    |true=>exact wpAny_pure (hq x s₁ g1 t J rfl (.refl _ _) X.g r)).map fun _ _ _ _ _=>wpAny_bind
theorem aq.boolOp {op:BoolOp}{es:List Expr}{p:PE}{pos:Pos}(h:jr P B C op es p):aq P B C (.BoolOp op es pos) p (RV P):=h pos
theorem iq.nil:iq P B C [] an:=⟨(fun _ _ q=>nomatch q),fun pos=>dG.now fun _ _ _ _ _ _ _ _ _ _ _ _ hq=>wpAny_items_nil (hq _ _ _ rfl rfl)⟩
theorem iq.cons {e:Expr}{es:List Expr}{p:PE}{ps:PL}(hn:∀env,starEach (e::es) env=(false,eval e env)::starEach es env)(h:aq P B C e p (RV P))(hs:iq P B C es ps):iq P B C (e::es) (ae p ps):=⟨fun env q hq=>by
 rw [hn] at hq
 cases hq with
 |head=>rfl
 |tail _ hq=>exact hs.pl env q hq,fun pos=>
 (h.bind (N:=fun A env v Q E s=>wpAny P.M A (spliced (backTo pos (starEach es env))) (fun vs s₁=>Q (v::vs) s₁) E s) (F:=fun c V k v J=>ps c V J fun vs J=>k (v::vs) J) (R':=RL P) Ju fun n A env g g1 V J s s₁ x t k Q E p X r hb hq=>
  hs.sim pos n A env g1 V J s₁ _ _ E X hb fun xs s₂ g2 ts J2 e pa w2 r2=>hq _ s₂ g2 _ J2 e pa w2 (aZ.cons (Rp.mono (pa.k X.g) r) r2)).map fun _ env _ _ _ h=>wpAny_items_cons h (hn env)⟩
theorem bj {k:Nat}(h:k<=lim):k<=sizeLine:=le_trans h (by decide)
theorem fB {n:Nat}(h:bS n=true):n<=lim:=le_of_ble_eq_true h
theorem fX {c:Bool}{o:cj}(h:gd c o≠.bad):c=true:=by cases c with
 |true=>rfl
 |false=>exact absurd rfl h
theorem lN {c:Bool}{o:cj}(h:(bif c then o else .bad)≠.bad):c=true:=by cases c with
 |true=>rfl
 |false=>exact absurd rfl h
theorem cq (s:Shared)(ob:Obj):∀a o,s.heap.get? a=some o->(s.heap.push ob).get? a=some o:=fun _ _ e=>Heap.get?_push_of_some _ e
theorem dM {g:Gh}{s:Shared}{J:Sg}(w:bC P g s.heap J):¬g.F s.heap.objs.size/\¬g.Z s.heap.objs.size/\¬g.O s.heap.objs.size:=⟨fun q=>w.F _ q (aN _),fun q=>(w.Z _ q).1 (aN _),fun q=>(w.O _ q).1 (aN _)⟩
theorem bC.push {g:Gh}{s:Shared}{J:Sg}(w:bC P g s.heap J)(ob:Obj):bC P g (s.heap.push ob) J:=w.grow (cq s ob) g.F (fun _ h=>h) fun _ h=>.inl h
theorem aJ.push {g:Gh}{s:Shared}(ob:Obj)(t:Nat):aJ g s g {s with heap:=s.heap.push ob,toks:=t}:=.grow t (cq s ob) g.F (fun _ h=>h) fun _ h=>.inl h
theorem bF {h:Heap}(ob:Obj)(hf:ob.isFreed=false:=by rfl):(h.push ob).get? h.objs.size=some ob:=Heap.get?_push_size _ hf
theorem bC.pushF {g:Gh}{s:Shared}{J:Sg}(w:bC P g s.heap J)(ob:Obj)(hf:ob.isFreed=false:=by rfl):bC P {g with F:=fun y=>g.F y\/y=s.heap.objs.size} (s.heap.push ob) J:=w.grow (cq s ob) _ (fun _ h=>.inl h) fun a h=>h.elim .inl fun e=>.inr (e▸⟨aN _,ar (bF ob hf)⟩)
theorem aJ.pushF {g:Gh}{s:Shared}(ob:Obj)(t:Nat):aJ g s {g with F:=fun y=>g.F y\/y=s.heap.objs.size} {s with heap:=s.heap.push ob,toks:=t}:=.grow t (cq s ob) _ (fun _ h=>.inl h) fun a h=>h.elim .inl fun e=>.inr (e▸aN _)
theorem uf {g:Gh}{s:Shared}{J:Sg}{ts:List T}{xs:List Value}{tk:Nat}(w:bC P g s.heap J)(r:aZ P g s.heap ts xs)(hl:ts.length<=lim){Q:Value->Shared->Prop}(hq:∀u s' g',aJ g s g' s'->bC P g' s'.heap J->Rp P g' s'.heap (.tup ts) u->Q u s'):
  Q (.ref s.heap.objs.size) {s with heap:=s.heap.push (dW xs.toArray 0),toks:=tk}:=
 hq _ _ _ (.pushF _ tk) (w.pushF _) ⟨_,rfl,.inr rfl,_,_,bF _,hl,r.mono ((aJ.pushF _ 0).k w)⟩
theorem BM {g:Gh}{s:Shared}{J:Sg}{ts:List T}{xs:List Value}{tk:Nat}(w:bC P g s.heap J)(r:aZ P g s.heap ts xs)(hl:ts.length<=lim){Q:Value->Shared->Prop}(hq:∀u s' g',aJ g s g' s'->bC P g' s'.heap J->CT P s.heap g' s'.heap (.lst ts) u->Q u s'):
  Q (.ref s.heap.objs.size) {s with heap:=s.heap.push (bA xs.toArray 0),toks:=tk}:=
 hq _ _ _ (.push _ tk) (w.push _) ⟨_,rfl,aN _,(dM w).1,(dM w).2.1,(dM w).2.2,_,_,bF _,hl,r.mono ((aJ.push (bA xs.toArray 0) 0).k w)⟩
theorem aq.tup {es:List Expr}{ps:PL}{k:Nat}{pos:Pos}(h:iq P B C es ps):aq P B C (.Tuple es k pos) (aT ps) (RV P):=
 ((h.sim pos).bind (N:=fun A env xs Q E s=>xs.length<=sizeLine/\Q (.ref s.heap.objs.size) {s with heap:=s.heap.push (dW xs.toArray 0)}) (F:=fun c V k vs J=>bif bS vs.length then k (.tup vs) J else .bad) (R':=RV P) mD fun n A env g g1 V J s s₁ x t k Q E p X r hb hq=>by
  have hl:=fB (lN hb)
  exact ⟨bj (r.length▸hl),uf (tk:=s₁.toks) X.g r hl fun u s' g' p w r=>hq u s' g' _ J (by rw [lN hb];rfl) p w r⟩).map fun _ _ _ _ _=>wpAny_Tuple
theorem aq.list {es:List Expr}{ps:PL}{pos:Pos}(h:iq P B C es ps):aq P B C (.List es pos) (bW ps) (RN P):=
 ((h.sim pos).bind (N:=fun A env xs Q E s=>xs.length<=sizeLine/\Q (.ref s.heap.objs.size) {s with heap:=s.heap.push (bA xs.toArray 0)}) (F:=fun c V k vs J=>bif bS vs.length then k (.lst vs) J else .bad) (R':=RN P) HC fun n A env g g1 V J s s₁ x t k Q E p X r hb hq=>by
  have hl:=fB (lN hb)
  exact ⟨bj (r.length▸hl),BM (tk:=s₁.toks) X.g r hl fun u s' g' p w r=>hq u s' g' _ J (by rw [lN hb];rfl) p w r⟩).map fun _ _ _ _ _=>wpAny_List
end
end
end Mine
namespace Mine
noncomputable section
open PySem PyProof.Rows PySem.SeqAt
section
variable {P:Pg} {B:bG} {C:Ct} {g:Gh} {h:Heap} {t:T} {x:Value}
theorem no {α:Type}{x:α}{p:Prop}(h:(none:Option α)=some x):p:=nomatch h
theorem E8 {i:Bool}:G1 t=some i->t=T.bool i:=T.casesOn (motive_1:=fun t=>G1 t=some i->t=T.bool i) t no (fun x e=>congrArg T.bool (Option.some.inj e)) (fun _=>no) (fun _=>no) (fun _=>no) (fun _=>no) (fun _ _=>no) (fun _ _=>no) (fun _=>no) no no
theorem jo {i:Int}:i7 t=some i->t=T.int i:=T.casesOn (motive_1:=fun t=>i7 t=some i->t=T.int i) t no (fun _=>no) (fun x e=>congrArg T.int (Option.some.inj e)) (fun _=>no) (fun _=>no) (fun _=>no) (fun _ _=>no) (fun _ _=>no) (fun _=>no) no no
theorem vc {i:Str}:rJ t=some i->t=T.str i:=T.casesOn (motive_1:=fun t=>rJ t=some i->t=T.str i) t no (fun _=>no) (fun _=>no) (fun x e=>congrArg T.str (Option.some.inj e)) (fun _=>no) (fun _=>no) (fun _ _=>no) (fun _ _=>no) (fun _=>no) no no
theorem jn {i:List T}:oQ t=some i->t=T.tup i:=T.casesOn (motive_1:=fun t=>oQ t=some i->t=T.tup i) t no (fun _=>no) (fun _=>no) (fun _=>no) (fun x e=>congrArg T.tup (Option.some.inj e)) (fun _=>no) (fun _ _=>no) (fun _ _=>no) (fun _=>no) no no
theorem fq {i:List T}:f8 t=some i->t=T.lst i:=T.casesOn (motive_1:=fun t=>f8 t=some i->t=T.lst i) t no (fun _=>no) (fun _=>no) (fun _=>no) (fun _=>no) (fun x e=>congrArg T.lst (Option.some.inj e)) (fun _ _=>no) (fun _ _=>no) (fun _=>no) no no
theorem E6 {i:List Int}:E7 t=some i->t=T.scr i:=T.casesOn (motive_1:=fun t=>E7 t=some i->t=T.scr i) t no (fun _=>no) (fun _=>no) (fun _=>no) (fun _=>no) (fun _=>no) (fun _ _=>no) (fun _ _=>no) (fun x e=>congrArg T.scr (Option.some.inj e)) no no
theorem fP.v (q:fP P g h t x)(h1:∀a,fR P g h a t->False):Rp P g h t x:=q.elim id fun ⟨a,_,r⟩=>(h1 a r).elim
theorem fP.b {b:Bool}(q:fP P g h t x)(e:G1 t=some b):x=.bool b:=by cases E8 e;exact q.v fun _ h=>h
theorem fP.i {i:Int}(q:fP P g h t x)(e:i7 t=some i):∃p,x=.int i p:=by cases jo e;exact q.v fun _ h=>h
theorem fP.s {s:Str}(q:fP P g h t x)(e:rJ t=some s):(PyData.strOk s=true/\s.length<=lim)/\∃p,x=.str s p:=by cases vc e;exact q.v fun _ h=>h
theorem fP.n {s:List Int}(q:fP P g h t x)(e:E7 t=some s):I3 P s x:=by cases E6 e;exact q.v fun _ h=>h
theorem fP.tu {ts:List T}(q:fP P g h t x)(e:oQ t=some ts):Fz g (xT h dW (aZ P g h ts) ts.length) x:=by cases jn e;exact q.v fun _ h=>h
theorem fP.ls {ts:List T}(q:fP P g h t x)(e:f8 t=some ts):∃a,x=.ref a/\xT h bA (aZ P g h ts) ts.length a:=by cases fq e;exact q.elim (fun r=>let ⟨a,e,_,o⟩:=r;⟨a,e,o⟩) id
theorem aB {α Z:Type}{a:Option α}{f:α->Option Z}{y:Z}(h:o1 a f=some y):∃x,a=some x/\f x=some y:=by
 cases a with
 |none=>cases h
 |some x=>exact ⟨x,rfl,h⟩
theorem bz {α Z γ:Type}{a:Option α}{b:Option Z}{f:α->Z->Option γ}{y:γ}(h:o2 a b f=some y):∃x z,a=some x/\b=some z/\f x z=some y:=by
 cases a with
 |none=>cases h
 |some x=>cases b with
  |none=>cases h
  |some z=>exact ⟨x,z,rfl,rfl,h⟩
structure Rd (h:Heap) (x:Value) (d:PyData) (n:Nat):Prop where
 r:∃as,Reads h x d as
 c:d.canLay0=true
 l:d.depth<=n
structure Jx (h:Heap) (x:List Value) (d:List PyData) (n:Nat):Prop where
 r:∃as,ReadsAll h x d as
 c:PyData.canLayAll0 d=true
 l:PyData.depthAll d<=n
theorem iw {f:T->Option PyData}{n:Nat}(ih:∀t x d,f t=some d->Rp P g h t x->Rd h x d n):∀(ts:List T) (xs:List Value) (ds:List PyData),fO f ts=some ds->aZ P g h ts xs->Jx h xs ds n
 | [],_,_,e,r=>by cases r;cases e;exact ⟨⟨[],.nil⟩,rfl,zero_le _⟩
 |t::ts,_,_,e,⟨x,xs,e',r,rs⟩=>by
  subst e'
  unfold fO at e
  cases hd:f t with
  |none=>rw [hd] at e;cases e
  |some d=>
   rw [hd] at e
   obtain ⟨ds,hds,rfl⟩:=av e
   obtain ⟨⟨as,h1⟩,h2,h3⟩:=ih t x d hd r
   obtain ⟨⟨bs,h4⟩,h5,h6⟩:=iw ih ts xs ds hds rs
   exact ⟨⟨as++bs,.cons h1 h4⟩,and_eq_true_iff.mpr ⟨h2,h5⟩,max_le.mpr ⟨h3,h6⟩⟩
theorem gS (n:Nat)(t:T)(x:Value)(d:PyData)(hn:cX n t=cX 0 t):cX n t=some d->fP P g h t x->Rd h x d n:=hn▸
 T.casesOn (motive_1:=fun t=>cX 0 t=some d->fP P g h t x->Rd h x d n) t (fun e q=>Option.some.inj e▸(show x=_ from q.v fun _ h=>h)▸⟨⟨[],.none⟩,rfl,zero_le _⟩) (fun _ e q=>Option.some.inj e▸q.b rfl▸⟨⟨[],.bool _⟩,rfl,zero_le _⟩)
  (fun _ e q=>Option.some.inj e▸let ⟨_,z⟩:=q.i rfl;z▸⟨⟨[],.int _ _⟩,rfl,zero_le _⟩) (fun _ e q=>Option.some.inj e▸let ⟨h,_,z⟩:=q.s rfl;z▸⟨⟨[],.str _ _⟩,h.1,zero_le _⟩) (fun _=>no) (fun _=>no) (fun _ _=>no) (fun _ _=>no) (fun _=>no) no no
theorem dQ (n:Nat):∀t x d,cX n t=some d->fP P g h t x->Rd h x d n:=by
 induction n with
 |zero=>exact fun t x d=>gS 0 t x d rfl
 |succ n ih=>
  have ra:=iw (P:=P) (g:=g) (h:=h) fun t x d e r=>ih t x d e (.inl r)
  exact fun t=>T.casesOn (motive_1:=fun t=>∀x d,cX (n+1) t=some d->fP P g h t x->Rd h x d (n+1)) t (fun x d=>gS _ _ x d rfl) (fun _ x d=>gS _ _ x d rfl) (fun _ x d=>gS _ _ x d rfl) (fun _ x d=>gS _ _ x d rfl)
   (fun ts x d e q=>let ⟨ds,hd,z⟩:=av e;let ⟨_,y,_,vs,m,e1,_,r⟩:=q.tu rfl;let ⟨⟨as,q1⟩,q2,q3⟩:=ra ts _ ds hd r;z▸y▸⟨⟨as,.tuple e1 rfl rfl q1⟩,q2,succ_le_succ q3⟩)
   (fun ts x d e q=>let ⟨ds,hd,z⟩:=av e;let ⟨a,y,vs,m,e1,_,r⟩:=q.ls rfl;let ⟨⟨as,q1⟩,q2,q3⟩:=ra ts _ ds hd r;z▸y▸⟨⟨a::as,.list e1 rfl rfl q1⟩,q2,succ_le_succ q3⟩)
   (fun _ _ _ _=>no) (fun _ _ _ _=>no) (fun _ _ _=>no) (fun _ _=>no) (fun _ _=>no)
theorem mP {A:Around}{a b:Nat}(rm:Rm A)(h:a<=du):A.units+1+min a b < cLine:=by
 have:=rm.units
 have:min a b<=50:=le_trans (min_le_left _ _) h
 lia -abstractProof
theorem GX:kX P .Eq cH:=fun A g J s x x' t t' b Q E rm w q q' e k=>by
 obtain ⟨d,d',h1,h2,h3⟩:=bz e
 obtain ⟨⟨_,r1⟩,c1,l1⟩:=dQ du t x d h1 q
 obtain ⟨⟨_,r2⟩,c2,l2⟩:=dQ du t' x' d' h2 q'
 cases h3
 exact compareEq_reads r1 r2 c1 c2 (lt_of_le_of_lt (by lia) (mP (b:=d'.depth) rm l1)) (k s.toks)
theorem Dy:kX P .NotEq mu:=fun A g J s x x' t t' b Q E rm w q q' e k=>by
 obtain ⟨c,e1,rfl⟩:=av e
 obtain ⟨d,d',h1,h2,h3⟩:=bz e1
 obtain ⟨⟨_,r1⟩,c1,l1⟩:=dQ du t x d h1 q
 obtain ⟨⟨_,r2⟩,c2,l2⟩:=dQ du t' x' d' h2 q'
 cases h3
 exact compareNe_reads r1 r2 c1 c2 (lt_of_le_of_lt (by lia) (mP (b:=d'.depth) rm l1)) (k s.toks)
theorem dP {α:Type}{t':T}{x':Value}{f:Int->Int->Option α}{y:α}(q:fP P g h t x)(q':fP P g h t' x')(e:o2 (i7 t) (i7 t') f=some y):∃i j p p',x=.int i p/\x'=.int j p'/\f i j=some y:=by
 obtain ⟨i,j,h1,h2,h3⟩:=bz e
 obtain ⟨p,e1⟩:=q.i h1
 obtain ⟨p',e2⟩:=q'.i h2
 exact ⟨i,j,p,p',e1,e2,h3⟩
theorem GS:kX P .Lt o7:=fun A g J s x x' t t' b Q E rm w q q' e k=>by
 obtain ⟨i,j,p,p',rfl,rfl,e⟩:=dP q q' e
 cases e;exact PySem.P.lt_int (k s.toks)
theorem GT:kX P .LtE EB:=fun A g J s x x' t t' b Q E rm w q q' e k=>by
 obtain ⟨i,j,p,p',rfl,rfl,e⟩:=dP q q' e
 cases e;exact PySem.P.le_int (k s.toks)
theorem GV:kX P .Gt Dp:=fun A g J s x x' t t' b Q E rm w q q' e k=>by
 obtain ⟨i,j,p,p',rfl,rfl,e⟩:=dP q q' e
 cases e;exact PySem.P.gt_int (k s.toks)
theorem GW:kX P .GtE HA:=fun A g J s x x' t t' b Q E rm w q q' e k=>by
 obtain ⟨i,j,p,p',rfl,rfl,e⟩:=dP q q' e
 cases e;exact PySem.P.ge_int (k s.toks)
inductive IF (P:Pg) (g:Gh) (h:Heap) (ts:List T) (x:Value):Prop
 |tup (a:Addr) (vs:Array Value) (n:Nat) (e:x=.ref a) (e':h.get? a=some (dW vs n)) (l:ts.length<=lim) (r:aZ P g h ts vs.toList)
 |lst (a:Addr) (vs:Array Value) (n:Nat) (e:x=.ref a) (e':h.get? a=some (bA vs n)) (l:ts.length<=lim) (r:aZ P g h ts vs.toList)
theorem fP.sq {ts:List T}(q:fP P g h t x)(e:gO t=some ts):IF P g h ts x:=by
 unfold gO el at e
 cases e1:oQ t with
 |some us=>rw [e1] at e;cases e;obtain ⟨a,e,_,vs,n,e',l,r⟩:=q.tu e1;exact .tup a vs n e e' l r
 |none=>rw [e1] at e;obtain ⟨a,e,vs,n,e',l,r⟩:=q.ls e;exact .lst a vs n e e' l r
inductive Jz (h:Heap) (A:Around) (x x':Value) (b:Bool):Prop
 |mk (d:PyData) (ds:List PyData) (as bs:List Addr) (e:b=ds.any fun y=>PyData.eqv y d) (r:Reads h x' (.list ds) as\/Reads h x' (.tuple ds) as) (r':Reads h x d bs) (c:PyData.canLayAll0 ds=true) (c':d.canLay0=true) (l:A.units+1+min (PyData.depthAll ds) d.depth < cLine)
theorem s9 {A:Around}{x':Value}{t':T}{b:Bool}(rm:Rm A)(q:fP P g h t x)(q':fP P g h t' x')(e:iM t t'=some b):Jz h A x x' b:=by
 obtain ⟨ts,e1,e⟩:=aB e
 obtain ⟨d,ds,h1,h2,e⟩:=bz e
 obtain ⟨⟨_,r1⟩,c1,l1⟩:=dQ du t x d h1 q
 have ra:=fun xs r=>iw (fun t x d e r=>dQ du t x d e (.inl r)) ts xs ds h2 (P:=P) (g:=g) (h:=h) r
 cases e
 rcases q'.sq e1 with ⟨a,vs,n,rfl,e',l,r⟩ | ⟨a,vs,n,rfl,e',l,r⟩
 .obtain ⟨⟨_,r2⟩,c2,l2⟩:=ra _ r
  exact ⟨d,ds,_,_,rfl,.inr (.tuple e' rfl rfl r2),r1,c2,c1,mP rm l2⟩
 .obtain ⟨⟨_,r2⟩,c2,l2⟩:=ra _ r
  exact ⟨d,ds,_,_,rfl,.inl (.list e' rfl rfl r2),r1,c2,c1,mP rm l2⟩
theorem GU:kX P .In iM:=fun A g J s x x' t t' b Q E rm w q q' e k=>by
 obtain ⟨d,ds,as,bs,rfl,r |r,h1,h2,h3,h4⟩:=s9 rm q q' e
 .exact in_list_reads r h1 h2 h3 h4 (k s.toks)
 .exact in_tuple_reads r h1 h2 h3 h4 (k s.toks)
theorem Ak:kX P .NotIn fK:=fun A g J s x x' t t' b Q E rm w q q' e k=>by
 obtain ⟨c,e1,rfl⟩:=av e
 obtain ⟨d,ds,as,bs,rfl,r |r,h1,h2,h3,h4⟩:=s9 rm q q' e1
 .exact notIn_list_reads r h1 h2 h3 h4 (k s.toks)
 .exact notIn_tuple_reads r h1 h2 h3 h4 (k s.toks)
theorem qx {a b:Str}(ha:PyData.strOk a=true)(hb:PyData.strOk b=true):PyData.strOk (a++b)=true:=by
 have:(a++b).cps=a.cps++b.cps:=rfl
 simp only [PyData.strOk,this,Array.all_append,and_eq_true] at *
 exact ⟨ha,hb⟩
theorem fm {α:Type}{n:Nat}{x y:α}(h:mi n x=some y):n<=lim/\x=y:=by
 unfold mi at h
 cases q:bS n with
 |true=>rw [q] at h;exact ⟨fB q,Option.some.inj h⟩
 |false=>rw [q] at h;cases h
theorem dC {J:Sg}{s:Shared}{i:Int}{tk p:Nat}(w:bC P g s.heap J){Q:Value->Shared->Prop}(hq:∀u s' g',aJ g s g' s'->bC P g' s'.heap J->Rp P g' s'.heap (.int i) u->Q u s'):Q (.int i p) {s with toks:=tk}:=hq _ _ g (.toks g s tk) w ⟨_,rfl⟩
theorem te {ts:List T}{vs:Array Value}(r:aZ P g h ts vs.toList)(e:vs.isEmpty=true):ts=[]:=by
 have z:vs.toList=[]:=Array.toList_eq_nil_iff.mpr (Array.isEmpty_iff.mp e)
 rw [z] at r
 have:=r.length
 exact length_eq_zero_iff.mp this.symm
theorem tX {ts us:List T}{vs vs':Array Value}(r:aZ P g h ts vs.toList)(r':aZ P g h us vs'.toList)(hl:(ts++us).length<=lim):vs.size+vs'.size<=lim:=by
 rw [List.length_append,<-r.length,<-r'.length] at hl;exact hl
theorem j6 {J:Sg}{s:Shared}{ts:List T}{xs:List Value}{tk:Nat}(w:bC P g s.heap J)(r:aZ P g s.heap ts xs)(hl:ts.length<=lim){Q:Value->Shared->Prop}(hq:∀u s' g',aJ g s g' s'->bC P g' s'.heap J->Rp P g' s'.heap (.lst ts) u->Q u s'):
  Q (.ref s.heap.objs.size) {s with heap:=s.heap.push (bA xs.toArray 0),toks:=tk}:=
 hq _ _ _ (.pushF _ tk) (w.pushF _) ⟨_,rfl,.inr rfl,_,_,bF _,hl,r.mono ((aJ.pushF (bA xs.toArray 0) 0).k w)⟩
theorem wp (vs vs':Array Value):vs++vs'=(vs.toList++vs'.toList).toArray:=by simp
theorem F9:t3 P (DF P (binaryOp .Add)) bw (RV P):=fun A env g J s x x' t t' y Q E rm w q q' e hq=>by
 unfold bw at e
 cases e1:i7 t with
 |some i=>
  rw [e1] at e
  obtain ⟨j,e2,e⟩:=aB e
  obtain ⟨p,rfl⟩:=q.i e1
  obtain ⟨p',rfl⟩:=q'.i e2
  cases e;exact PySem.P.add_int (dC w hq)
 |none=>cases e2:rJ t with
  |some a=>
   rw [e1,e2] at e
   obtain ⟨b,e3,e⟩:=aB e
   obtain ⟨⟨h1,_⟩,p,rfl⟩:=q.s e2
   obtain ⟨⟨h3,_⟩,p',rfl⟩:=q'.s e3
   obtain ⟨hl,rfl⟩:=fm e
   exact add_str (fun t' tk=>hq _ _ g (.toks g s tk) w ⟨⟨qx h1 h3,hl⟩,_,rfl⟩) (le_trans (by have:(a++b).length=a.length+b.length:=Array.size_append;lia -abstractProof) (bj hl))
  |none=>cases e3:oQ t with
   |some ts=>
    rw [e1,e2,e3] at e
    obtain ⟨us,e4,e⟩:=aB e
    obtain ⟨hl,rfl⟩:=fm e
    have qt:=q.tu e3
    have qu:=q'.tu e4
    obtain ⟨a,rfl,f,vs,n,g1,l1,r1⟩:=id qt
    obtain ⟨a',rfl,f',vs',n',g2,l2,r2⟩:=id qu
    by_cases z1:vs.isEmpty=true
    .obtain rfl:=te r1 z1
     exact concat_meets ⟨_,g1,rfl⟩ ⟨_,g2,rfl⟩ noFill_tuple_add seq_tuple_add F.slot_tuple_add F.entry_tuple_add (F.args_tuple_add_2 _ _) (tuple_addW0 a a' vs vs' n n' none none #[] #[] z1) ⟨g1,g2,hq _ s g (.refl g s) w qu⟩
    .by_cases z2:vs'.isEmpty=true
     .obtain rfl:=te r2 z2
      rw [append_nil] at hq
      exact concat_meets ⟨_,g1,rfl⟩ ⟨_,g2,rfl⟩ noFill_tuple_add seq_tuple_add F.slot_tuple_add F.entry_tuple_add (F.args_tuple_add_2 _ _) (tuple_addW1 a a' vs vs' n n' none none #[] #[] z1 z2) ⟨g1,g2,hq _ s g (.refl g s) w qt⟩
     .refine PySem.P.add_tuple g1 g2 z1 z2 ?_ (bj (tX r1 r2 hl))
      rw [wp]
      exact uf (tk:=s.toks) w (aZ.append r2 r1) hl hq
   |none=>
    rw [e1,e2,e3] at e
    obtain ⟨ts,us,e4,e5,e⟩:=bz e
    obtain ⟨hl,rfl⟩:=fm e
    obtain ⟨a,rfl,vs,n,g1,l1,r1⟩:=q.ls e4
    obtain ⟨a',rfl,vs',n',g2,l2,r2⟩:=q'.ls e5
    refine PySem.P.add_list g1 g2 ?_ (bj (tX r1 r2 hl))
    rw [wp]
    exact j6 (tk:=s.toks) w (aZ.append r2 r1) hl hq
theorem F4:t3 P (DF P (binaryOp .Sub)) gF (RV P):=fun A env g J s x x' t t' y Q E rm w q q' e hq=>by
 obtain ⟨i,j,p,p',rfl,rfl,e⟩:=dP q q' e
 cases e;exact PySem.P.sub_int (dC w hq)
theorem tT {α:Type}{c:Bool}{x y:α}(h:(bif c then none else some x)=some y):c=false/\x=y:=by
 cases c with
 |true=>cases h
 |false=>exact ⟨rfl,Option.some.inj h⟩
theorem dD {α:Type}{c:Bool}{x y:α}(h:(bif c then some x else none)=some y):c=true/\x=y:=by
 cases c with
 |true=>exact ⟨rfl,Option.some.inj h⟩
 |false=>cases h
theorem F8:t3 P (DF P (binaryOp .FloorDiv)) dY (RV P):=fun A env g J s x x' t t' y Q E rm w q q' e hq=>by
 unfold dY at e
 obtain ⟨i,j,p,p',rfl,rfl,e1⟩:=dP q q' e
 obtain ⟨c,rfl⟩:=tT e1
 obtain ⟨c1,c2⟩:=Bool.or_eq_false_iff.mp c
 exact floordiv_int (beq_eq_false_iff_ne.mp c1) (dC w hq) (.inl (PyProof.noPylong_small (Nat.lt_of_not_le fun q=>by rw [ble_eq_true_of_le q] at c2;cases c2)))
theorem F7:t3 P (DF P (binaryOp .Mod)) bZ (RV P):=fun A env g J s x x' t t' y Q E rm w q q' e hq=>by
 unfold bZ at e
 obtain ⟨i,j,p,p',rfl,rfl,e1⟩:=dP q q' e
 obtain ⟨c,rfl⟩:=tT e1
 exact mod_int' (beq_eq_false_iff_ne.mp c) (dC w hq)
theorem yw {i:Int}(h:sm i=true):i.natAbs<=1000000000:=le_of_ble_eq_true h
theorem vn {i:Int}(h:sm i=true):Builtin.Int.intBits i<=64:=by
 have q:(i.natAbs:Int)<=1000000000:=cc (yw h)
 exact intBits_le_64 (Int.neg_lt_of_neg_lt (Int.lt_of_le_of_lt (Int.le_trans (Int.natAbs_neg i▸le_natAbs) q) (by decide))) (Int.lt_of_le_of_lt (Int.le_trans le_natAbs q) (by decide))
theorem F6:t3 P (DF P (binaryOp .Mult)) hU (RV P):=fun A env g J s x x' t t' y Q E rm w q q' e hq=>by
 unfold hU at e
 obtain ⟨i,j,p,p',rfl,rfl,e1⟩:=dP q q' e
 obtain ⟨c,rfl⟩:=dD e1
 exact PySem.P.mul_int (dC w hq) ((Bool.or_eq_true_iff.mp c).elim (fun q=>.of_left (vn q)) fun q=>.of_right (vn q))
theorem aq.neg {e:Expr}{p:PE}{pos:Pos}(h:aq P B C e p (RX P)):aq P B C (.UnaryOp .USub e pos) (p1 qU p) (RV P):=
 (h.xy.op1 (N:=Fd P (unaryOp .USub)) mD fun A env g J s x t y Q E rm w r e hq=>by
  obtain ⟨i,e1,e2⟩:=aB e
  obtain ⟨p,rfl⟩:=r.i e1
  cases e2;exact PySem.P.neg_int (dC w hq)).map fun _ _ _ _ _=>wpAny_UnaryOp
end
section
variable {P:Pg} {B:bG} {C:Ct}
theorem nh {i:Int}{n k:Nat}(h:seqIndex? i n=some k):(0<=i/\k=i.toNat/\i < n)\/(i < 0/\-(n:Int)<=i/\k=(i+n).toNat):=by
 have h:(if (decide (0<=(if i < 0 then i+n else i))&&decide ((if i < 0 then i+n else i) < (n:Int)))=true then some (if i < 0 then i+n else i).toNat else none)=some k:=h
 by_cases q:i < 0
 .rw [if_pos q] at h
  cases c:decide (0<=i+(n:Int))&&decide (i+(n:Int) < (n:Int)) with
  |false=>rw [c] at h;cases h
  |true=>
   rw [c] at h;cases h
   exact .inr ⟨q,by have:=of_decide_eq_true (cA c);lia -abstractProof,rfl⟩
 .rw [if_neg q] at h
  cases c:decide (0<=i)&&decide (i < (n:Int)) with
  |false=>rw [c] at h;cases h
  |true=>
   rw [c] at h;cases h
   exact .inl ⟨of_decide_eq_true (cA c),rfl,of_decide_eq_true (cz c)⟩
theorem Ba {p:Str}{c:Nat}{k:Option Nat}(g:PyData.strOk p=true)(hv:k.bind (p.cps[·]?)=some c):PyData.strOk ⟨#[c]⟩=true:=by
 obtain ⟨k,_,hk⟩:=Option.bind_eq_some_iff.mp hv
 simp only [PyData.strOk,Array.all_eq_true,decide_eq_true_eq] at g ⊢
 intro j hj
 obtain ⟨hk1,hk2⟩:=Array.getElem?_eq_some_iff.mp hk
 have:=g k hk1
 simp at hj;subst hj
 simpa [hk2] using this
theorem aZ.size {g:Gh}{h:Heap}{ts:List T}{vs:Array Value}(r:aZ P g h ts vs.toList):vs.size=ts.length:=r.length
theorem si {i:Int}(h:sm i=true):-(2 ^ 63:Int)<=i/\i < 2 ^ 63:=
 have q:(i.natAbs:Int)<=1000000000:=cc (yw h)
 ⟨Int.neg_le_of_neg_le (Int.le_trans (Int.le_trans (Int.natAbs_neg i▸le_natAbs) q) (by decide)),Int.lt_of_le_of_lt (Int.le_trans le_natAbs q) (by decide)⟩
inductive JC (i:Int) (ts:List T) (y:T):Prop
 |mk (k:Nat) (s:sm i=true) (hk:seqIndex? i ts.length=some k) (hx:ts[k]?=some y)
theorem tW {i:Int}{ts:List T}{y:T}(h:AS i ts=some y):JC i ts y:=by
 unfold AS at h
 cases q:sm i with
 |false=>rw [q] at h;cases h
 |true=>rw [q] at h;obtain ⟨k,h1,h2⟩:=aB h;exact ⟨k,q,h1,h2⟩
theorem qp.rp {g:Gh}{h:Heap}:∀{ns:List Int} {vs:List Value},qp ns vs->aZ P g h (ns.map T.int) vs
 | [],_,r=>r
 |_::_,_,⟨t,vs',e,r⟩=>⟨_,vs',e,⟨t,rfl⟩,qp.rp r⟩
theorem sY {A:Around}{g:Gh}{J:Sg}{s:Shared}{ts:List T}{l:Addr}{items:Array Value}{i:Int}{p:Tok}{y:T}{Q:Value->Shared->Prop}{E:Value->Shared->Prop}(w:bC P g s.heap J)(hl:s.heap.IsList l items)(r:aZ P g s.heap ts items.toList)(e:AS i ts=some y)
  (hq:∀u s' g',aJ g s g' s'->bC P g' s'.heap J->Rp P g' s'.heap y u->Q u s'):wpAny P.M A (getItem (.ref l) (.int i p)) Q E s:=by
 obtain ⟨k,hs,hk,hx⟩:=tW e
 obtain ⟨u,hu,hR⟩:=r.get hx
 rw [Array.getElem?_toList] at hu
 have hlen:items.size=ts.length:=r.length
 rcases nh hk with ⟨h0,rfl,h1⟩ | ⟨h0,h1,rfl⟩
 .exact wpAny_getItem_list hl h0 (si hs).2 hu (hq u s g (.refl g s) w hR)
 .rw [<-hlen] at h1 hu
  exact wpAny_getItem_list_neg hl h0 h1 (si hs).1 (x:=u) hu (hq u s g (.refl g s) w hR)
noncomputable abbrev AG (P:Pg)(value slice:Expr):W2 Value:=fun A _ x y Q E s=>wpAny P.M A (subscriptTail value slice x y) Q E s
theorem yX {value slice:Expr}(hs:∀x y,subscripted slice false x y=operate [x,y] (getItem x y)):t3 P (AG P value slice) aL (RV P):=fun A env g J s x x' t t' y Q E rm w q q' e hq=>by
 obtain ⟨i,e1,e2⟩:=aB e
 obtain ⟨p,rfl⟩:=q'.i e1
 cases e3:gO t with
 |some ts=>
  rw [e3] at e2
  rcases q.sq e3 with ⟨a,vs,n,rfl,h1,l,r⟩ | ⟨a,vs,n,rfl,h1,l,r⟩
  .obtain ⟨k,h2,hk,hx⟩:=tW e2
   obtain ⟨u,hu,hR⟩:=r.get hx
   rw [Array.getElem?_toList] at hu
   rw [show ts.length=vs.size from r.length.symm] at hk
   exact tail_any ⟨_,h1,rfl⟩ slot_tuple_getitem.lookup (PySem.P.getItem_tuple h1 (si h2).1 (si h2).2 hk hu (hq u s g (.refl g s) w hR)) (hs _ _)
  .have hl:s.heap.IsList a vs:=⟨_,h1,rfl,n,rfl⟩
   exact tail_any hl.typeIs slot_list_getitem.lookup (sY w hl r e2 hq) (hs _ _)
 |none=>cases e4:E7 t with
  |some ns=>
   rw [e3,e4] at e2
   obtain ⟨a,items,rfl,⟨o,g1,g2⟩,_,r⟩:=q.n e4
   have hl:s.heap.IsList a items:=⟨o,(w.base _ _ g1).2,g2⟩
   exact tail_any hl.typeIs slot_list_getitem.lookup (sY w hl r.rp e2 hq) (hs _ _)
  |none=>
   rw [e3,e4] at e2
   obtain ⟨z,e5,e6⟩:=aB e2
   obtain ⟨⟨g1,g2⟩,p',rfl⟩:=q.s e5
   unfold vk at e6
   cases h2:sm i with
   |false=>rw [h2] at e6;cases e6
   |true=>
    rw [h2] at e6
    obtain ⟨c,hv,rfl⟩:=av e6
    have hlo:=si h2
    exact tail_any (typeIs_str s z p') slot_str_getitem.lookup (getItem_str (by simp;lia -abstractProof) hv (hq _ _ g (.toks g s _) w ⟨⟨Ba g1 hv,show (1:Nat)<=lim by decide⟩,_,rfl⟩)) (hs _ _)
theorem aq.idx {a i:Expr}{pa pi:PE}{pos:Pos}(hs:∀x y,subscripted i false x y=operate [x,y] (getItem x y))(ha:aq P B C a pa (RX P))(hi:aq P B C i pi (RX P)):aq P B C (.Subscript a i pos) (p2 aL pa pi) (RV P):=
 (ha.op2 hi.xy mD (yX hs)).map fun _ _ _ _ _=>Subscript_
theorem aZ.cut {g:Gh}{h:Heap}{ts:List T}{xs:List Value}(r:aZ P g h ts xs)(lo hi:Option Int):aZ P g h (Mine.cut lo hi ts) (Mine.cut lo hi xs):=by
 unfold Mine.cut
 rw [r.length]
 exact (r.drop _).take _
theorem fj {α:Type}(lo hi:Option Int)(xs:List α):(cut lo hi xs).length<=xs.length:=le_trans (List.length_take_le' _ _) (by rw [length_drop];exact sub_le _ _)
theorem Cx {α:Type}{lo hi:Option Int}{xs:List α}{a:α}(h:a∈cut lo hi xs):a∈xs:=List.mem_of_mem_drop (List.mem_of_mem_take h)
theorem yT (items:Array Value)(lo hi:Option Int):slicePick items lo hi none=(cut lo hi items.toList).toArray:=by
 rw [slicePick_plain];simp [cut]
theorem CB (n:Nat)(i:Int):clipAt n i<=n:=Int.toNat_le.mpr (Int.max_le.mpr ⟨natCast_nonneg n,Int.min_le_right _ _⟩)
theorem vf (lo hi:Option Int)(n:Nat):Builtin.Slice.sliceAdjust lo hi 1 (n:Int)=(((lo.elim 0 (clipAt n):Nat):Int),((hi.elim n (clipAt n):Nat):Int)):=by
 unfold Builtin.Slice.sliceAdjust
 have h1:¬((1:Int) < 0):=by lia -abstractProof
 simp only [h1,if_false]
 have one:∀i:Int,(if i < 0 then max (i+(n:Int)) 0 else min i (n:Int))=((clipAt n i:Nat):Int):=fun i=>by
  rw [clipAt_cast]
  by_cases q:i < 0
  .rw [if_pos q,if_pos q,Int.min_eq_left (Int.add_le_of_le_sub_right (by rw [Int.sub_self];exact Int.le_of_lt q)),Int.max_comm]
  .rw [if_neg q,if_neg q,Int.max_eq_right (Int.le_min.mpr ⟨Int.not_lt.mp q,natCast_nonneg n⟩)]
 cases lo<;>cases hi<;>simp [one]
theorem uu (a b:Nat):Builtin.Slice.slicePlaces (a:Int) (b:Int) 1=b - a:=by
 unfold Builtin.Slice.slicePlaces
 rw [if_pos (show (1:Int) > 0 by decide)]
 by_cases q:(a:Int) < b
 .rw [if_pos q,ediv_one];lia
 .rw [if_neg q,Nat.sub_eq_zero_of_le (Int.ofNat_le.mp (Int.not_lt.mp q))];rfl
theorem wV (xs:Array Value)(a m:Nat):((List.range m).filterMap fun (k:Nat)=>xs[((a:Int)+(k:Int) * 1).toNat]?)=(xs.toList.drop a).take m:=by
 have e:(fun (k:Nat)=>xs[((a:Int)+(k:Int) * 1).toNat]?)=fun k=>xs[a+k]?:=by
  funext k
  have:((a:Int)+(k:Int) * 1).toNat=a+k:=by lia -abstractProof
  rw [this]
 rw [e]
 have:=pick_run xs a m
 rw [List.filterMap_map] at this
 exact this
theorem jH {prog:Program}{w:World}{A:Around}{E:Value->Shared->Prop}{s:Shared}{v:Value}{i:Option Int}{Q:Option Int->Shared->Prop}(p:IsPart v i)(h:Q i s):wpAny (model prog w) A (Builtin.Slice.slicePartIndex v) Q E s:=by
 cases p with
 |none=>exact slicePart_none h
 |int i t=>exact slicePart_int h
theorem fy {prog:Program}{w:World}{A:Around}{E:Value->Shared->Prop}{s:Shared}{t sl:Addr}{items:Array Value}{n:Nat}{vl vu:Value}{lo hi:Option Int}{Q:Value->Shared->Prop}(ht:IsT s.heap t items n)(hs:s.heap.IsSliceOf sl vl vu .none)(pl:IsPart vl lo)(pu:IsPart vu hi)
  (h1:cut lo hi items.toList=items.toList->Q (.ref t) s)
  (h:Q (.ref s.heap.objs.size) {s with heap:=s.heap.push {cls:=.type "tuple",data:=.seq (cut lo hi items.toList).toArray}})
  (hsz:items.size<=sizeLine):wpAny (model prog w) A (getItem (.ref t) (.ref sl)) Q E s:=by
 have hT:s.TypeIs (.ref t) "tuple":=⟨_,ht,rfl⟩
 have hI:IsTup s.heap t items:=⟨_,ht,rfl,n,rfl⟩
 have hdrop:sizeOk (.seq (cut lo hi items.toList).toArray):=by
  show (cut lo hi items.toList).toArray.size<=sizeLine
  rw [size_toArray]
  have:=fj lo hi items.toList
  simp at this;lia -abstractProof
 obtain ⟨os,hos,hcs,hds⟩:=id hs
 have hTs:s.TypeIs (.ref sl) "slice":=⟨os,hos,hcs⟩
 unfold getItem
 try with_reducible refine wpAny_holding ?_
 first |refine wpAny_bind (wpAny_pure ?_) |skip
 refine wpAny_bind (wpAny_sequenceKey hT (by decide) ?_)
 refine wpAny_bind (wpAny_callSpecial?_slot (name:=ofString "__getitem__") hT slot_tuple_getitem
  (wpAny_call_entry slot_tuple_getitem hT entry_tuple_getitem ?_ (args_tuple_getitem _ _)))
 show wpAny _ _ (Builtin.Tuple.tupleItemsOf (.ref t) >>=_) _ _ s
 refine wpAny_bind (tupleItemsOf_ hI ?_)
 refine wpAny_bind (wpAny_typeOf hTs ?_)
 rw [if_pos (by decide)]
 have app:∀(Q':Int×Int×Nat->Shared->Prop) (E':Value->Shared->Prop) (A':Around),Q' (((lo.elim 0 (clipAt items.size):Nat):Int),1,hi.elim items.size (clipAt items.size) - lo.elim 0 (clipAt items.size)) s->wpAny (model prog w) A' (Builtin.Slice.sliceApplied (.ref sl) (pure (items.size:Int))) Q' E' s:=fun Q' E' A' hq=>by
  unfold Builtin.Slice.sliceApplied Builtin.Slice.sliceFields
  refine wpAny_bind (wpAny_bind (wpAny_field hos hds (x:=vl) rfl (wpAny_bind (wpAny_field hos hds (x:=vu) rfl (wpAny_bind (wpAny_field hos hds (x:=.none) rfl (wpAny_pure ?_)))))))
  refine wpAny_bind (slicePart_none ?_)
  show wpAny _ _ (if ((1:Int)==0)=true then _ else _) _ _ s
  rw [if_neg (by decide)]
  refine wpAny_bind (jH pl (wpAny_bind (jH pu (wpAny_bind (wpAny_pure ?_)))))
  show wpAny _ _ (match Builtin.Slice.sliceAdjust lo hi 1 (items.size:Int) with | (lo,hi)=>pure (lo,(1:Int),Builtin.Slice.slicePlaces lo hi 1)) _ _ s
  rw [vf]
  show wpAny _ _ (pure (_,(1:Int),Builtin.Slice.slicePlaces _ _ 1)) _ _ s
  rw [uu]
  exact wpAny_pure hq
 refine wpAny_bind (app _ _ _ ?_)
 dsimp only
 have ecut:cut lo hi items.toList=(items.toList.drop (lo.elim 0 (clipAt items.size))).take (hi.elim items.size (clipAt items.size) - lo.elim 0 (clipAt items.size)):=by simp [cut]
 by_cases hw:(((lo.elim 0 (clipAt items.size):Nat):Int)==0&&(1:Int)==1&&(hi.elim items.size (clipAt items.size) - lo.elim 0 (clipAt items.size))==items.size)=true
 .have hq:Q (.ref t) s:=h1 (by
   simp only [and_eq_true,beq_iff_eq] at hw
   have z:lo.elim 0 (clipAt items.size)=0:=by lia -abstractProof
   rw [ecut,hw.2,z,drop_zero,List.take_of_length_le (by simp)])
  rw [if_pos hw]
  refine wpAny_bind ?_
  unfold Builtin.Tuple.tupleIsExact
  refine wpAny_bind (wpAny_typeOf hT (wpAny_pure ?_))
  rw [if_pos (by decide)]
  first
   |exact wpAny_bind (wpAny_rule (wpAny_pure ⟨_,rfl,wpAny_pure hq⟩))
   |exact wpAny_bind (wpAny_rule (wpAny_bind (wpAny_pure (wpAny_pure ⟨_,rfl,wpAny_pure hq⟩))))
   |exact wpAny_bind (wpAny_rule (wpAny_bind (wpAny_pure (wpAny_pure ⟨_,rfl,hq⟩))))
   |exact wpAny_bind (wpAny_rule (wpAny_pure ⟨_,rfl,hq⟩))
 .rw [if_neg hw,wV,<-ecut]
  first
   |exact wpAny_bind (m:=Builtin.Tuple.tupleExact _) (wpAny_newObj_type (wpAny_pure ⟨_,rfl,wpAny_pure h⟩) hdrop)
   |exact wpAny_bind (m:=Builtin.Tuple.tupleExact _) (wpAny_newObj_type (wpAny_bind (wpAny_pure (wpAny_pure ⟨_,rfl,wpAny_pure h⟩))) hdrop)
   |exact wpAny_bind (wpAny_bind (m:=Builtin.Tuple.tupleExact _) (wpAny_newObj_type (wpAny_pure (wpAny_pure ⟨_,rfl,wpAny_pure h⟩)) hdrop))
   |exact wpAny_bind (wpAny_bind (m:=Builtin.Tuple.tupleExact _) (wpAny_newObj_type (wpAny_pure ⟨_,rfl,wpAny_pure h⟩) hdrop))
theorem vX (lo hi:Option Int)(n:Nat):Builtin.Str.strSliceIndices lo hi 1 n=(List.range (hi.elim n (clipAt n) - lo.elim 0 (clipAt n))).map (lo.elim 0 (clipAt n)+·):=by
 have:Builtin.Str.strSliceIndices lo hi 1 n=sliceRange (sliceBounds lo hi none n).1 (sliceBounds lo hi none n).2.1 (sliceBounds lo hi none n).2.2:=rfl
 rw [this,sliceBounds_plain,sliceRange_one]
theorem wU (x:Str)(lo hi:Option Int):(Builtin.Str.strSliceIndices lo hi 1 x.length).filterMap (x.cps[·]?)=cut lo hi x.cps.toList:=by
 rw [vX,pick_run];simp [cut,Str.length]
theorem uQ (x:Str)(lo hi:Option Int)(h:(Builtin.Str.strSliceIndices lo hi 1 x.length).length=x.length):f6 lo hi x=x:=by
 have hl:=h
 rw [vX] at hl
 simp only [length_map,length_range] at hl
 have hle:hi.elim x.length (clipAt x.length)<=x.length:=by
  cases hi with
  |none=>exact le_refl _
  |some i=>exact CB _ i
 have e:cut lo hi x.cps.toList=x.cps.toList:=by
  unfold cut
  simp only [Array.length_toList]
  change _=_
  by_cases hx:x.length=0
  .have:x.cps.toList=[]:=by have:x.cps.size=0:=hx;simpa using this
   rw [this];simp
  .have z:lo.elim 0 (clipAt x.cps.size)=0:=by show lo.elim 0 (clipAt x.length)=0;lia
   have z':hi.elim x.cps.size (clipAt x.cps.size)=x.cps.size:=by show hi.elim x.length (clipAt x.length)=x.length;lia
   rw [z,z',drop_zero,List.take_of_length_le (by simp)]
 unfold f6
 rw [e]
theorem wE {x:Str}(h:PyData.strOk x=true)(lo hi:Option Int):PyData.strOk (f6 lo hi x)=true:=by
 simp only [PyData.strOk,Array.all_eq_true',decide_eq_true_eq] at h ⊢
 intro c hc
 exact h c (Array.mem_toList_iff.mp (Cx (by simpa [f6] using hc)))
set_option tactic.hygienic true in
theorem mz {prog:Program}{w:World}{A:Around}{E:Value->Shared->Prop}{s:Shared}{x:Str}{t:Tok}{sl:Addr}{vl vu:Value}{lo hi:Option Int}{Q:Value->Shared->Prop}(hs:s.heap.IsSliceOf sl vl vu .none)(pl:IsPart vl lo)(pu:IsPart vu hi)
  (h:∀t' tk,Q (.str (f6 lo hi x) t') {s with toks:=tk})(hsz:x.length<=lim):wpAny (model prog w) A (getItem (.str x t) (.ref sl)) Q E s:=by
 have part:∀{v:Value} {i:Option Int},IsPart v i->∃p:Option (Int×Tok),v=partValue p/\p.map (·.1)=i:=fun p=>by
  cases p with
  |none=>exact ⟨none,rfl,rfl⟩
  |int i t=>exact ⟨some (i,t),rfl,rfl⟩
 obtain ⟨l,rfl,rfl⟩:=part pl
 obtain ⟨u,rfl,rfl⟩:=part pu
 refine wpAny_getItem_str_slice (l:=l) (u:=u) (st:=none) ?_ rfl ?_
 .obtain ⟨o,e1,e2,e3⟩:=hs
  exact ⟨o,e1,e2,e3⟩
 .unfold sliceMade
  have e:slicePicked x l u none=Builtin.Str.strSliceIndices (l.map (·.1)) (u.map (·.1)) 1 x.length:=rfl
  split
  .rename_i hw
   simp only [e,and_eq_true,beq_iff_eq] at hw
   have:=h t s.toks
   rw [uQ x _ _ hw.2] at this
   exact this
  .rw [e,wU]
   exact ⟨by
    have:=fj (l.map (·.1)) (u.map (·.1)) x.cps.toList
    show (cut (l.map (·.1)) (u.map (·.1)) x.cps.toList).toArray.size<=sizeLine
    simp at this ⊢
    have h2:x.cps.size<=lim:=hsz
    simp only [lim,sizeLine] at *
    lia -abstractProof,h s.toks (s.toks+1)⟩
abbrev tZ (P:Pg)(B:bG)(C:Ct)(e:Option Expr)(p:PO):Prop:=dG P B C (P.W fun env=>valueOrNone (evalOpt e env)) p fun _ _ _ i x=>IsPart x i
theorem tZ.none:tZ P B C Option.none jt:=.now fun _ _ _ _ _ _ _ _ _ _ _ _ hq=>wpAny_pure (hq _ _ _ rfl .none)
theorem tZ.some {e:Expr}{p:PE}(h:aq P B C e p (RX P)):tZ P B C (Option.some e) (p1 cZ p):=
 (h.xy.op1 (N:=fun A _ x Q E s=>Q x s) (fun _ _ _ _ _ _ _ r=>r) fun A env g J s x t y Q E rm w q e hq=>by
  obtain ⟨i,e1,e2⟩:=aB e
  obtain ⟨p,rfl⟩:=q.i e1
  cases e2;exact hq _ s g (.refl g s) w (.int i p)).map fun _ _ _ _ _ h=>h
theorem Ac {lo hi:Option Int}{xs:List T}{ys:List Value}(hl:ys.length=xs.length)(h:cut lo hi ys=ys):cut lo hi xs=xs:=by
 have e:=congrArg List.length h
 unfold cut at e ⊢
 rw [length_take,length_drop,hl] at e
 cases xs with
 |nil=>simp
 |cons y ys=>
  generalize lo.elim 0 (clipAt (y::ys).length)=a at *
  generalize hi.elim (y::ys).length (clipAt (y::ys).length)=b at *
  have hp:0 < (y::ys).length:=succ_pos _
  have z:a=0:=Nat.eq_zero_of_not_pos fun q=>eR (Nat.sub_lt hp q) (le_trans (le_of_eq e.symm) (Nat.min_le_right _ _))
  subst z
  exact List.take_of_length_le (le_trans (le_of_eq e.symm) (min_le_left _ _))
noncomputable abbrev Fj (vl vu:Value):Obj:={cls:=.type "slice",data:=.fields #[vl,vu,.none]}
theorem xr {z:Str}(lo hi:Option Int)(h:z.length<=lim):(f6 lo hi z).length<=lim:=le_trans (by
 show (cut lo hi z.cps.toList).toArray.size<=_
 rw [size_toArray];exact fj lo hi _) h
theorem D0 {A:Around}{g:Gh}{J:Sg}{s:Shared}{t y:T}{x vl vu:Value}{lo hi:Option Int}{value slice:Expr}{Q:Value->Shared->Prop}{E:Value->Shared->Prop}(w:bC P g s.heap J)(q:kW P g s.heap t x)(pl:IsPart vl lo)(pu:IsPart vu hi)(e:bR t lo hi=some y)
  (hs:∀x i,subscripted slice false x i=operate [i,x] (getItem x i))(hq:∀u s' g',aJ g s g' s'->bC P g' s'.heap J->Rp P g' s'.heap y u->Q u s'):
  wpAny P.M A (subscriptTail value slice x (.ref s.heap.objs.size)) Q E {s with heap:=s.heap.push (Fj vl vu)}:=by
 have p:aJ g s g {s with heap:=s.heap.push (Fj vl vu),toks:=s.toks}:=.push _ _
 have w':bC P g (s.heap.push (Fj vl vu)) J:=w.push _
 have hsl:=Heap.IsSliceOf.new s.heap vl vu .none
 have q':=(kW.post w p q).y
 have hq':∀u s' g',aJ g {s with heap:=s.heap.push (Fj vl vu)} g' s'->bC P g' s'.heap J->Rp P g' s'.heap y u->Q u s':=fun u s' g' p'=>hq u s' g' (p.trans p')
 unfold bR at e
 cases e1:oQ t with
 |some ts=>
  rw [e1] at e;cases e
  have qt:=q'.tu e1
  obtain ⟨l,rfl,f,vs,n,g1,g3,g2⟩:=id qt
  have hl:=le_trans (fj lo hi ts) g3
  refine tail_any ⟨_,g1,rfl⟩ slot_tuple_getitem.lookup (fy (lo:=lo) (hi:=hi) g1 hsl pl pu (fun e=>?_) (uf (tk:=s.toks) w' (g2.cut lo hi) hl hq') (bj (g2.size▸g3))) (hs _ _)
  exact hq' _ _ g (.refl _ _) w' (by rw [Ac g2.length e];exact qt)
 |none=>cases e2:f8 t with
  |some ts=>
   rw [e1,e2] at e;cases e
   obtain ⟨l,rfl,vs,n,g1,g3,g2⟩:=q'.ls e2
   have hl:=le_trans (fj lo hi ts) g3
   refine tail_any ⟨_,g1,rfl⟩ slot_list_getitem.lookup (wpAny_getItem_list_slice (lo:=lo) (hi:=hi) (st:=none) ⟨_,g1,rfl,n,rfl⟩ hsl pl pu .none (by simp) ?_ (bj (g2.size▸g3))) (hs _ _)
   rw [yT]
   exact j6 (tk:=s.toks) w' (g2.cut lo hi) hl hq'
  |none=>
   rw [e1,e2] at e
   obtain ⟨z,e3,e4⟩:=aB e
   obtain ⟨⟨g1,g2⟩,p',rfl⟩:=q'.s e3
   cases e4
   exact tail_any (typeIs_str _ z p') slot_str_getitem.lookup (mz hsl pl pu (fun t' tk=>hq' _ _ g (.toks _ _ tk) w' ⟨⟨wE g1 lo hi,xr lo hi g2⟩,_,rfl⟩) g2) (hs _ _)
theorem aq.slc {a:Expr}{lo hi:Option Expr}{pa:PE}{pl ph:PO}{p pos:Pos}(ha:aq P B C a pa (RX P))(hl:tZ P B C lo pl)(hh:tZ P B C hi ph):aq P B C (.Subscript a (.Slice lo hi Option.none p) pos) (p3 bR pa pl ph) (RV P):=
 (ha.bind (N:=fun A env x Q E s=>wpAny P.M A (eval (.Slice lo hi Option.none p) env) (fun y s₂=>wpAny P.M A (subscriptTail a (.Slice lo hi Option.none p) x y) Q E s₂) E s) (F:=fun c V k t J=>pl c V J fun b J=>ph c V J fun x J=>up (bR t b x) J k) (R':=RV P) mD
  fun n A env g ga V J s s₁ x t k Q E p X r hb hq=>by
   rw [arm_eval_Slice]
   refine wpAny_bind (hl n A env ga V J s₁ _ _ _ X hb fun vl s₂ gb l J2 ea pb w2 k2=>?_)
   refine wpAny_bind (wpAny_holding (hh n A env gb V J2 s₂ _ _ _ (X.post pb w2) (fun q=>hb (ea.trans q)) fun vu s3 gc h J3 eb pc w3 k3=>?_))
   refine wpAny_bind (wpAny_holding (wpAny_pure (wpAny_newObj_type ?_ (by show (3:Nat)<=sizeLine+2;decide))))
   obtain ⟨y,e⟩:=ch fun q=>hb (ea.trans (eb.trans q))
   exact D0 w3 (kW.post w2 pc (kW.post X.g pb r)) k2 k3 e (fun _ _=>rfl) fun u s' g' p w r=>hq u s' g' y J3 (ea.trans (eb.trans (by rw [e];rfl))) ((pb.trans pc).trans p) w r).map fun _ _ _ _ _=>Subscript_
end
structure aW (VVV W:List Addr) (g:Gh) (s:Shared) (g':Gh) (s':Shared):Prop where
 st:∃h' tk,s'={s with heap:=h',toks:=tk}
 keep:∀a o,s.heap.get? a=some o->¬g.Z a->¬g.O a->a∉W->s'.heap.get? a=some o
 back:∀a,a∉VVV->s'.heap.get? a=none->s.heap.get? a=none
 F:∀a,g.F a->g'.F a
 Fn:∀a,g'.F a->g.F a\/g.O a\/s.heap.get? a=none
 Zn:∀a,g'.Z a->g.Z a\/s.heap.get? a=none
 On:∀a,g'.O a->g.O a\/s.heap.get? a=none
 sp:g'.sp=g.sp
 sa:g'.sa=g.sa
structure bV (VVV W:List Addr) (g:Gh) (s:Shared) (g':Gh) (s':Shared):Prop where
 st:∃h' tk,s'={s with heap:=h',toks:=tk}
 keep:∀a o,s.heap.get? a=some o->¬g.Z a->a∉W->s'.heap.get? a=some o
 back:∀a,a∉VVV->s'.heap.get? a=none->s.heap.get? a=none
 F:∀a,g.F a->g'.F a
 Fn:∀a,g'.F a->g.F a\/s.heap.get? a=none
 Zn:∀a,g'.Z a->g.Z a\/s.heap.get? a=none
 o:g'.o=g.o
 sp:g'.sp=g.sp
 sa:g'.sa=g.sa
inductive IH (P:Pg) (g:Gh) (h:Heap) (g':Gh) (h':Heap) (t:T) (x:Value):Prop
 |mk (a:Addr) (e:x=.ref a) (n:g.O a\/h.get? a=none) (f:¬g'.F a) (z:¬g'.Z a) (r:fR P g' h' a t)
def G6 (P:Pg)(fr:Bool)(g:Gh)(h:Heap)(g':Gh)(h':Heap)(t:T)(x:Value):Prop:=match fr with
 |false=>Rp P g' h' t x
 |true=>IH P g h g' h' t x
def Hq (B:bG)(i:Nat)(x:String):Bool:=Option.rec false (fun e=>Option.rec false (fun q=>q.1==ofString x) e) (B.tab[i]?)
def yg (B:bG):Bool:=(Hq B 0 "machine"&&Hq B 4 "rows")||(Hq B 0 "web"&&Hq B 2 "way")
def oX (P:Pg)(B:bG)(fr:Bool)(g:Gh)(h:Heap)(g':Gh)(h':Heap)(t:T)(x:Value):Prop:=G6 P fr g h g' h' t x/\(yg B=true->∀ts,t=.tup ts->Nw (fun l=>g.O l\/h.get? l=none) g' h' x)
def dw (P:Pg)(B:bG)(C:Ct)(fr:Bool)(C':Ct)(W:WP Flow)(p:PS):Prop:=
 ∀n A env g V J s (k:PK aP) (Q:Flow->Shared->Prop) (E:Value->Shared->Prop),At P B C n A env g V J s->p (P.cx n) V J k≠.bad->
  (∀s' g' ρ' J',p (P.cx n) V J k=k ρ' J'->aW [] (own env) g s g' s'->At P B C' n A env g' ρ' J' s'->Q .next s')->
  (∀x s' g' t J',p (P.cx n) V J k=.ret t J'->aW [] (own env) g s g' s'->bC P g' s'.heap J'->oX P B fr g s.heap g' s'.heap t x->Q (.ret x) s')->W A env Q E s
abbrev aR (P:Pg)(B:bG)(C:Ct)(fr:Bool)(C':Ct)(st:Stmt)(p:PS):Prop:=dw P B C fr C' (P.W fun env=>exec st env) p
abbrev fu (P:Pg)(B:bG)(C:Ct)(fr:Bool)(C':Ct)(ss:List Stmt)(p:PS):Prop:=dw P B C fr C' (P.W fun env=>execs ss env) p
section
variable {P:Pg} {B:bG} {C C' C'':Ct} {fr:Bool} {n:Nat} {A:Around} {env:Env} {g g' g1 g2:Gh} {V:aP} {J:Sg} {s s' s₁ s₂:Shared} {h h':Heap}
theorem aJ.toS {W:List Addr}(p:aJ g s g' s'):aW [] W g s g' s':=⟨p.st,fun a o e z _ _=>p.keep a o e z,fun a _=>p.back a,p.F,fun a f=>(p.Fn a f).imp_right .inr,p.Zn,fun a ⟨i,q⟩=>.inl ⟨i,p.o▸q⟩,p.sp,p.sa⟩
theorem aW.b {W:List Addr}(p:aW [] W g s g1 s₁)(a:Addr):s₁.heap.get? a=none->s.heap.get? a=none:=p.back a (fun q=>nomatch q)
theorem aW.trans {VVV W:List Addr}(p:aW [] W g s g1 s₁)(q:aW VVV W g1 s₁ g2 s₂):aW VVV W g s g2 s₂ where
 st:=St.trans p.st q.st
 keep a o e z o' w:=q.keep a o (p.keep a o e z o' w) (fun x=>(p.Zn a x).elim z (ar e)) (fun x=>(p.On a x).elim o' (ar e)) w
 back a v e:=p.b a (q.back a v e)
 F a f:=q.F a (p.F a f)
 Fn a f:=(q.Fn a f).elim (p.Fn a) fun x=>.inr (x.elim (p.On a) fun x=>.inr (p.b a x))
 Zn a f:=(q.Zn a f).elim (p.Zn a) fun x=>.inr (p.b a x)
 On a f:=(q.On a f).elim (p.On a) fun x=>.inr (p.b a x)
 sp:=q.sp.trans p.sp
 sa:=q.sa.trans p.sa
theorem aJ.toE {W:List Addr}(p:aJ g s g' s'):bV [] W g s g' s':=⟨p.st,fun a o e z _=>p.keep a o e z,fun a _=>p.back a,p.F,p.Fn,p.Zn,p.o,p.sp,p.sa⟩
theorem bV.toS {VVV W:List Addr}(p:bV VVV W g s g' s'):aW VVV W g s g' s':=⟨p.st,fun a o e z _=>p.keep a o e z,p.back,p.F,fun a f=>(p.Fn a f).imp_right .inr,p.Zn,fun a ⟨i,q⟩=>.inl ⟨i,p.o▸q⟩,p.sp,p.sa⟩
theorem bV.weak {VVV V' W W':List Addr}(p:bV VVV W g s g' s')(hv:∀a∈VVV,a∈V')(hw:∀a∈W,a∈W'):bV V' W' g s g' s':={p with keep:=fun a o e z n=>p.keep a o e z fun x=>n (hw a x),back:=fun a n=>p.back a fun x=>n (hv a x)}
theorem aW.weak {W W':List Addr}(p:aW [] W g s g' s')(hw:∀a∈W,a∈W'):aW [] W' g s g' s':={p with keep:=fun a o e z q n=>p.keep a o e z q fun x=>n (hw a x)}
theorem bV.trans {VVV W:List Addr}(p:bV [] W g s g1 s₁)(q:bV VVV W g1 s₁ g2 s₂):bV VVV W g s g2 s₂:=
 have b:∀a,s₁.heap.get? a=none->s.heap.get? a=none:=fun a=>p.back a (fun q=>nomatch q)
 ⟨St.trans p.st q.st,fun a o e z w=>q.keep a o (p.keep a o e z w) (fun x=>(p.Zn a x).elim z (ar e)) w,fun a v e=>b a (q.back a v e),fun a f=>q.F a (p.F a f),fun a f=>(q.Fn a f).elim (p.Fn a) fun x=>.inr (b a x),fun a f=>(q.Zn a f).elim (p.Zn a) fun x=>.inr (b a x),q.o.trans p.o,q.sp.trans p.sp,q.sa.trans p.sa⟩
theorem bV.toP {VVV W:List Addr}(p:bV VVV W g s g' s')(hw:∀a∈W,s.heap.get? a=none)(hv:∀a∈VVV,s.heap.get? a=none):aJ g s g' s':=
 ⟨p.st,fun a o e z=>p.keep a o e z fun x=>ar e (hw a x),fun a e=>by
  by_cases x:a∈VVV
  .exact hv a x
  .exact p.back a x e,p.F,p.Fn,p.Zn,p.o,p.sp,p.sa⟩
theorem oX.after {W:List Addr}{t:T}{x:Value}(p:aW [] W g s g1 s₁)(r:oX P B fr g1 s₁.heap g' h' t x):oX P B fr g s.heap g' h' t x:=by
 refine ⟨?_,fun q ts e=>(r.2 q ts e).mono (fun l hl=>hl.elim (p.On l) fun x=>.inr (p.b l x)) (fun _ f=>f) fun _ _ _ e=>e⟩
 have r:=r.1
 cases fr with
 |false=>exact r
 |true=>exact let ⟨a,e,n,f,z,r⟩:=r;⟨a,e,n.elim (p.On a) fun x=>.inr (p.b a x),f,z,r⟩
theorem dw.map {W W':WP Flow}{p:PS}(h:dw P B C fr C' W p)(hW:∀A env Q E s,W A env Q E s->W' A env Q E s):dw P B C fr C' W' p:=fun n A env g V J s k Q E X hb hq hr=>hW A env Q E s (h n A env g V J s k Q E X hb hq hr)
theorem dG.then {α Y:Type}{W:WP α}{p:PG Y}{R:RR α Y}{N:Around->Env->α->(Flow->Shared->Prop)->(Value->Shared->Prop)->Shared->Prop}{F:eO->aP->PK aP->PK Y}(h:dG P B C W p R)
  (hf:∀n A env g g1 V J s s₁ x t (k:PK aP) Q E,aJ g s g1 s₁->At P B C n A env g1 V J s₁->R s.heap g1 s₁.heap t x->F (P.cx n) V k t J≠.bad->
   (∀s' g' ρ' J',F (P.cx n) V k t J=k ρ' J'->aW [] (own env) g1 s₁ g' s'->At P B C' n A env g' ρ' J' s'->Q .next s')->
   (∀x s' g' u J',F (P.cx n) V k t J=.ret u J'->aW [] (own env) g1 s₁ g' s'->bC P g' s'.heap J'->oX P B fr g1 s₁.heap g' s'.heap u x->Q (.ret x) s')->N A env x Q E s₁):
  dw P B C fr C' (fun A env Q E s=>W A env (fun x s₁=>N A env x Q E s₁) E s) (fun c V J k=>p c V J (F c V k)):=fun n A env g V J s k Q E X hb hq hr=>
 h n A env g V J s (F _ V k) _ E X hb fun x s₁ g1 t J1 e p w r=>hf n A env g g1 V J1 s s₁ x t k Q E p (X.post p w) r (fun q=>hb (e.trans q)) (fun s' g' ρ' J' e' p' X'=>hq s' g' ρ' J' (e.trans e') (p.toS.trans p') X')
  fun x s' g' u J' e' p' w' r'=>hr x s' g' u J' (e.trans e') (p.toS.trans p') w' (oX.after (W:=own env) p.toS r')
theorem dw.nil:fu P B C fr C [] am:=fun n A env g V J s k Q E X hb hq hr=>wpAny_execs_nil (hq s g V J rfl (aJ.refl g s).toS X)
theorem dw.cons {st:Stmt}{ss:List Stmt}{p ps:PS}(h:aR P B C fr C' st p)(hs:fu P B C' fr C'' ss ps):fu P B C fr C'' (st::ss) (ah p ps):=fun n A env g V J s k Q E X hb hq hr=>by
 refine wpAny_execs_cons (h n A env g V J s (fun V J=>ps _ V J k) _ E X hb (fun s₁ g1 V1 J1 e p X1=>?_) fun x s₁ g1 t J1 e p w r=>hr x s₁ g1 t J1 e p w r)
 exact hs n A env g1 V1 J1 s₁ k Q E X1 (fun q=>hb (e.trans q)) (fun s' g' ρ' J' e' p' X'=>hq s' g' ρ' J' (e.trans e') (p.trans p') X') fun x s' g' t J' e' p' w' r'=>hr x s' g' t J' (e.trans e') (p.trans p') w' (oX.after p r')
theorem aR.if {t:Expr}{a b:List Stmt}{pt:PT}{pa pb:PS}{pos:Pos}(ht:cN P B C t pt)(h1:fu P B C fr C' a pa)(h2:fu P B C fr C' b pb):aR P B C fr C' (.If t a b pos) (bI pt pa pb):=
 (ht.then (N:=fun A env q Q E s=>wpAny P.M A (if q=true then execs a env else execs b env) Q E s) (F:=fun c V k q J=>bif q then pa c V J k else pb c V J k) fun n A env g g1 V J s s₁ x t k Q E p X r hb hq hr=>by
  cases r
  cases x with
  |true=>exact h1 n A env g1 V J s₁ k Q E X hb hq hr
  |false=>exact h2 n A env g1 V J s₁ k Q E X hb hq hr).map fun A env Q E s h=>wpAny_If (wpAny_mono h (fun q s₁ h=>by cases q<;>exact h) fun _ _ h=>h)
theorem aR.ret {e:Expr}{p:PE}{pos:Pos}(hB:yg B=false)(h:aq P B C e p (RV P)):aR P B C false C' (.Return (some e) pos) (aF p):=
 (h.then (fr:=false) (N:=fun A env x Q E s=>Q (.ret x) s) (F:=fun c V k t J=>.ret t J) fun n A env g g1 V J s s₁ x t k Q E p X r hb hq hr=>hr x s₁ g1 t J rfl (aJ.refl g1 s₁).toS X.g ⟨r,fun q=>nomatch hB.symm.trans q⟩).map fun _ _ _ _ _=>wpAny_Return_some
theorem aR.retN {e:Expr}{p:PE}{pos:Pos}(hB:yg B=false)(h:aq P B C e p (RN P)):aR P B C true C' (.Return (some e) pos) (aF p):=fun n A env g V J s k Q E X hb hq hr=>
 wpAny_Return_some (h n A env g V J s (fun t J=>.ret t J) _ E X hb fun x s₁ g1 t J1 e p w r=>hr x s₁ g1 t J1 e p.toS w ⟨(let ⟨a,e,n,f,z,o,r⟩:=r;⟨a,e,.inr n,f,z,r⟩),fun q=>nomatch hB.symm.trans q⟩)
theorem aR.retO {i:Nat}{y:Str}{k:NameKind}{ep pos:Pos}(hB:yg B=false)(hv:bi C i=true)(ht:B.tab[i]?=some (some (y,k))):aR P B C true C' (.Return (some (.Name y ep)) pos) (aF (pV i)):=fun n A env g V J s k Q E X hb hq hr=>by
 obtain ⟨t,e⟩:=ch hb
 obtain ⟨u,v,w⟩:=X.env.var i _ t ht e
 refine wpAny_Return_some (bc X ht v (hr u s g t J (by show up (bX V i) J _=_;rw [e];rfl) (aJ.refl g s).toS X.g ?_))
 unfold bE at w
 rw [hv] at w
 obtain ⟨a,rfl,o,r⟩:=w
 exact ⟨⟨a,rfl,.inl ⟨i,o⟩,(X.g.O a ⟨i,o⟩).2.1,(X.g.O a ⟨i,o⟩).2.2,r⟩,fun q=>nomatch hB.symm.trans q⟩
theorem aR.expr {e:Expr}{p:PE}{pos:Pos}(hw:∀env,swapsWith e none pos.line env=pure false)(h:aq P B C e p (RX P)):aR P B C fr C (.Expr e pos) (m6 p):=fun n A env g V J s k Q E X hb hq hr=>by
 show wpAny P.M A (exec (.Expr e pos) env) Q E s
 rw [exec_Expr env e pos (by simp [interactive,X.fn]) (hw env)]
 exact wpAny_bind (wpAny_standAt (wpAny_bind (h n A env g V J s (fun _ J=>k V J) _ _ X hb fun x s₁ g1 t J1 e p w r=>wpAny_dropValue (hq s₁ g1 V J1 e p.toS (X.post p w)))))
theorem aR.bad {st:Stmt}:aR P B C fr C' st iJ:=fun n A env g V J s k Q E X hb hq hr=>absurd rfl hb
theorem iz {i j:Nat}{u:T}{v:Option T}:∀{r:aP},bX (r.set i v) j=some u->(j=i/\v=some u)\/(j≠i/\bX r j=some u):=by
 induction i generalizing j with
 |zero=>
  intro r h
  cases r with
  |nil=>cases h
  |cons x r=>
   cases j with
   |zero=>exact .inl ⟨rfl,h⟩
   |succ j=>exact .inr ⟨Nat.succ_ne_zero _,h⟩
 |succ i ih=>
  intro r h
  cases r with
  |nil=>cases h
  |cons x r=>
   cases j with
   |zero=>exact .inr ⟨(Nat.succ_ne_zero _).symm,h⟩
   |succ j=>exact (ih (r:=r) h).imp (fun q=>⟨congrArg Nat.succ q.1,q.2⟩) fun q=>⟨fun e=>q.1 (Nat.succ.inj e),q.2⟩
theorem dA {i j:Nat}{v:Option T}(hn:j≠i):∀{r:aP},bX r j=none->bX (r.set i v) j=none:=fun {r} h=>by
 cases e:bX (r.set i v) j with
 |none=>rfl
 |some u=>exact (iz e).elim (fun q=>(hn q.1).elim) fun q=>by rw [q.2] at h;cases h
theorem gL:∀{tab:List (Option (Str×NameKind))},(tab.filterMap (·.map (·.1))).Nodup->∀{i j:Nat} {x:Str} {k k':NameKind},tab[i]?=some (some (x,k))->tab[j]?=some (some (x,k'))->i=j
 | [],_,i,j,x,k,k',h,_=>nomatch h
 |none::r,hn,i,j,x,k,k',hi,hj=>match i,j,hi,hj with
  |i+1,j+1,hi,hj=>congrArg (·+1) (gL (tab:=r) hn hi hj)
 |some (y,q)::r,hn,i,j,x,k,k',hi,hj=>by
  have hn':(y::r.filterMap (·.map (·.1))).Nodup:=hn
  have out:∀{m:Nat} {q':NameKind},r[m]?=some (some (y,q'))->False:=fun {m q'} h=>(aX hn').1 (List.mem_filterMap.mpr ⟨_,mem_of_getElem? h,rfl⟩)
  cases i with
  |zero=>cases j with
   |zero=>rfl
   |succ j=>cases hi;exact (out hj).elim
  |succ i=>cases j with
   |zero=>cases hj;exact (out hi).elim
   |succ j=>exact congrArg (·+1) (gL (tab:=r) (aX hn').2 hi hj)
theorem bG.inj {B:bG}(h:B.ok=true){i j:Nat}{x:Str}{k k':NameKind}(hi:B.tab[i]?=some (some (x,k)))(hj:B.tab[j]?=some (some (x,k'))):i=j:=by
 simp only [bG.ok,and_eq_true] at h
 exact gL (of_decide_eq_true h.2) hi hj
structure oV (C:Ct) (i:Nat) (C':Ct):Prop where
 m:C'.m=C.m
 o:∀j,j≠i->bi C' j=bi C j
 un:∀j∈C'.U,j≠i/\j∈C.U
def bO (C:Ct)(i:Nat)(o:Bool)(C':Ct):Bool:=(C'.m==C.m)&&C.O.all (fun j=>Nat.beq j i||bi C' j)&&C'.O.all (fun j=>Nat.beq j i||bi C j)&&(o==bi C' i)&&C'.U.all (fun j=>!Nat.beq j i&&C.U.any (Nat.beq j))
theorem iE {l:List Nat}{i:Nat}(h:l.any (Nat.beq i)=true):i∈l:=by
 obtain ⟨j,h1,h2⟩:=any_eq_true.mp h
 exact eq_of_beq_eq_true h2▸h1
theorem Av {i j:Nat}(h:i≠j):Nat.beq i j=false:=by
 cases e:Nat.beq i j with
 |false=>rfl
 |true=>exact (h (eq_of_beq_eq_true e)).elim
theorem cE {i:Nat}{o:Bool}(h:bO C i o C'=true):oV C i C'/\bi C' i=o:=by
 simp only [bO,and_eq_true,all_eq_true,beq_iff_eq,not_eq_true'] at h
 obtain ⟨⟨⟨⟨h1,h2⟩,h3⟩,h4⟩,h5⟩:=h
 have key:∀{D D':Ct},(∀j∈D.O,(Nat.beq j i||bi D' j)=true)->∀j,j≠i->bi D j=true->bi D' j=true:=fun h j n q=>by
  have:=h j (iE q)
  rw [Av n] at this;exact this
 refine ⟨⟨h1,fun j n=>?_,fun j hj=>⟨fun q=>?_,iE (h5 j hj).2⟩⟩,h4.symm⟩
 .cases e:bi C j with
  |true=>exact key h2 j n e
  |false=>cases e':bi C' j with
   |false=>rfl
   |true=>rw [key h3 j n e'] at e;cases e
 .have:=(h5 j hj).1
  rw [q,beq_refl] at this;cases this
structure DG (P:Pg) (env:Env) (g:Gh) (s:Shared) (h':Heap) (W:Addr):Prop where
 k:aQ g s.heap g h'
 p:∀tk,bV [] [W] g s g {s with heap:=h',toks:=tk}
 lv:∀a,s.heap.get? a≠none->h'.get? a≠none
theorem CZ {W:Addr}(x:cB P B C env g V s.heap)(w:bC P g s.heap J)(hW:W∈own env)(ho:∀b,b≠W->h'.get? b=s.heap.get? b)(hl:h'.get? W≠none):DG P env g s h' W/\bC P g h' J:=by
 have nf:∀a,g.F a\/g.Z a\/g.O a->h'.get? a=s.heap.get? a:=fun a q=>ho a fun e=>by
  obtain ⟨_,f,z,o⟩:=x.own W hW
  subst e;exact q.elim f fun q=>q.elim z o
 have kf:aQ g s.heap g h':=⟨fun a f=>⟨f,fun o e=>(nf a (.inl f)).trans e⟩,rfl⟩
 have lv:∀a,s.heap.get? a≠none->h'.get? a≠none:=fun a l=>by
  by_cases q:a=W
  .exact q▸hl
  .rw [ho a q];exact l
 refine ⟨⟨kf,fun tk=>⟨⟨h',tk,rfl⟩,fun a o e _ n=>(ho a fun q=>n (q▸ay rfl)).trans e,fun a _ e=>?_,fun _ f=>f,fun _ f=>.inl f,fun _ f=>.inl f,rfl,rfl,rfl⟩,lv⟩,
  fun a o e=>⟨(w.base a o e).1,(nf a (.inl (w.base a o e).1)).trans (w.base a o e).2⟩,fun a f=>lv a (w.F a f),fun a z=>⟨lv a (w.Z a z).1,(w.Z a z).2⟩,fun a z=>⟨lv a (w.O a z).1,(w.O a z).2⟩,w.oo,
  ⟨let ⟨t,n,e⟩:=w.spot.1;⟨t,n,(nf _ (.inr (.inl w.spot.2.1))).trans e⟩,w.spot.2⟩,fun c ts e=>(w.self c ts e).mono kf (fun a z=>⟨z,fun o e=>(nf a (.inr (.inl z))).trans e⟩) rfl⟩
 by_cases q:s.heap.get? a=none
 .exact q
 .exact (lv a q e).elim
structure Gx (g g':Gh) (i:Nat):Prop where
 F:g'.F=g.F
 Z:g'.Z=g.Z
 sp:g'.sp=g.sp
 sa:g'.sa=g.sa
 o:∀j,j≠i->g'.o j=g.o j
theorem Gx.refl (g:Gh)(i:Nat):Gx g g i:=⟨rfl,rfl,rfl,rfl,fun _ _=>rfl⟩
theorem Gx.k {i:Nat}(x:Gx g g' i)(h:Heap):aQ g h g' h:=⟨fun a f=>⟨x.F▸f,fun _ e=>e⟩,x.sp⟩
theorem cB.forget {i:Nat}(x:cB P B C env g V h)(hc:oV C i C')(q:Gx g g' i)(hno:∀a∈Mine.own env,¬g'.O a):cB P B C' env g' (V.set i none) h:=
 {x with
  own:=fun a ha=>⟨(x.own a ha).1,q.F▸(x.own a ha).2.1,q.Z▸(x.own a ha).2.2.1,hno a ha⟩
  var:=fun j z v hj hv=>by
   rcases iz hv with ⟨_,e⟩ | ⟨n,e⟩
   .cases e
   .obtain ⟨u,h1,h2⟩:=x.var j z v hj e
    refine ⟨u,h1,?_⟩
    unfold bE at h2 ⊢
    rw [hc.o j n]
    cases e:bi C j with
    |true=>rw [e] at h2;exact let ⟨a,h3,h4,h5⟩:=h2;⟨a,h3,(q.o j n).trans h4,h5.mono (q.k h) fun _ e=>e⟩
    |false=>rw [e] at h2;exact h2.imp (·.mono (q.k h)) fun ⟨a,b,c,d⟩=>⟨hc.m.trans a,b,c,q.sa▸d⟩
  un:=fun j hj=>dA (hc.un j hj).1 (x.un j (hc.un j hj).2)}
theorem cB.put {W:Addr}{i:Nat}{o:Option T}{u:Value}(x:cB P B C env g V s.heap)(hi:i∉C.U)(hW:W∈Mine.own env)(T:DG P env g s h' W)(ho:∀b,b≠W->h'.get? b=s.heap.get? b)
  (hv:cQ B env h' i u)(hns:∃m,h'.Ns env.locals m)(hcl:∀c u,s.heap.IsCell c u->∃u',h'.IsCell c u')(hot:∀j v,j≠i->cQ B env s.heap j v->cQ B env h' j v)(q:∀t,o=some t->bE P C g s.heap i t u):cB P B C env g (V.set i o) h':=
 have mv:∀{j t u},bE P C g s.heap j t u->bE P C g h' j t u:=fun v=>v.move T.k rfl rfl fun a ha o e=>(ho a fun q=>(x.own W hW).2.2.2 (q▸ha)).trans e
 {x with
  ns:=hns
  cell:=fun j z kk hj hk=>let ⟨c,u,l,n⟩:=x.cell j z kk hj hk;let ⟨u',n'⟩:=hcl c u n;⟨c,u',l,n'⟩
  own:=fun a ha=>⟨T.lv a (x.own a ha).1,(x.own a ha).2⟩
  var:=fun j z v hj hv'=>(iz hv').elim (fun ⟨e,e'⟩=>by subst e;exact ⟨u,hv,mv (q v e')⟩) fun ⟨n,e⟩=>let ⟨u',h1,h2⟩:=x.var j z v hj e;⟨u',hot j u' n h1,mv h2⟩
  un:=fun j hj=>dA (fun q:j=i=>hi (q▸hj)) (x.un j hj)}
theorem y5 {h:Heap}{L c:Addr}{m:Str->Option Value}{u:Option Value}(n:h.Ns L m)(k:h.IsCell c u):c≠L:=fun q=>by
 obtain ⟨o,es,ep,e,d,_⟩:=n
 obtain ⟨o',e',d'⟩:=k
 rw [q,e] at e';cases e';rw [d] at d';cases d'
theorem vJ {h:Heap}{L:Addr}{m m':Str->Option Value}(n:h.Ns L m)(n':h.Ns L m'){x:Str}:m x=m' x:=by
 obtain ⟨o,es,ep,e,d,_,f⟩:=n
 obtain ⟨o',es',ep',e',d',_,f'⟩:=n'
 rw [e] at e';cases e';rw [d] at d';cases d'
 exact (f x).symm.trans (f' x)
noncomputable def yh (k:NameKind)(x:Str)(env:Env):List Addr:=match k with
 |.local=>[env.locals]
 |_=>(env.cells.lookup x).toList
theorem bQ {k:NameKind}{x:Str}{env:Env}:∀a∈yh k x env,a∈Mine.own env:=fun a ha=>by
 have hc:a∈(env.cells.lookup x).toList->a∈Mine.own env:=fun h=>mem_cons_of_mem _ (bB (Option.mem_toList.mp h))
 cases k<;>first |exact hc ha |exact mem_cons.mpr (.inl (aa ha))
theorem fT {i:Nat}{y:Str}{k:NameKind}{o:Option T}{u:Value}{Q:Unit->Shared->Prop}{E:Value->Shared->Prop}(X:At P B C n A env g V J s)(hi:i∉C.U)(ht:B.tab[i]?=some (some (y,k)))(hk:k=.local\/k=.cell)(q:∀t,o=some t->bE P C g s.heap i t u)
  (hq:∀s',bV [] (yh k y env) g s g s'->At P B C n A env g (V.set i o) J s'->cQ B env s'.heap i u->(∀j v,j≠i->cQ B env s.heap j v->cQ B env s'.heap j v)->Q () s'):wpAny P.M A (storeName env y u) Q E s:=by
 obtain ⟨h1,h2,_,_,_⟩:=bG.look X.env.ok ht
 have hl:env.kindOf y=some k:=show env.scope.names.lookup y=_ from X.env.sc▸h2
 have tab:∀{j z kk},j≠i->B.tab[j]?=some (some (z,kk))->z≠y:=fun n hj e=>n (bG.inj X.env.ok (e▸hj) ht)
 rcases hk with rfl |rfl
 .obtain ⟨m,hn⟩:=X.env.ns
  refine wpAny_storeName_local hl hn (fun h' hn' hs=>?_) (by rw [X.fn];rfl)
  obtain ⟨T,w⟩:=CZ X.env X.g (W:=env.locals) mem_cons_self hs.2 (let ⟨o,_,_,e,_⟩:=hn';ar e)
  have hot:∀j v,j≠i->cQ B env s.heap j v->cQ B env h' j v:=fun j v nj hv=>by
   cases hv with
   |loc z m' tz nz ez=>exact .loc z _ tz hn' (by rw [if_neg (tab nj tz),vJ hn nz];exact ez)
   |cel z kk c tz hk' l nz=>
    obtain ⟨o,e,d⟩:=id nz
    exact .cel z kk c tz hk' l ⟨o,(hs.2 c (y5 hn nz)).trans e,d⟩
  refine hq _ ((T.p _).weak (fun _ h=>h) fun a ha=>ha) ⟨X.good,X.call,X.room,X.env.put hi mem_cons_self T hs.2 (.loc y _ ht hn' (if_pos rfl)) ⟨_,hn'⟩ (fun c v hc=>?_) hot q,w⟩ (.loc y _ ht hn' (if_pos rfl)) hot
  obtain ⟨o,e,d⟩:=id hc
  exact ⟨v,o,(hs.2 c (y5 hn hc)).trans e,d⟩
 .obtain ⟨c,u0,c1,c4⟩:=X.env.cell i y _ ht (.inl rfl)
  refine wpAny_storeName_cell X.fn hl c1 c4 fun h' hv' hs=>?_
  have hc:c∈own env:=mem_cons_of_mem _ (bB c1)
  obtain ⟨T,w⟩:=CZ X.env X.g hc hs.2 (let ⟨o,e,_⟩:=hv';ar e)
  have nl:∀{m},s.heap.Ns env.locals m->h'.Ns env.locals m:=fun hn=>hn.at fun o e=>(hs.2 _ fun q=>y5 hn c4 q.symm).trans e
  have hot:∀j v,j≠i->cQ B env s.heap j v->cQ B env h' j v:=fun j v nj hv=>by
   cases hv with
   |loc z m' tz nz ez=>exact .loc z m' tz (nl nz) ez
   |cel z kk d tz hk' l nz=>exact .cel z kk d tz hk' l (let ⟨o,e1,e2⟩:=nz;⟨o,(hs.2 d fun e=>tab nj tz (X.env.apart z y d l (e▸c1))).trans e1,e2⟩)
  refine hq _ ((T.p s.toks).weak (fun _ h=>h) fun a ha=>by rw [aa ha];exact Option.mem_toList.mpr c1) ⟨X.good,X.call,X.room,X.env.put hi hc T hs.2 (.cel y _ c ht (.inl rfl) c1 hv') (let ⟨m,hn⟩:=X.env.ns;⟨m,nl hn⟩) (fun d v hd=>?_) hot q,w⟩ (.cel y _ c ht (.inl rfl) c1 hv') hot
  by_cases e:d=c
  .exact ⟨_,e▸hv'⟩
  .exact let ⟨o,e1,e2⟩:=hd;⟨v,o,(hs.2 d e).trans e1,e2⟩
theorem jF {i:Nat}{y:Str}{k:NameKind}{t:T}{u:Value}{Q:Unit->Shared->Prop}{E:Value->Shared->Prop}(X:At P B C n A env g V J s)(hi:i∉C.U)(ht:B.tab[i]?=some (some (y,k)))(hk:k=.local\/k=.cell)(q:bE P C g s.heap i t u)
  (hq:∀s',bV [] (yh k y env) g s g s'->At P B C n A env g (V.set i (some t)) J s'->(∀j v,j≠i->cQ B env s.heap j v->cQ B env s'.heap j v)->Q () s'):wpAny P.M A (storeName env y u) Q E s:=
 fT (o:=some t) X hi ht hk (fun _ e=>Option.some.inj e▸q) fun s' p X' _ hot=>hq s' p X' hot
end
noncomputable def r7 (e:Expr)(x:Str)(p:Pos)(l:Nat)(sc:Scope):Bool:=match e with
 |.ListComp _ _ s _ |.SetComp _ _ s _ |.DictComp _ _ _ s _=>(if sc.kind.isAnnotationScope then ScopeKind.function else sc.kind)==.function&&sc.names.lookup x==some .local&&p.line==e.pos.line
   &&!(s.names.any fun (n,k)=>n==x&&(k==.local||k==.cell))
 |_=>false
theorem gN {e:Expr}{x:Str}{p:Pos}{l:Nat}{env:Env}{sc:Scope}(h:env.scope=sc):swapsWith e (some (.Name x p)) l env=pure (r7 e x p l sc):=by
 subst h
 cases e<;>first |rfl
section
variable {P:Pg} {B:bG} {C C' C'':Ct} {fr:Bool} {n:Nat} {A:Around} {env:Env} {g g' g1 g2:Gh} {V:aP} {J:Sg} {s s' s₁ s₂:Shared} {h h':Heap}
theorem oV.nu {i:Nat}(hc:oV C i C'):i∉C'.U:=fun q=>(hc.un i q).1 rfl
theorem set_set (V:aP)(i:Nat)(a b:Option T):(V.set i a).set i b=V.set i b:=List.set_set ..
theorem iu {i:Nat}{y:Str}{k:NameKind}{t:T}{u:Value}{Q:Unit->Shared->Prop}{E:Value->Shared->Prop}(X:At P B C n A env g V J s)(hc:bO C i false C'=true)(ht:B.tab[i]?=some (some (y,k)))(hk:k=.local\/k=.cell)(r:Rp P g s.heap t u)
  (hq:∀s',bV [] (yh k y env) g s g s'->At P B C' n A env g (V.set i (some t)) J s'->Q () s'):wpAny P.M A (storeName env y u) Q E s:=by
 obtain ⟨hs,ho⟩:=cE hc
 have X2:At P B C' n A env g (V.set i none) J s:=⟨X.good,X.call,X.room,X.env.forget hs (.refl g i) fun a ha=>(X.env.own a ha).2.2.2,X.g⟩
 refine jF X2 hs.nu ht hk (by unfold bE;rw [ho];exact .inl r) fun s' p X' _=>hq s' p ?_
 rw [set_set] at X';exact X'
theorem aR.set {i:Nat}{y:Str}{k:NameKind}{e:Expr}{p:PE}{ps pos:Pos}(hc:bO C i false C'=true)(ht:B.tab[i]?=some (some (y,k)))(hk:k=.local\/k=.cell)(hw:r7 e y ps pos.line B.sc=false)(h:aq P B C e p (RV P)):
  aR P B C fr C' (.Assign [.Name y ps] e pos) (aD i p):=fun n A env g V J s k Q E X hb hq hr=>
 wpAny_Assign_Name (h n A env g V J s (fun v J=>k (V.set i (some v)) J) _ E X hb fun x s₁ g1 t J1 e p w r=>iu (X.post p w) hc ht hk r fun s' p' X'=>hq s' g1 _ J1 e (p.toS.trans (p'.toS.weak bQ)) X') (by rw [gN X.env.sc,hw])
noncomputable def Gh.put (g:Gh)(i:Nat)(a:Option Addr):Gh:={g with o:=fun j=>bif Nat.beq j i then a else g.o j}
theorem gV (g:Gh)(i:Nat)(a:Option Addr):(g.put i a).o i=a:=by show (bif Nat.beq i i then a else _)=_;rw [beq_refl];rfl
theorem nF (g:Gh){i j:Nat}(a:Option Addr)(h:j≠i):(g.put i a).o j=g.o j:=by show (bif Nat.beq j i then a else _)=_;rw [Av h];rfl
theorem gW (g:Gh)(i:Nat)(a:Option Addr):Gx g (g.put i a) i:=⟨rfl,rfl,rfl,rfl,fun j h=>nF g a h⟩
theorem gX {i:Nat}{a:Option Addr}{b:Addr}(h:(g.put i a).O b):a=some b\/∃j,j≠i/\g.o j=some b:=by
 obtain ⟨j,e⟩:=h
 by_cases q:j=i
 .subst q;rw [gV] at e;exact .inl e
 .rw [nF g a q] at e;exact .inr ⟨j,q,e⟩
theorem bC.put {i:Nat}{a:Option Addr}(w:bC P g h J)(ha:∀b,a=some b->h.get? b≠none/\¬g.F b/\¬g.Z b/\¬g.O b):bC P (g.put i a) h J:=
 ⟨w.base,w.F,w.Z,fun b q=>(gX q).elim (fun e=>let ⟨h1,h2,h3,_⟩:=ha b e;⟨h1,h2,h3⟩) fun ⟨j,_,e⟩=>w.O b ⟨j,e⟩,fun j k b h1 h2=>by
  by_cases q:j=i
  .by_cases q':k=i
   .rw [q,q']
   .subst q;rw [gV] at h1;rw [nF g a q'] at h2;exact ((ha b h1).2.2.2 ⟨k,h2⟩).elim
  .rw [nF g a q] at h1
   by_cases q':k=i
   .subst q';rw [gV] at h2;exact ((ha b h2).2.2.2 ⟨j,h1⟩).elim
   .rw [nF g a q'] at h2;exact w.oo j k b h1 h2,w.spot,fun c ts e=>(w.self c ts e).mono ((gW g i a).k h) (fun _ z=>⟨z,fun _ e=>e⟩) rfl⟩
theorem aR.setN {i:Nat}{y:Str}{k:NameKind}{e:Expr}{p:PE}{ps pos:Pos}(hc:bO C i true C'=true)(ht:B.tab[i]?=some (some (y,k)))(hk:k=.local\/k=.cell)(hw:r7 e y ps pos.line B.sc=false)(h:aq P B C e p (RN P)):
  aR P B C fr C' (.Assign [.Name y ps] e pos) (aD i p):=fun n A env g V J s k Q E X hb hq hr=>by
 refine wpAny_Assign_Name (h n A env g V J s (fun v J=>k (V.set i (some v)) J) _ E X hb fun x s₁ g1 t J1 e p w r=>?_) (by rw [gN X.env.sc,hw])
 obtain ⟨hs,ho⟩:=cE hc
 obtain ⟨a,rfl,nw,f,z,o,r⟩:=r
 have X1:=X.post p w
 have ow:∀b∈own env,¬(g1.put i (some a)).O b:=fun b hb q=>(gX q).elim (fun q=>(X.env.own b hb).1 (Option.some.inj q▸nw)) fun ⟨j,_,q⟩=>(X1.env.own b hb).2.2.2 ⟨j,q⟩
 have pa:aW [] (own env) g s (g1.put i (some a)) s₁:={(p.toS:aW [] (own env) g s g1 s₁) with On:=fun b q=>(gX q).elim (fun q=>.inr (Option.some.inj q▸nw)) fun ⟨j,_,q⟩=>.inl ⟨j,p.o▸q⟩}
 have X2:At P B C' n A env (g1.put i (some a)) (V.set i none) J1 s₁:=⟨X.good,X.call,X.room,X1.env.forget hs (gW g1 i _) ow,w.put fun b q=>Option.some.inj q▸⟨r.live,f,z,o⟩⟩
 refine wpAny_mono (jF (E:=E) X2 hs.nu ht hk (by unfold bE;rw [ho];exact ⟨a,rfl,gV ..,r.mono ((gW g1 i _).k _) fun _ e=>e⟩) fun s' p' X' _=>hq s' _ _ J1 e (pa.trans (p'.toS.weak bQ)) ?_) (fun _ _ h=>h) fun _ _ h=>h
 rw [set_set] at X';exact X'
theorem cB.add {i:Nat}{t:T}{u:Value}(x:cB P B C env g V h)(hi:i∉C.U)(hv:cQ B env h i u)(q:bE P C g h i t u):cB P B C env g (V.set i (some t)) h:=
 {x with
  var:=fun j z v hj hv'=>(iz hv').elim (fun ⟨e,e'⟩=>by cases e';subst e;exact ⟨u,hv,q⟩) fun ⟨n,e⟩=>x.var j z v hj e
  un:=fun j hj=>dA (fun q:j=i=>hi (q▸hj)) (x.un j hj)}
theorem yE {i:Nat}{t:T}:∀{V:aP},bX V i=some t->V.set i (some t)=V:=by
 induction i with
 |zero=>intro V h;cases V with
  |nil=>cases h
  |cons x r=>rw [show x=_ from h];rfl
 |succ i ih=>intro V h;cases V with
  |nil=>cases h
  |cons x r=>exact congrArg (x::·) (ih (V:=r) h)
theorem iR {i:Nat}:∀{V:aP},bX V i=none->V.set i none=V:=by
 induction i with
 |zero=>intro V h;cases V with
  |nil=>rfl
  |cons x r=>rw [show x=_ from h];rfl
 |succ i ih=>intro V h;cases V with
  |nil=>rfl
  |cons x r=>exact congrArg (x::·) (ih (V:=r) h)
theorem GE {i:Nat}{y:Str×NameKind}(X:At P B C n A env g V J s)(hv:bi C i=true)(hc:bO C i false C'=true)(ht:B.tab[i]?=some (some y)):∃g',aW [] (own env) g s g' s/\At P B C' n A env g' V J s:=by
 obtain ⟨hs,ho⟩:=cE hc
 have w1:bC P (g.put i none) s.heap J:=X.g.put fun _ q=>nomatch q
 have no:∀b∈own env,¬(g.put i none).O b:=fun b hb q=>(gX q).elim (fun q=>nomatch q) fun ⟨j,_,q⟩=>(X.env.own b hb).2.2.2 ⟨j,q⟩
 have x1:=X.env.forget hs (gW g i none) no
 have on:∀b,(g.put i none).O b->g.O b:=fun b q=>(gX q).elim (fun q=>nomatch q) fun ⟨j,_,q⟩=>⟨j,q⟩
 have p0:=(aJ.refl g s).toS (W:=own env)
 cases e:bX V i with
 |none=>
  rw [iR e] at x1
  exact ⟨g.put i none,{p0 with On:=fun b q=>.inl (on b q)},X.good,X.call,X.room,x1,w1⟩
 |some t=>
  obtain ⟨u,v,q⟩:=X.env.var i y t ht e
  unfold bE at q
  rw [hv] at q
  obtain ⟨a,rfl,o,r⟩:=q
  have hO:=X.g.O a ⟨i,o⟩
  have na:¬(g.put i none).O a:=fun q=>(gX q).elim (fun q=>nomatch q) fun ⟨j,n,q⟩=>n (X.g.oo j i a q o)
  have w2:=w1.freeze (a:=a) hO.1 hO.2.2 na
  have kf:aQ (g.put i none) s.heap {g.put i none with F:=fun y=>g.F y\/y=a} s.heap:=⟨fun b f=>⟨.inl f,fun _ e=>e⟩,rfl⟩
  have x2:=x1.move (g':={g.put i none with F:=fun y=>g.F y\/y=a}) kf rfl rfl (fun _ _ _ e=>e) fun b hb=>⟨(X.env.own b hb).1,fun f=>f.elim (X.env.own b hb).2.1 fun e=>(X.env.own b hb).2.2.2 (e▸⟨i,o⟩),(X.env.own b hb).2.2.1⟩
  have x3:=x2.add hs.nu v (t:=t) (by unfold bE;rw [ho];exact .inl ((r.mono (((gW g i none).k _)) fun _ e=>e).mono kf (fun _ e=>e) |>.rp (.inr rfl)))
  rw [set_set,yE e] at x3
  exact ⟨{g.put i none with F:=fun y=>g.F y\/y=a},{p0 with F:=fun b f=>.inl f,Fn:=fun b f=>f.elim .inl fun q=>.inr (.inl (q▸⟨i,o⟩)),On:=fun b q=>.inl (on b q)},X.good,X.call,X.room,x3,w2⟩
theorem dw.fz {i:Nat}{y:Str×NameKind}{W:WP Flow}{p:PS}(hv:bi C i=true)(hc:bO C i false C'=true)(ht:B.tab[i]?=some (some y))(h:dw P B C' fr C'' W p):dw P B C fr C'' W p:=fun n A env g V J s k Q E X hb hq hr=>by
 obtain ⟨g',pz,X'⟩:=GE X hv hc ht
 exact h n A env g' V J s k Q E X' hb (fun s' g' ρ' J' e p X=>hq s' g' ρ' J' e (pz.trans p) X) fun x s' g' t J' e p w r=>hr x s' g' t J' e (pz.trans p) w (r.after pz)
theorem aR.while {test:Expr}{body:List Stmt}{t:PT}{pb:PS}{pos:Pos}(m:Nat)(ht:cN P B C test t)(hb:fu P B C fr C body pb):aR P B C fr C (.While test body [] pos) (eS m t pb):=fun n A env g V J s k Q E X hbad hq hr=>by
 refine wpAny_While ?_
 refine codeAny_whileLoop (fun m' s₁=>∃g1 V1 J1,At P B C n A env g1 V1 J1 s₁/\aW [] (own env) g s g1 s₁/\eS m t pb (P.cx n) V J k=fG t pb (P.cx n) m' V1 J1 k) ?_ m ⟨g,V,J,X,(aJ.refl g s).toS,rfl⟩
 rintro m' s₁ ⟨g1,V1,J1,X1,p1,e1⟩
 cases m' with
 |zero=>exact absurd (e1.trans x0) hbad
 |succ m'=>
  rw [jx] at e1
  refine ht n A env g1 V1 J1 s₁ _ _ _ X1 (fun q=>hbad (e1.trans q)) fun b s₂ g2 b' J2 e2 p2 wa r2=>?_
  cases r2
  have X2:=X1.post p2 wa
  have p_12:=p1.trans p2.toS
  cases b with
  |true=>
   refine hb n A env g2 V1 J2 s₂ _ _ _ X2 (fun q=>hbad (e1.trans (e2.trans q))) (fun s3 g3 V3 J3 e3 p3 X3=>?_) fun x s3 g3 t J3 e3 p3 w3 r3=>?_
   .exact ⟨m',lt_succ_self m',g3,V3,J3,X3,p_12.trans p3,e1.trans (e2.trans e3)⟩
   .exact hr x s3 g3 t J3 (e1.trans (e2.trans e3)) (p_12.trans p3) w3 (r3.after p_12)
  |false=>exact wpAny_execs_nil (hq s₂ g2 V1 J2 (e1.trans e2) p_12 X2)
end
def ju (g:Gh)(env:Env)(vol:List Addr):Prop:=∀a∈vol,¬g.F a/\¬g.Z a/\¬g.O a/\a∉own env
structure o4 (P:Pg) (A:Around) (I:Addr) (ts:List T) (vol fx:List Addr) (St:Nat->Gh->Heap->Prop):Prop where
 self:∀i g s (Q:Value->Shared->Prop) (E:Value->Shared->Prop),St i g s.heap->Q (.ref I) s->wpAny P.M A (pyIter (.ref I)) Q E s
 stay:∀i g h g' h',St i g h->aQ g h g' h'->(∀a∈vol++fx,∀o,h.get? a=some o->h'.get? a=some o)->St i g' h'
 here:∀i g h,St i g h->∀a∈vol++fx,h.get? a≠none
 item:∀i t g s (Q:Option Value->Shared->Prop) (E:Value->Shared->Prop),ts[i]?=some t->St i g s.heap->(∀a∈vol,¬g.F a)->
  (∀u h' tk,(∀a o,s.heap.get? a=some o->a∉vol->h'.get? a=some o)->Rp P g h' t u->St (i+1) g h'->Q (some u) {s with heap:=h',toks:=tk})->wpAny P.M A (pyNext (.ref I)) Q E s
 done:∀g s (Q:Option Value->Shared->Prop) (E:Value->Shared->Prop),St ts.length g s.heap->(∀h' tk,(∀a o,s.heap.get? a=some o->a∉vol->h'.get? a=some o)->Q none {s with heap:=h',toks:=tk})->wpAny P.M A (pyNext (.ref I)) Q E s
structure mn (P:Pg) (A:Around) (B:bG) (C C':Ct) (target:Expr) (zb:PB) (tw:Env->List Addr) (I:Addr) (ts:List T) (vol fx:List Addr) (St:Nat->Gh->Heap->Prop):Prop where
 sub:∀env,∀a∈tw env,a∈own env
 self:∀i g s (Q:Value->Shared->Prop) (E:Value->Shared->Prop),St i g s.heap->Q (.ref I) s->wpAny P.M A (pyIter (.ref I)) Q E s
 stay:∀i g h g' h',St i g h->aQ g h g' h'->(∀a∈vol++fx,∀o,h.get? a=some o->h'.get? a=some o)->St i g' h'
 here:∀i g h,St i g h->∀a∈vol++fx,h.get? a≠none
 item:∀i t n env g V ρ' J s (Q:Shared->Prop) (E:Value->Shared->Prop),ts[i]?=some t->At P B C n A env g V J s->ju g env (vol++fx)->St i g s.heap->zb t V=some ρ'->
  (∀s',bV [] (vol++tw env) g s g s'->At P B C' n A env g ρ' J s'->St (i+1) g s'.heap->Q s')->
  wpAny P.M A (pyNext (.ref I)) (fun r s₁=>match r with
   |none=>False
   |some u=>wpAny P.M A (letOwnedTupleGo target (.ref I) u) (fun _ s₂=>wpAny P.M A (assign target env u) (fun _ s3=>Q s3) E s₂) E s₁) E s
 done:∀n env g V J s (Q:Shared->Prop) (E:Value->Shared->Prop),At P B C n A env g V J s->ju g env (vol++fx)->St ts.length g s.heap->(∀s',bV vol vol g s g s'->At P B C n A env g V J s'->Q s')->
  wpAny P.M A (pyNext (.ref I)) (fun r s₁=>match r with |none=>Q s₁ |some _=>False) E s
section
variable {P:Pg} {B:bG} {C C' C'':Ct} {fr:Bool} {n:Nat} {A:Around} {env:Env} {g g' g1 g2:Gh} {V:aP} {J:Sg} {s s' s₁ s₂:Shared} {h h':Heap}
theorem ju.post {vol:List Addr}(v:ju g env vol)(l:∀a∈vol,s.heap.get? a≠none)(p:aW [] (own env) g s g' s'):ju g' env vol/\∀a∈vol,∀o,s.heap.get? a=some o->s'.heap.get? a=some o:=
 ⟨fun a ha=>let ⟨f,z,o,w⟩:=v a ha;⟨fun q=>(p.Fn a q).elim f fun q=>q.elim o (l a ha),fun q=>(p.Zn a q).elim z (l a ha),fun q=>(p.On a q).elim o (l a ha),w⟩,fun a ha o e=>let ⟨_,z,q,w⟩:=v a ha;p.keep a o e z q w⟩
theorem aW.k {VVV W:List Addr}(p:aW VVV W g s g' s')(w:bC P g s.heap J)(hW:∀a∈W,¬g.F a):aQ g s.heap g' s'.heap:=⟨fun a f=>⟨p.F a f,fun o e=>p.keep a o e (fun z=>(w.Z a z).2 f) (fun q=>(w.O a q).2.1 f) fun q=>hW a q f⟩,p.sp⟩
noncomputable abbrev nt (P:Pg)(A:Around)(env:Env)(R:Result->Shared->Prop):Value->Shared->Prop:=notedBy P.M A env fun e s'=>R (.error e) s'
noncomputable def GF (P:Pg)(A:Around)(env:Env)(target:Expr)(I:Addr)(body:List Stmt)(R:Result->Shared->Prop):Flow->Shared->Prop:=fun f s=>match f with
 |.next |.cont=>codeAny P.M A (.forLoop target (.ref I) body [] env) R s
 |.brk=>R (.ok .next) s
 |.ret v=>R (.ok (.ret v)) s
theorem fY {target:Expr}{body:List Stmt}{I:Addr}{R:Result->Shared->Prop}(nx:wpAny P.M A (pyNext (.ref I)) (fun r s=>match r with
   |none=>R (.ok .next) s
   |some u=>wpAny P.M A (letOwnedTupleGo target (.ref I) u) (fun _ s=>wpAny P.M A (assign target env u) (fun _ s=>wpAny P.M A (execs body env) (GF P A env target I body R) (nt P A env R) s) (nt P A env R) s) (nt P A env R) s) (nt P A env R) s):codeAny P.M A (.forLoop target (.ref I) body [] env) R s:=by
 refine codeAny_of_tree ?_
 show wpAny P.M A ((forTurn target (.ref I) body [] env).onRaise (fun x=>do noteFrame x env;theTreesLotGoes x)) _ _ s
 refine wpAny_noted ?_
 simp only [forTurn]
 refine wpAny_bind (wpAny_standAt (wpAny_bind (wpAny_onRaise (wpAny_mono nx (fun r s₁ h1=>?_) fun _ _ h'=>wpAny_standAt h'))))
 cases r with
 |none=>exact wpAny_pure ⟨rfl,codeAny_block (wpAny_execs_nil h1)⟩
 |some u=>
  refine wpAny_bind (wpAny_mono h1 (fun _ s₂ h2=>wpAny_bind (wpAny_mono h2 (fun _ s3 h3=>wpAny_bind (wpAny_mono h3 (fun f s4 h4=>?_) fun _ _ h'=>h')) fun _ _ h'=>h')) fun _ _ h'=>h')
  cases f with
  |next=>exact wpAny_pure ⟨rfl,h4⟩
  |cont=>exact wpAny_pure ⟨rfl,h4⟩
  |brk=>exact wpAny_pure h4
  |ret v=>exact wpAny_pure h4
theorem zW {target:Expr}{body:List Stmt}{zb:PB}{tw:Env->List Addr}{pb:PS}{I:Addr}{ts:List T}{vol fx:List Addr}{St:Nat->Gh->Heap->Prop}{k:PK aP}{R:Result->Shared->Prop}(T:mn P A B C C' target zb tw I ts vol fx St)(hbody:fu P B C' fr C body pb):
  ∀(rest:List Mine.T) (i:Nat) (g:Gh) (V:aP) (J:Sg) (s:Shared),i<=ts.length->ts.drop i=rest->At P B C n A env g V J s->ju g env (vol++fx)->St i g s.heap->cu zb pb (P.cx n) rest V J k≠.bad->
   (∀s' g' ρ' J',cu zb pb (P.cx n) rest V J k=k ρ' J'->aW vol (vol++own env) g s g' s'->At P B C n A env g' ρ' J' s'->R (.ok .next) s')->
   (∀x s' g' t J',cu zb pb (P.cx n) rest V J k=.ret t J'->aW [] (vol++own env) g s g' s'->bC P g' s'.heap J'->oX P B fr g s.heap g' s'.heap t x->R (.ok (.ret x)) s')->
   codeAny P.M A (.forLoop target (.ref I) body [] env) R s:=by
 intro rest
 induction rest with
 |nil=>
  intro i g V J s hle hd X hv st hb hq hr
  obtain rfl:i=ts.length:=le_antisymm hle (List.drop_eq_nil_iff.mp hd)
  exact fY (wpAny_mono (T.done n env g V J s (fun s'=>R (.ok .next) s') (nt P A env R) X hv st fun s' p X'=>hq s' g V J rfl (p.weak (fun _ h=>h) fun a=>mem_append_left _).toS X') (fun r s₁ h=>match r with |none=>h |some _=>h.elim) fun _ _ h=>h)
 |cons v rest ih=>
  intro i g V J s hle hd X hv st hb hq hr
  have hiv:ts[i]?=some v:=by rw [<-List.head?_drop,hd];rfl
  have hi:i < ts.length:=(ak hiv).1
  have hd':ts.drop (i+1)=rest:=by rw [<-List.tail_drop,hd];rfl
  cases hρ:zb v V with
  |none=>rw [zX,hρ] at hb;exact absurd rfl hb
  |some ρ'=>
   have e1:cu zb pb (P.cx n) (v::rest) V J k=pb (P.cx n) ρ' J fun V J=>cu zb pb (P.cx n) rest V J k:=by rw [zX,hρ]
   rw [e1] at hb hq hr
   refine fY (wpAny_mono (T.item i v n env g V ρ' J s (fun s3=>wpAny P.M A (execs body env) (GF P A env target I body R) (nt P A env R) s3) (nt P A env R) hiv X hv st hρ fun s3 p3 X3 st3=>?_) (fun r s₁ h=>match r with |none=>h.elim |some _=>h) fun _ _ h=>h)
   have lv3:=T.here _ _ _ st3
   replace p3:=(p3.weak (fun _ h=>h) fun a h=>(ai h).elim (mem_append_left _) fun h=>mem_append_right vol (T.sub env a h)).toS
   refine hbody n A env g ρ' J s3 _ _ _ X3 hb (fun s4 g4 V4 J4 e4 p4 X4=>?_) fun x s4 g4 t J4 e4 p4 w4 r4=>?_
   .rw [e4] at hb hq hr
    have p34:=p3.trans (p4.weak fun a=>mem_append_right vol)
    obtain ⟨hv4,kp⟩:=hv.post lv3 p4
    exact ih (i+1) g4 V4 J4 s4 hi hd' X4 hv4 (T.stay _ _ _ _ _ st3 (p4.k X3.g fun a ha=>(X3.env.own a ha).2.1) kp) hb (fun s' g' ρ' J' e p X=>hq s' g' ρ' J' e (p34.trans p) X) fun x s' g' t J' e p w r=>hr x s' g' t J' e (p34.trans p) w (r.after p34)
   .exact hr x s4 g4 t J4 e4 (p3.trans (p4.weak fun a=>mem_append_right vol)) w4 (r4.after p3)
def DH (P:Pg)(B:bG)(C:Ct)(n:Nat)(A:Around)(env:Env)(g:Gh)(V:aP)(J:Sg)(s:Shared)(iter:Expr)(mk:Around->Addr->List T->List Addr->List Addr->(Nat->Gh->Heap->Prop)->Prop)(p:PL):Prop:=
 ∀(k:PK (List T)) (Q:Value->Shared->Prop) (E:Value->Shared->Prop),At P B C n A env g V J s->p (P.cx n) V J k≠.bad->
  (∀s' g' ts J' I vol fx St,p (P.cx n) V J k=k ts J'->aJ g s g' s'->bC P g' s'.heap J'->mk A I ts vol fx St->St 0 g' s'.heap->(∀a∈vol,s.heap.get? a=none/\¬g'.F a/\¬g'.Z a)->ju g' env fx->ts.length<=lim->Q (.ref I) s')->
  wpAny P.M A (eval iter env) (fun x s₁=>wpAny P.M A (pyIter x) Q E s₁) E s
def f9 (P:Pg)(B:bG)(C:Ct)(iter:Expr)(mk:Around->Addr->List T->List Addr->List Addr->(Nat->Gh->Heap->Prop)->Prop)(p:PL):Prop:=
 ∀n A env g V J s,DH P B C n A env g V J s iter mk p
theorem aR.for {iter target:Expr}{zb:PB}{tw:Env->List Addr}{pi:PL}{body:List Stmt}{pb:PS}{pos:Pos}(hs:∀env x,foldedSetIterable iter env x=pure x)(hi:f9 P B C iter (fun A I ts vol fx St=>mn P A B C C' target zb tw I ts vol fx St) pi)(hb:fu P B C' fr C body pb):
  aR P B C fr C (.For target iter body [] pos) (cC pi zb pb):=fun n A env g V J s k Q E X hbad hq hr=>by
 refine wpAny_For (hi n A env g V J s (fun xs J=>cu zb pb _ xs V J k) _ _ X hbad fun s₁ g1 ts J1 I vol fx St e p w T st hv hx hl=>?_) (hs env)
 have X1:=X.post p w
 have dr:∀{VVV s' g'},(∀a∈VVV,a∈vol)->aW VVV (vol++own env) g1 s₁ g' s'->aW [] (own env) g s g' s':=fun {VVV s' g'} hV q=>
  have qb:∀a,s'.heap.get? a=none->s.heap.get? a=none:=fun a e=>by
   by_cases x:a∈vol
   .exact (hv a x).1
   .exact p.back a (q.back a (fun y=>x (hV a y)) e)
  ⟨Mine.St.trans p.st q.st,fun a o e z o' w=>q.keep a o (p.keep a o e z) (fun x=>(p.Zn a x).elim z (ar e)) (fun ⟨i,x⟩=>o' ⟨i,p.o▸x⟩) fun x=>(ai x).elim (fun x=>ar e (hv a x).1) w,fun a _ e=>qb a e,fun a f=>q.F a (p.F a f),
   fun a f=>(q.Fn a f).elim (fun f=>(p.Fn a f).imp_right .inr) fun x=>.inr (x.imp (fun ⟨i,x⟩=>⟨i,p.o▸x⟩) (p.back a)),fun a f=>(q.Zn a f).elim (p.Zn a) fun x=>.inr (p.back a x),fun a f=>(q.On a f).imp (fun ⟨i,x⟩=>⟨i,p.o▸x⟩) (p.back a),q.sp.trans p.sp,q.sa.trans p.sa⟩
 exact zW T hb ts 0 g1 V J1 s₁ (zero_le _) rfl X1 (fun a ha=>(ai ha).elim (fun ha=>⟨(hv a ha).2.1,(hv a ha).2.2,fun ⟨i,q⟩=>(X.g.O a ⟨i,p.o▸q⟩).1 (hv a ha).1,fun q=>(X.env.own a q).1 (hv a ha).1⟩) (hx a)) st (fun q=>hbad (e.trans q))
  (fun s' g' ρ' J' e' p' X'=>hq s' g' ρ' J' (e.trans e') (dr (fun _ q=>q) p') X') fun x s' g' t J' e' p' w' r'=>hr x s' g' t J' (e.trans e') (dr (VVV:=[]) (fun _ (q:_∈[])=>nomatch q) p') w' (r'.after (p.toS (W:=[])))
theorem dy {vol:List Addr}(X:At P B C n A env g V J s)(hv:ju g env vol)(k:∀a o,s.heap.get? a=some o->a∉vol->h'.get? a=some o)(tk:Nat):bV vol vol g s g {s with heap:=h',toks:=tk}/\At P B C n A env g V J {s with heap:=h',toks:=tk}:=by
 have kk:∀a,g.F a\/g.Z a\/g.O a\/a∈own env->∀o,s.heap.get? a=some o->h'.get? a=some o:=fun a q o e=>k a o e fun x=>let ⟨f,z,o,w⟩:=hv a x;q.elim f fun q=>q.elim z fun q=>q.elim o w
 have kf:aQ g s.heap g h':=⟨fun a f=>⟨f,kk a (.inl f)⟩,rfl⟩
 have lo:∀a,g.F a\/g.Z a\/g.O a\/a∈own env->s.heap.get? a≠none->h'.get? a≠none:=fun a q l=>by
  cases e:s.heap.get? a with
  |none=>exact (l e).elim
  |some o=>exact ar (kk a q o e)
 refine ⟨⟨⟨h',tk,rfl⟩,fun a o e _ n=>k a o e n,fun a v e=>?_,fun _ f=>f,fun _ f=>.inl f,fun _ f=>.inl f,rfl,rfl,rfl⟩,X.good,X.call,X.room,
  X.env.move kf rfl rfl (fun a q=>kk a (.inr (.inr q))) fun a ha=>⟨lo a (.inr (.inr (.inr ha))) (X.env.own a ha).1,(X.env.own a ha).2.1,(X.env.own a ha).2.2.1⟩,
  fun a o e=>⟨(X.g.base a o e).1,kk a (.inl (X.g.base a o e).1) o (X.g.base a o e).2⟩,fun a f=>lo a (.inl f) (X.g.F a f),fun a z=>⟨lo a (.inr (.inl z)) (X.g.Z a z).1,(X.g.Z a z).2⟩,fun a z=>⟨lo a (.inr (.inr (.inl z))) (X.g.O a z).1,(X.g.O a z).2⟩,X.g.oo,
  ⟨let ⟨t,n,e⟩:=X.g.spot.1;⟨t,n,kk _ (.inr (.inl X.g.spot.2.1)) _ e⟩,X.g.spot.2⟩,fun c ts e=>(X.g.self c ts e).mono kf (fun a z=>⟨z,kk a (.inr (.inl z))⟩) rfl⟩
 cases q:s.heap.get? a with
 |none=>rfl
 |some o=>exact (ar (k a o q v) e).elim
theorem eV {vol W:List Addr}(p:bV vol W g s g' s')(lv:∀a∈vol,s'.heap.get? a≠none):bV [] W g s g' s':={p with back:=fun a _ e=>p.back a (fun q=>lv a q e) e}
theorem o4.one {I:Addr}{ts:List T}{vol fx:List Addr}{St:Nat->Gh->Heap->Prop}(T:o4 P A I ts vol fx St){i:Nat}{y:Str}{k:NameKind}{p:Pos}(hc:bO C i false C'=true)(ht:B.tab[i]?=some (some (y,k)))(hk:k=.local\/k=.cell):mn P A B C C' (.Name y p) (ba i) (yh k y) I ts vol fx St where
 sub env:=bQ
 self:=T.self
 stay:=T.stay
 here:=T.here
 item j t n env g V ρ' J s Q E hj X hv st hρ hq:=by
  cases hρ
  have hvv:ju g env vol:=fun a ha=>hv a (mem_append_left _ ha)
  refine T.item j t g s _ _ hj st (fun a ha=>(hvv a ha).1) fun u h' tk hkp r st'=>?_
  obtain ⟨pV,X1⟩:=dy X hvv hkp tk
  have pV:=eV pV fun a ha=>T.here _ _ _ st' a (mem_append_left _ ha)
  show wpAny P.M A (pure ()) _ _ _
  refine wpAny_pure (wpAny_assign_Name (iu X1 hc ht hk r fun s' p' X'=>hq s' ((pV.weak (fun _ h=>h) fun a=>mem_append_left _).trans (p'.weak (fun _ h=>h) fun a=>mem_append_right vol)) X' ?_))
  have pS:=p'.toS.weak bQ
  exact T.stay _ _ _ _ _ st' (pS.k X1.g fun a ha=>(X1.env.own a ha).2.1) (hv.post (s:={s with heap:=h',toks:=tk}) (T.here _ _ _ st') pS).2
 done n env g V J s Q E X hv st hq:=T.done g s _ _ st fun h' tk hkp=>let ⟨pV,X1⟩:=dy X (fun a ha=>hv a (mem_append_left _ ha)) hkp tk;hq _ pV X1
end
section
variable {P:Pg} {B:bG} {C C' C'':Ct} {fr:Bool} {n:Nat} {A:Around} {env:Env} {g g' ga gb:Gh} {V:aP} {J:Sg} {s s' s₁ s₂:Shared} {h h':Heap}
theorem cf {pos:Pos}{l:List (Bool×Sem Value)}(h:∀q∈l,q.1=false):∀q∈backTo pos l,q.1=false:=fun q hq=>by
 obtain ⟨p,h1,rfl⟩:=aC (show q∈List.map _ l from hq)
 exact h p h1
theorem ig {M:Model}{E:Value->Shared->Prop}{f:Value}{trees:List (Bool×Sem Value)}{Q:PySem.Args->Shared->Prop}(hp:∀p∈trees,p.1=false)
  (h:wpAny M A (spliced trees) (fun vs s'=>Q ⟨vs,[]⟩ s') E s):wpAny M A (evalArgs f true trees []) Q E s:=by
 cases trees with
 |nil=>
  unfold evalArgs
  show wpAny M A (spliced [] >>=_) Q E s
  refine wpAny_bind (wpAny_mono h (fun vs s' h'=>?_) fun _ _ x=>x)
  exact wpAny_holding (wpAny_bind (wpAny_pure (wpAny_bind (wpAny_pure (wpAny_pure h')))))
 |cons t r=>
  obtain ⟨b,x⟩:=t
  obtain rfl:b=false:=hp (b,x) mem_cons_self
  exact Calls.evalArgs_plain h
theorem At.base (X:At P B C n A env g V J s):∀a o,P.h₀.get? a=some o->s.heap.get? a=some o:=fun a o e=>(X.g.base a o e).2
theorem At.blt (X:At P B C n A env g V J s){x:Str}{pos:Pos}{v:Value}{Q:Value->Shared->Prop}{E:Value->Shared->Prop}(hx:B.sc.names.lookup x=some .globalImplicit)(hd:(x==("__debug__":Str))=false)
  (hm:x∈jk)(hv:bootBuiltins x=some v)(h:Q v s):wpAny P.M A (eval (.Name x pos) env) Q E s:=
 have ⟨g1,g2⟩:=X.good.blt x hm
 Calls.Name_function_global X.fn (show env.scope.names.lookup x=_ from X.env.sc▸hx) (Calls.loadGlobal_builtin (mg:=P.mg) (mb:=P.mb) (X.env.glob▸X.good.g.keeps X.base) g1 (X.env.blt▸X.good.b.keeps X.base) (g2.trans hv) h) hd
theorem yY {o:cj}{k:PK T}(h:vI o k≠.bad):∃t J,o=.ret t J:=by
 cases o with
 |ret t J=>exact ⟨t,J,rfl⟩
 |_=>exact absurd (by with_unfolding_all rfl) h
theorem AU.after {fr:Bool}{t:T}{x:Value}{he:Heap}(b:∀a,he.get? a=none->h.get? a=none)(r:AU P fr he g' h' t x):AU P fr h g' h' t x:=by
 cases fr with
 |false=>exact r
 |true=>exact HC _ _ _ _ _ _ b r
theorem xH.after {f:Nat}{t:T}{x:Value}{he:Heap}(b:∀a,he.get? a=none->h.get? a=none)(r:xH P f he g' h' t x):xH P f h g' h' t x:=⟨r.1.after b,fun q ts e=>(r.2 q ts e).mono (fun l=>b l) (fun _ f=>f) fun _ _ _ e=>e⟩
noncomputable abbrev RF (P:Pg)(f:Nat):RR Value T:=fun h g' h' t x=>xH P f h g' h' t x
theorem tt {f:Nat}{ts:List T}{vs:List Value}{t:T}{J':Sg}{Q:Value->Shared->Prop}{E:Value->Shared->Prop}(X:At P B C n A env g V J s)(r:Args P (rR f) g s.heap ts vs)(e:aw P.Ψ n f ts J=.ret t J')(hq:∀x s' g',aJ g s g' s'->bC P g' s'.heap J'->xH P f s.heap g' s'.heap t x->Q x s'):
  wpAny P.M A (PySem.call (.ref (P.fnA f)) vs) Q E s:=
 wpAny_call (codeAny_mono (X.call n (le_refl n) f A ts vs g J s t J' Q E X.room.c X.g r e hq) fun r s' q=>by
  match r,q with
  |.ok (.ret u),q=>exact q
  |.ok .next,q=>exact q.elim
  |.ok .brk,q=>exact q.elim
  |.ok .cont,q=>exact q.elim
  |.error u,q=>exact q)
theorem aq.callF {y:Str}{f:Nat}{F:gE}{es:List Expr}{ps:PL}{p pos:Pos}(hf:P.Ψ f=some F)(hn:P.gl f=true/\(P.fd f).name=y)(hm:rR f=false)(hx:B.sc.names.lookup y=some .globalImplicit)(hd:(y==("__debug__":Str))=false)(h:iq P B C es ps):
  aq P B C (.Call (.Name y p) es [] pos) (ax f ps) (RF P f):=fun n A env g V J s k Q E X hb hq=>by
 obtain ⟨o,g1,g2,g3,g4⟩:=X.good.fn f F hf
 refine Call_Name rfl (X.glob hx hd (hn.2▸g3 hn.1) ?_)
 refine Calls.callWith_function (fd:=P.fd f) (o:=o) (ig (cf (h.pl env)) (h.sim pos n A env g V J s _ _ E X hb fun xs s₁ ga ts J1 e p w r=>?_))
 have X1:=X.post p w
 obtain ⟨t,J2,ea⟩:=yY fun q=>hb (e.trans q)
 exact ⟨⟨X1.base _ _ g1,g2⟩,tt X1 (by rw [hm];exact r) ea fun x s' g' p' w' r'=>hq x s' g' t J2 (e.trans (by rw [ea,Da])) (p.trans p') w' (r'.after p.back)⟩
theorem aq.call {y:Str}{f:Nat}{F:gE}{es:List Expr}{ps:PL}{p pos:Pos}(hf:P.Ψ f=some F)(hn:P.gl f=true/\(P.fd f).name=y)(hm:rR f=false)(hfr:iN f=false)(hx:B.sc.names.lookup y=some .globalImplicit)(hd:(y==("__debug__":Str))=false)(h:iq P B C es ps):
  aq P B C (.Call (.Name y p) es [] pos) (ax f ps) (RV P):=(aq.callF hf hn hm hx hd h).weak fun _ _ _ _ _ r=>by have r:=r.1;unfold AU at r;rw [hfr] at r;exact r
theorem aq.callN {y:Str}{f:Nat}{F:gE}{es:List Expr}{ps:PL}{p pos:Pos}(hf:P.Ψ f=some F)(hn:P.gl f=true/\(P.fd f).name=y)(hm:rR f=false)(hfr:iN f=true)(hx:B.sc.names.lookup y=some .globalImplicit)(hd:(y==("__debug__":Str))=false)(h:iq P B C es ps):
  aq P B C (.Call (.Name y p) es [] pos) (ax f ps) (RN P):=(aq.callF hf hn hm hx hd h).weak fun _ _ _ _ _ r=>by have r:=r.1;unfold AU at r;rw [hfr] at r;exact r
theorem bM {M:Model}{E:Value->Shared->Prop}{pos:Pos}{f:Value}{first:List Value}{args:List (Bool×Sem Value)}{Q:Value->Shared->Prop}(hf:∀a,f≠.ref a)(hp:∀p∈args,p.1=false)
  (h:wpAny M A (spliced args) (fun vs s₁=>wpAny M A (PySem.call f (first++vs) []) Q E s₁) E s):wpAny M A (callWith pos f first args []) Q E s:=by
 have hany:args.any (·.1)=false:=List.any_eq_false.mpr fun p hp'=>by rw [hp p hp'];decide
 have h':=ig (f:=f) (Q:=fun a s₁=>wpAny M A (PySem.call f (first++a.pos) a.kw) Q E s₁) hp h
 have hkp:keeperOf f=pure .machine:=by
  cases f<;>first |rfl |exact absurd rfl (hf _)
 unfold callWith
 refine wpAny_bind (wpAny_holding (wpAny_mono h' (fun a s₁ he=>wpAny_bind (wpAny_standAt ?_)) fun _ _ x=>x))
 rw [hkp,hany]
 refine wpAny_bind (wpAny_pure ?_)
 exact wpAny_bind (wpAny_mono he (fun r s₂ hr=>wpAny_bind (wpAny_holding (wpAny_point (wpAny_pure hr)))) fun _ _ x=>x)
theorem aq.b1Y {y:Str}{id:Value}{F:T->Option T}{e:Expr}{p:PE}{pn pos:Pos}{R:RR Value T}(hd:Dn R)(o:AW P (Fd P fun x=>PySem.call id [x]) F R)(hid:∀a,id≠.ref a)(hx:B.sc.names.lookup y=some .globalImplicit)(hdb:(y==("__debug__":Str))=false)(hm:y∈jk)(hv:bootBuiltins y=some id)
  (hn:∀env,starEach [e] env=[(false,eval e env)])(h:aq P B C e p (RY P)):aq P B C (.Call (.Name y pn) [e] [] pos) (p1 F p) R:=fun n A env g V J s k Q E X hb hq=>
 Call_Name rfl (X.blt hx hdb hm hv (bM hid (cf (by rw [hn env];exact fun q hq=>by cases hq with |head=>rfl |tail _ h=>cases h))
  (wpAny_items_cons (wpAny_mono (h.op1 hd o n A env g V J s k Q E X hb hq) (fun _ _ q=>wpAny_items_nil q) fun _ _ q=>q) (hn env))))
theorem aq.b1 {y:Str}{id:Value}{F:T->Option T}{e:Expr}{p:PE}{pn pos:Pos}{R:RR Value T}(hd:Dn R)(o:AW P (Fd P fun x=>PySem.call id [x]) F R)(hid:∀a,id≠.ref a)(hx:B.sc.names.lookup y=some .globalImplicit)(hdb:(y==("__debug__":Str))=false)(hm:y∈jk)(hv:bootBuiltins y=some id)
  (hn:∀env,starEach [e] env=[(false,eval e env)])(h:aq P B C e p (RX P)):aq P B C (.Call (.Name y pn) [e] [] pos) (p1 F p) R:=.b1Y hd o hid hx hdb hm hv hn h.xy
theorem ib {I:Addr}{h h':Heap}(hs:∀b,b≠I->h'.get? b=h.get? b):∀a o,h.get? a=some o->a∉[I]->h'.get? a=some o:=fun a o e q=>(hs a fun x=>q (x▸ay rfl)).trans e
theorem uH {I:Addr}{h h':Heap}(hs:∀b,b≠I->h'.get? b=h.get? b)(hI:¬g.F I):aQ g h g h':=⟨fun a f=>⟨f,fun o e=>(hs a fun q=>hI (q▸f)).trans e⟩,rfl⟩
theorem o4.list (hh:A.handled=none){I l:Addr}{ts:List T}{vs:Array Value}{m:Nat}:o4 P A I ts [I] [] (fun i g h=>h.IsListIter I l i/\g.F l/\h.get? l=some (bA vs m)/\aZ P g h ts vs.toList) where
 self i g s Q E st:=wpAny_pyIter_listiter st.1
 stay i g h g' h' st k ki:=by
  obtain ⟨⟨o,e,r⟩,f,e',q⟩:=st
  exact ⟨⟨o,ki I (ay rfl) o e,r⟩,(k.F l f).1,(k.F l f).2 _ e',q.mono k⟩
 here i g h st a ha:=by
  obtain ⟨⟨o,e,_⟩,_⟩:=st
  rw [aa ha];exact ar e
 item i t g s Q E hi st hF hq:=by
  obtain ⟨it,f,e',q⟩:=st
  obtain ⟨u,hu,r⟩:=q.get hi
  refine wpAny_pyNext_list_item it ⟨_,e',rfl,m,rfl⟩ (by rw [<-Array.getElem?_toList];exact hu) fun h' it' hs=>?_
  have kf:=uH hs.2 (hF I (ay rfl))
  exact hq u h' s.toks (ib hs.2) (r.mono kf) ⟨it',f,(kf.F l f).2 _ e',q.mono kf⟩
 done g s Q E st hq:=by
  obtain ⟨it,f,e',q⟩:=st
  refine wpAny_pyNext_list_end hh it ⟨_,e',rfl,m,rfl⟩ (Array.getElem?_eq_none (le_of_eq q.size)) fun h' hs=>hq h' s.toks fun b o e hb=>hs b o (fun q=>hb (ay q)) e
theorem o4.tuple (hh:A.handled=none){I l:Addr}{ts:List T}{vs:Array Value}{m:Nat}:o4 P A I ts [I] [] (fun i g h=>h.IsTupleIter I l i/\g.F l/\h.get? l=some (dW vs m)/\aZ P g h ts vs.toList) where
 self i g s Q E st:=wpAny_pyIter_tupleiter st.1
 stay i g h g' h' st k ki:=by
  obtain ⟨⟨o,e,r⟩,f,e',q⟩:=st
  exact ⟨⟨o,ki I (ay rfl) o e,r⟩,(k.F l f).1,(k.F l f).2 _ e',q.mono k⟩
 here i g h st a ha:=by
  obtain ⟨⟨o,e,_⟩,_⟩:=st
  rw [aa ha];exact ar e
 item i t g s Q E hi st hF hq:=by
  obtain ⟨it,f,e',q⟩:=st
  obtain ⟨u,hu,r⟩:=q.get hi
  refine wpAny_pyNext_tuple_item it ⟨_,e',rfl,m,rfl⟩ (by rw [<-Array.getElem?_toList];exact hu) fun h' it' hs=>?_
  have kf:=uH hs.2 (hF I (ay rfl))
  exact hq u h' s.toks (ib hs.2) (r.mono kf) ⟨it',f,(kf.F l f).2 _ e',q.mono kf⟩
 done g s Q E st hq:=by
  obtain ⟨it,f,e',q⟩:=st
  exact wpAny_pyNext_tuple_end hh it ⟨_,e',rfl,m,rfl⟩ (Array.getElem?_eq_none (le_of_eq q.size)) fun h' hs=>hq h' s.toks fun b o e hb=>hs b o (fun q=>hb (ay q)) e
noncomputable abbrev s7 (c:String)(l:Addr):Obj:={cls:=.type c,data:=.fields #[.ref l,.int 0 0]}
noncomputable abbrev xJ (P:Pg)(B:bG)(C C':Ct)(target:Expr)(zb:PB)(tw:Env->List Addr):Around->Addr->List T->List Addr->List Addr->(Nat->Gh->Heap->Prop)->Prop:=fun A I ts vol fx St=>mn P A B C C' target zb tw I ts vol fx St
structure kR (P:Pg) (mk:Around->Addr->List T->List Addr->List Addr->(Nat->Gh->Heap->Prop)->Prop):Prop where
 make:∀{A I ts vol fx St},o4 P A I ts vol fx St->mk A I ts vol fx St
theorem kR.one {i:Nat}{y:Str}{k:NameKind}{p:Pos}(hc:bO C i false C'=true)(ht:B.tab[i]?=some (some (y,k)))(hk:k=.local\/k=.cell):kR P (xJ P B C C' (.Name y p) (ba i) (yh k y)):=⟨fun T=>T.one hc ht hk⟩
theorem uA {X:Obj}{tk:Nat}(w:bC P ga s₁.heap J)(p:aJ g s ga s₁):aJ g s ga {s₁ with heap:=s₁.heap.push X,toks:=tk}/\bC P ga (s₁.heap.push X) J/\∀a∈[s₁.heap.objs.size],s.heap.get? a=none/\¬ga.F a/\¬ga.Z a:=
 ⟨p.trans (.push X tk),w.push X,fun a ha=>by rw [aa ha];exact ⟨p.back _ (aN _),(dM w).1,(dM w).2.1⟩⟩
theorem f9.seq {e:Expr}{p:PE}{mk:Around->Addr->List T->List Addr->List Addr->(Nat->Gh->Heap->Prop)->Prop}(hb:kR P mk)(h:aq P B C e p (RV P)):f9 P B C e mk (bm p):=fun n A env g V J s k Q E X hbad hq=>
 h n A env g V J s (fun t J=>up (gO t) J k) _ E X hbad fun x s₁ ga t J1 e p w r=>by
  obtain ⟨ts,e'⟩:=ch fun q=>hbad (e.trans q)
  have ek:bm _ (P.cx n) V J k=k ts J1:=e.trans (by rw [e'];rfl)
  unfold gO el at e'
  cases e1:oQ t with
  |some us=>
   rw [e1] at e';cases e';cases jn e1
   obtain ⟨l,rfl,f,vs,m,g1,g3,g2⟩:=r
   refine wpAny_pyIter_tuple ⟨_,g1,rfl,m,rfl⟩ ?_
   obtain ⟨p',w',v⟩:=uA (X:=s7 "tuple_iterator" l) (tk:=s₁.toks) w p
   exact hq _ ga ts J1 _ _ [] _ ek p' w' (hb.make (o4.tuple X.room.2.2)) ⟨⟨_,bF _,rfl,rfl⟩,f,cq s₁ _ _ _ g1,g2.mono ((aJ.push (s7 "tuple_iterator" l) 0).k w)⟩ v (fun _ q=>nomatch q) g3
  |none=>
   rw [e1] at e';cases fq e'
   obtain ⟨l,rfl,f,vs,m,g1,g3,g2⟩:=r
   refine wpAny_pyIter_list ⟨_,g1,rfl,m,rfl⟩ ?_
   obtain ⟨p',w',v⟩:=uA (X:=s7 "list_iterator" l) (tk:=s₁.toks) w p
   exact hq _ ga ts J1 _ _ [] _ ek p' w' (hb.make (o4.list X.room.2.2)) ⟨⟨_,bF _,rfl,rfl⟩,f,cq s₁ _ _ _ g1,g2.mono ((aJ.push (s7 "list_iterator" l) 0).k w)⟩ v (fun _ q=>nomatch q) g3
theorem o4.range (hh:A.handled=none){I:Addr}{a b c:Int}(n:Nat)(hn:n=(Builtin.Range.rangeSize a b c).toNat):o4 P A I (dJ a b c) [I] [] (fun i _ h=>i<=n/\IsRangeIter h I (a+(i:Nat) * c) ((n:Int) - (i:Nat)) c) where
 self i g s Q E st:=wpAny_pyIter_rangeiter st.2
 stay i g h g' h' st k ki:=⟨st.1,ki I (ay rfl) _ st.2⟩
 here i g h st a ha:=by rw [aa ha];exact ar st.2
 item i t g s Q E hi st hF hq:=by
  have hl:i < n:=by
   have:=(ak hi).1
   rw [dJ,length_map,length_range,<-hn] at this;exact this
  have ht:t=.int (a+(i:Nat) * c):=by
   rw [dJ,getElem?_map,List.getElem?_range (by rw [<-hn];exact hl)] at hi
   exact (Option.some.inj hi).symm
  refine wpAny_pyNext_range_item st.2 (by lia -abstractProof) fun h' hit hs=>hq _ h' _ (ib hs.2) (ht▸⟨_,rfl⟩) ⟨hl,?_⟩
  have e1:a+((i+1:Nat):Int) * c=a+(i:Int) * c+c:=by rw [Int.natCast_succ,Int.add_mul,Int.one_mul,Int.add_assoc]
  have e2:(n:Int) - ((i+1:Nat):Int)=(n:Int) - (i:Int) - 1:=by lia -abstractProof
  rw [e1,e2];exact hit
 done g s Q E st hq:=by
  have hl:(dJ a b c).length=n:=by rw [dJ,length_map,length_range,hn]
  exact wpAny_pyNext_range_end hh st.2 (by rw [hl];lia -abstractProof) fun h' hs=>hq h' s.toks fun b o e hb=>hs b o (fun q=>hb (ay q)) e
theorem Dr {i:Int}(h1:-4000000000<=i)(h2:i<=4000000000):Builtin.Range.rangeFitsLong i=true:=and_eq_true_iff.mpr ⟨decide_eq_true (Int.le_trans (by decide) h1),decide_eq_true (Int.lt_of_le_of_lt h2 (by decide))⟩
theorem vp {i:Int}(h:sm i=true):-1000000000<=i/\i<=1000000000:=
 have q:(i.natAbs:Int)<=1000000000:=cc (yw h)
 ⟨Int.neg_le_of_neg_le (Int.le_trans (Int.natAbs_neg i▸le_natAbs) q),Int.le_trans le_natAbs q⟩
theorem FN {a b:Int}(ha:sm a=true)(hb:sm b=true):0<=(if a < b then (b - a - 1) / 1+1 else 0:Int)/\(if a < b then (b - a - 1) / 1+1 else 0:Int)<=4000000000:=by
 by_cases h:a < b
 .rw [if_pos h,ediv_one,Int.sub_add_cancel];exact ⟨Int.sub_nonneg.mpr (Int.le_of_lt h),Int.le_trans (Int.sub_le_sub (vp hb).2 (vp ha).1) (by decide)⟩
 .rw [if_neg h];decide
theorem Dq {a:Int}(h:sm a=true):Builtin.Range.rangeFitsLong a=true:=Dr (Int.le_trans (by decide) (vp h).1) (Int.le_trans (vp h).2 (by decide))
theorem Jd {a b c n d:Int}(ha:sm a=true)(hb:sm b=true)(hc:Builtin.Range.rangeFitsLong c=true)(hn:0<=n/\n<=4000000000)(hd:d=b):(Builtin.Range.rangeFitsLong a&&Builtin.Range.rangeFitsLong b&&Builtin.Range.rangeFitsLong c&&Builtin.Range.rangeFitsLong n&&(n==0||Builtin.Range.rangeFitsLong d))=true:=by
 rw [Dq ha,hd,Dq hb,hc,Dr (Int.le_trans (by decide) hn.1) hn.2,Bool.or_true];rfl
theorem A7 {a b:Int}(ha:sm a=true)(hb:sm b=true):0<=Builtin.Range.rangeSize a b 1/\Builtin.Range.small a b 1=true:=by
 have e:Builtin.Range.rangeSize a b 1=if a < b then (b - a - 1) / 1+1 else 0:=if_pos (by decide)
 have h:=FN ha hb
 rw [<-e] at h
 exact ⟨h.1,Jd ha hb (by decide) h (Int.add_zero b)⟩
inductive Jw (ts:List T) (vs:List Value) (l:List T):Prop
 |one (n:Int) (t:Tok) (e:vs=[.int n t]) (h:rg 0 n=some l)
 |two (m n:Int) (t u:Tok) (e:vs=[.int m t,.int n u]) (h:rg m n=some l)
theorem uq {ts l:List T}{vs:List Value}(r:aZ P g h ts vs)(e:vy ts=some l):Jw ts vs l:=by
 unfold vy at e
 cases ts with
 |nil=>cases e
 |cons m r1=>
  obtain ⟨x,xs,e1,q1,q2⟩:=r
  cases r1 with
  |nil=>
   obtain ⟨i,h1,h2⟩:=aB (show o1 (i7 m) (rg 0)=some l from e)
   cases jo h1
   obtain ⟨t,rfl⟩:=q1
   cases q2
   exact .one i t e1 h2
  |cons m' r2=>
   obtain ⟨x',xs',e2,q3,q4⟩:=q2
   cases r2 with
   |nil=>
    obtain ⟨i,j,h1,h2,h3⟩:=bz (show o2 (i7 m) (i7 m') rg=some l from e)
    cases jo h1;cases jo h2
    obtain ⟨t,rfl⟩:=q1
    obtain ⟨u,rfl⟩:=q3
    cases q4
    exact .two i j t u (e2▸e1) h3
   |cons=>cases e
noncomputable abbrev Ii (a b:Int)(t u v:Tok):Obj:={cls:=.type "range",data:=.fields #[.int a t,.int b u,.int 1 v]}
theorem f9.range {es:List Expr}{ps:PL}{p pos:Pos}{mk:Around->Addr->List T->List Addr->List Addr->(Nat->Gh->Heap->Prop)->Prop}(hb:kR P mk)(hx:B.sc.names.lookup (ofString "range")=some .globalImplicit)(h:iq P B C es ps):
  f9 P B C (.Call (.Name (ofString "range") p) es [] pos) mk (cV ps):=fun n A env g V J s k Q E X hbad hq=>by
 refine Call_Name rfl (X.blt hx (by decide) (by decide) (v:=.type "range") (by decide) ?_)
 refine bM (fun _ q=>by cases q) (cf (h.pl env)) (h.sim pos n A env g V J s (fun t J=>up (vy t) J k) _ E X hbad fun xs s₁ ga ts J1 e p w r=>?_)
 obtain ⟨l,e'⟩:=ch fun q=>hbad (e.trans q)
 have ek:cV ps (P.cx n) V J k=k l J1:=e.trans (by rw [e'];rfl)
 have fin:∀(a b:Int) (t u v:Tok) (tk:Nat),rg a b=some l->wpAny P.M A (pyIter (.ref s₁.heap.objs.size)) Q E {s₁ with heap:=s₁.heap.push (Ii a b t u v),toks:=tk}:=fun a b t u v tk hr=>by
  obtain ⟨c,rfl⟩:=dD hr
  obtain ⟨c1,c2⟩:=aj c
  obtain ⟨c3,c4⟩:=aj c1
  obtain ⟨hsz,hsm⟩:=A7 c3 c4
  refine wpAny_pyIter_range (IsRange.new s₁.heap a b 1 t u v) hsm ?_
  obtain ⟨p',w',_⟩:=uA (X:=Ii a b t u v) (tk:=tk) w p
  obtain ⟨p'',w'',v''⟩:=uA (s₁:={s₁ with heap:=s₁.heap.push (Ii a b t u v),toks:=tk}) (X:={cls:=.type "range_iterator",data:=.fields #[rawInt a,rawInt (Builtin.Range.rangeSize a b 1),rawInt 1]}) (tk:=tk) w' p'
  refine hq _ ga _ J1 _ _ [] _ ek p'' w'' (hb.make (o4.range X.room.2.2 (Builtin.Range.rangeSize a b 1).toNat rfl)) ⟨zero_le _,?_⟩ v'' (fun _ q=>nomatch q) (fB c2)
  have e1:a+((0:Nat):Int) * 1=a:=by simp
  have e2:(((Builtin.Range.rangeSize a b 1).toNat:Int) - ((0:Nat):Int))=Builtin.Range.rangeSize a b 1:=by lia -abstractProof
  show IsRangeIter _ _ _ _ _
  rw [e1,e2];exact bF _
 rcases uq r e' with ⟨m,t,rfl,hr⟩ | ⟨m,m',t,u,rfl,hr⟩
 .exact call_range_1 (fin 0 m _ t _ _ hr)
 .exact call_range_2 (fin m m' t u _ _ hr)
end
theorem qm {kind:Str->Option NameKind}{x:Str}:∀(l:List (Str×Value)) (m:Str->Option Value),(∀p∈l,p.1≠x)->bindL kind l m x=m x
 | [],_,_=>rfl
 | (y,v)::r,m,h=>by
  rw [bindL,qm r _ fun p hp=>h p (mem_cons_of_mem _ hp)]
  have hy:¬x=y:=fun e=>h (y,v) mem_cons_self e.symm
  split
  .simp [hy]
  .rfl
theorem qo {kind:Str->Option NameKind}{x:Str}:∀(l:List (Str×Value)) (m:Str->Option Value),(∀p∈l,p.1≠x)->bindC kind l m x=m x
 | [],_,_=>rfl
 | (y,v)::r,m,h=>by
  rw [bindC,qo r _ fun p hp=>h p (mem_cons_of_mem _ hp)]
  have hy:¬x=y:=fun e=>h (y,v) mem_cons_self e.symm
  split
  .rfl
  .simp [hy]
theorem m5 {x:Str}{ps:List Str}{vs:List Value}(h:x∉ps):∀p∈ps.zip vs,p.1≠x:=fun p hp e=>h (e▸(List.of_mem_zip (a:=p.1) (b:=p.2) hp).1)
theorem tR {kind:Str->Option NameKind}:∀(ps:List Str) (vs:List Value) (m:Str->Option Value),ps.Nodup->∀(i:Nat) (x:Str) (v:Value),ps[i]?=some x->vs[i]?=some v->kind x=some .local->bindL kind (ps.zip vs) m x=some v
 | [],_,_,_,i,x,v,h,_,_=>by simp at h
 |_::_,[],_,_,i,x,v,_,h,_=>by simp at h
 |y::ps,u::vs,m,hn,0,x,v,hx,hv,hk=>by
  simp at hx hv;subst hx hv
  rw [List.zip_cons_cons,bindL,qm _ _ (m5 (aX hn).1),if_pos hk];simp
 |y::ps,u::vs,m,hn,i+1,x,v,hx,hv,hk=>by
  rw [List.zip_cons_cons,bindL]
  exact tR ps vs _ (aX hn).2 i x v (by simpa using hx) (by simpa using hv) hk
theorem tS {kind:Str->Option NameKind}:∀(ps:List Str) (vs:List Value) (m:Str->Option Value),ps.Nodup->∀(i:Nat) (x:Str) (v:Value),ps[i]?=some x->vs[i]?=some v->kind x≠some .local->bindC kind (ps.zip vs) m x=some v
 | [],_,_,_,i,x,v,h,_,_=>by simp at h
 |_::_,[],_,_,i,x,v,_,h,_=>by simp at h
 |y::ps,u::vs,m,hn,0,x,v,hx,hv,hk=>by
  simp at hx hv;subst hx hv
  rw [List.zip_cons_cons,bindC,qo _ _ (m5 (aX hn).1),if_neg hk];simp
 |y::ps,u::vs,m,hn,i+1,x,v,hx,hv,hk=>by
  rw [List.zip_cons_cons,bindC]
  exact tS ps vs _ (aX hn).2 i x v (by simpa using hx) (by simpa using hv) hk
theorem qZ {cs:List (Str×Addr)}(h:cs.Pairwise fun x y=>x.2≠y.2):∀{x y:Str} {c:Addr},cs.lookup x=some c->cs.lookup y=some c->x=y:=by
 induction cs with
 |nil=>intro x y c hx;cases hx
 |cons p r ih=>
  intro x y c hx hy
  obtain ⟨z,d⟩:=p
  have h1:=(List.pairwise_cons.mp h).1
  rw [lookup_cons] at hx hy
  have out:∀{w:Str},r.lookup w=some d->False:=fun {w} e=>by
   obtain ⟨q,hq,e'⟩:=aC (bB e)
   exact h1 q hq e'.symm
  cases hx':(x==z) with
  |true=>
   simp only [hx'] at hx;cases hx
   cases hy':(y==z) with
   |true=>exact (beq_iff_eq.mp hx').trans (beq_iff_eq.mp hy').symm
   |false=>simp only [hy'] at hy;exact (out hy).elim
  |false=>
   simp only [hx'] at hx
   cases hy':(y==z) with
   |true=>simp only [hy'] at hy;cases hy;exact (out hx).elim
   |false=>simp only [hy'] at hy;exact ih (List.pairwise_cons.mp h).2 hx hy
structure Hb (P:Pg) (f np:Nat) (tab:List (Option (Str×NameKind))) (ps:List Str) (bd:List Stmt) (U:List Nat):Prop where
 body:(P.fd f).body=.stmts bd
 ok:bG.ok ⟨(P.fd f).scope,tab⟩=true
 len:ps.length=np
 par:∀(i:Nat) (x:Str),ps[i]?=some x->∃k:NameKind,tab[i]?=some (some (x,k))/\(k=.local\/k=.cell)
 nof:∀(i:Nat) (x:Str),tab[i]?≠some (some (x,.free))
 bind:∀vals:List Value,vals.length=np->bindArgs (P.fd f) ⟨vals,[]⟩=pure (ps.zip vals)
 nd:((cellsFrom 0 (P.fd f).scope.names []).map (·.1)).Nodup
 co:(P.fd f).scope.isCoroutine=false/\(P.fd f).scope.isGenerator=false
 un:∀i∈U,np<=i
inductive xM (P:Pg) (f:Nat) (F:gE):Prop
 |mk (tab:List (Option (Str×NameKind))) (ps:List Str) (bd:List Stmt) (U:List Nat) (C':Ct) (K:Hb P f F.np tab ps bd U) (tu:A3 f=true->yg ⟨(P.fd f).scope,tab⟩=true/\iN f=false) (sim:fu P ⟨(P.fd f).scope,tab⟩ ⟨[],U,rR f⟩ (iN f) C' bd F.body)
theorem oW.deeper {A:Around}{n:Nat}(env:Env)(h:oW A (n+1)):CS (A.deeper env) n:=by
 obtain ⟨h1,h2,h3⟩:=h
 refine ⟨?_,?_,h3⟩
 .show A.depth+1+2 * n+10 < recursionLimit;lia -abstractProof
 .show A.units+3+20 * n+200 < cLine;lia -abstractProof
theorem iA {n i:Nat}{t:T}:∀{ts:List T},bX (frame ts n) i=some t->ts[i]?=some t:=by
 intro ts
 induction ts generalizing i with
 |nil=>
  intro h
  have:∀n i,bX (replicate n none) i=none:=fun n=>by
   induction n with
   |zero=>exact fun _=>rfl
   |succ n ih=>intro i;cases i with
    |zero=>rfl
    |succ i=>exact ih i
  rw [show frame [] n=replicate n none from rfl,this] at h;cases h
 |cons x ts ih=>
  intro h
  cases i with
  |zero=>exact h
  |succ i=>exact ih h
theorem y3 {n i:Nat}{ts:List T}(h:ts.length<=i):bX (frame ts n) i=none:=by
 cases e:bX (frame ts n) i with
 |none=>rfl
 |some t=>exact absurd (ak (iA e)).1 (not_lt.mpr h)
theorem Args.get {P:Pg}{m:Bool}{g:Gh}{h:Heap}{ts:List T}{vs:List Value}(a:Args P m g h ts vs):vs.length=ts.length/\∀(i:Nat) (t:T),ts[i]?=some t->∃v,vs[i]?=some v/\(Rp P g h t v\/(m=true/\i=0/\t=.self/\v=.ref g.sa)):=by
 cases m with
 |false=>exact ⟨aZ.length a,fun i t e=>let ⟨v,e',r⟩:=aZ.get a e;⟨v,e',.inl r⟩⟩
 |true=>
  obtain ⟨v,vs,t,ts,rfl,rfl,h1,h2⟩:=a
  refine ⟨congrArg (·+1) (aZ.length h2),fun i u e=>?_⟩
  cases i with
  |zero=>cases e;exact ⟨v,rfl,h1.imp id fun q=>⟨rfl,rfl,q⟩⟩
  |succ i=>exact let ⟨v,e',r⟩:=aZ.get h2 (i:=i) e;⟨v,e',.inl r⟩
theorem Args.mono {P:Pg}{m:Bool}{g g':Gh}{h h':Heap}{ts:List T}{vs:List Value}(k:aQ g h g' h')(es:g'.sa=g.sa)(a:Args P m g h ts vs):Args P m g' h' ts vs:=by
 cases m with
 |false=>exact aZ.mono k a
 |true=>exact let ⟨v,vs,t,ts,e,e',h1,h2⟩:=a;⟨v,vs,t,ts,e,e',h1.imp (·.mono k) fun q=>⟨q.1,es▸q.2⟩,h2.mono k⟩
theorem EK (g:Gh)(o:Nat->Option Addr)(h:Heap):aQ g h {g with o:=o} h:=⟨fun _ f=>⟨f,fun _ e=>e⟩,rfl⟩
theorem bC.callee {P:Pg}{g:Gh}{h h':Heap}{J:Sg}(w:bC P g h J)(k:∀a o,h.get? a=some o->h'.get? a=some o):bC P {g with o:=fun _=>none} h' J:=by
 have w1:=w.grow k g.F (fun _ f=>f) fun _ f=>.inl f
 exact ⟨w1.base,w1.F,w1.Z,(fun a ⟨_,q⟩=>nomatch q),(fun _ _ _ q=>nomatch q),w1.spot,fun c ts e=>(w1.self c ts e).mono (EK g _ h') (fun _ z=>⟨z,fun _ e=>e⟩) rfl⟩
theorem tx {P:Pg}{g g':Gh}{s s₁ s':Shared}{J J':Sg}{W:List Addr}(hs:∃h tk,s₁={s with heap:=h,toks:=tk})(hk:∀a o,s.heap.get? a=some o->s₁.heap.get? a=some o)(w:bC P g s.heap J)(hW:∀a∈W,s.heap.get? a=none)(q:aW [] W {g with o:=fun _=>none} s₁ g' s')(w':bC P g' s'.heap J'):
  aJ g s {g' with o:=g.o} s'/\bC P {g' with o:=g.o} s'.heap J':=by
 have bk:∀a,s₁.heap.get? a=none->s.heap.get? a=none:=fun a e=>by
  cases x:s.heap.get? a with
  |none=>rfl
  |some o=>exact (ar (hk a o x) e).elim
 have fn:∀a,g'.F a->g.F a\/s.heap.get? a=none:=fun a f=>(q.Fn a f).imp id fun x=>x.elim (fun ⟨_,x⟩=>nomatch x) (bk a)
 have zn:∀a,g'.Z a->g.Z a\/s.heap.get? a=none:=fun a f=>(q.Zn a f).imp id (bk a)
 have kp:∀a o,s.heap.get? a=some o->¬g.Z a->s'.heap.get? a=some o:=fun a o e z=>q.keep a o (hk a o e) z (fun ⟨_,x⟩=>nomatch x) fun x=>ar e (hW a x)
 refine ⟨⟨St.trans hs q.st,kp,fun a e=>bk a (q.b a e),q.F,fn,zn,rfl,q.sp,q.sa⟩,w'.base,w'.F,w'.Z,fun a x=>?_,w.oo,w'.spot,fun c ts e=>(w'.self c ts e).mono (EK g' _ s'.heap) (fun _ z=>⟨z,fun _ e=>e⟩) rfl⟩
 obtain ⟨l,f,z⟩:=w.O a x
 refine ⟨?_,fun y=>(fn a y).elim f l,fun y=>(zn a y).elim z l⟩
 cases e:s.heap.get? a with
 |none=>exact (l e).elim
 |some o=>exact ar (kp a o e z)
theorem Dt {P:Pg}(G:t7 P){f np ns:Nat}{F:gE}{m:Bool}{tab:List (Option (Str×NameKind))}{ps:List Str}{bd:List Stmt}{U:List Nat}(hf:P.Ψ f=some F)(K:Hb P f np tab ps bd U){A:Around}{ts:List T}{vs:List Value}{g:Gh}{s:Shared}{R:Result->Shared->Prop}(hd:A.depth < recursionLimit)(bs:∀a o,P.h₀.get? a=some o->s.heap.get? a=some o)
  (lF:∀a,g.F a->s.heap.get? a≠none)(lZ:∀a,g.Z a->s.heap.get? a≠none)(r:Args P m g s.heap ts vs)(hlen:ts.length=np)
  (k:∀s₁ env E,(∃h tk,s₁={s with heap:=h,toks:=tk})->(∀a o,s.heap.get? a=some o->s₁.heap.get? a=some o)->(∀a∈own env,s.heap.get? a=none)->cB P ⟨(P.fd f).scope,tab⟩ ⟨[],U,m⟩ env {g with o:=fun _=>none} (frame ts ns) s₁.heap->wpAny P.M (A.deeper env) (execs bd env) (fun f s'=>R (.ok (.ret (match f with |.ret v=>v |_=>.none))) s') E s₁):
  codeAny P.M A (.call (.ref (P.fnA f)) ⟨vs,[]⟩) R s:=by
 obtain ⟨o,g1,g2,g3,g4,g5,g6,g7⟩:=G.fn f F hf
 obtain ⟨K1,K2,K3,K4,K5,K6,K7,K8,K9⟩:=K
 obtain ⟨al,ag⟩:=r.get
 have hvl:vs.length=np:=al.trans hlen
 have look:∀i x k,tab[i]?=some (some (x,k))->(P.fd f).scope.names.lookup x=some k:=fun i x k h=>(bG.look (B:=⟨(P.fd f).scope,tab⟩) K2 h).2.1
 have hkind:(P.fd f).scope.kind=.function:=by
  have:=K2
  simp only [bG.ok,and_eq_true,beq_iff_eq] at this
  exact this.1.1
 have hnd:ps.Nodup:=by
  rw [List.nodup_iff_pairwise_ne,List.pairwise_iff_getElem]
  intro i j hi hj hij e
  obtain ⟨k,q,_⟩:=K4 i ps[i] (getElem?_eq_getElem hi)
  obtain ⟨k',q',_⟩:=K4 j ps[j] (getElem?_eq_getElem hj)
  exact absurd (bG.inj K2 (B:=⟨(P.fd f).scope,tab⟩) q (e▸q')) (ne_of_lt hij)
 refine codeAny_call_cells (binds:=ps.zip vs) hd (bs _ _ g1) g2 (G.nolimit.keeps bs) (g4.keeps bs) K1 (K6 vs hvl) g5 (fun x hx=>?_) (fun s₁ x=>?_) K8.1 K8.2 hkind
 .obtain ⟨i,hi,e⟩:=List.getElem_of_mem (List.of_mem_zip (a:=x.1) (b:=x.2) hx).1
  obtain ⟨k,q,hk⟩:=K4 i x.1 (by rw [getElem?_eq_getElem hi,e])
  have:=look i x.1 k q
  rcases hk with rfl |rfl
  .exact .inl this
  .exact .inr ⟨this,PySem.W.cellsFrom_some _ _ _ (.inl this)⟩
 .have dead:∀a:Addr,s.heap.objs.size<=a->s.heap.get? a=none:=fun a ha=>by
   cases e:s.heap.get? a with
   |none=>rfl
   |some o'=>exact absurd (Heap.lt_size e) (not_lt.mpr ha)
  have hW:∀a∈own (callEnvC (P.fd f) s.heap.objs.size (P.fnA f)),s.heap.get? a=none:=fun a ha=>by
   rcases au ha with rfl |ha
   .exact dead _ (le_refl _)
   .obtain ⟨q,hq,rfl⟩:=aC ha
    exact dead _ (le_of_lt (x.above q.1 q.2 hq))
  have r1:=r.mono (g':={g with o:=fun _=>none}) (h':=s₁.heap) (show aQ g s.heap _ _ from ⟨fun a f=>⟨f,x.toInCall.keep a⟩,rfl⟩) rfl
  obtain ⟨_,ag⟩:=r1.get
  have par:∀{i y k t},tab[i]?=some (some (y,k))->ts[i]?=some t->ps[i]?=some y:=fun {i y k t} ht hv=>by
   have hi:i < ps.length:=by rw [K3,<-hlen];exact (ak hv).1
   obtain ⟨k,q,_⟩:=K4 i ps[i] (getElem?_eq_getElem hi)
   rw [ht] at q;cases q
   exact getElem?_eq_getElem hi
  have cl:∀{i:Nat} {y:Str} {k:NameKind},tab[i]?=some (some (y,k))->k≠.local->∃c,(cellsFrom (s.heap.objs.size+1) (P.fd f).scope.names []).lookup y=some c:=fun {i y k} ht hk=>by
   have hk':k=.cell:=by
    rcases (bG.look (B:=⟨(P.fd f).scope,tab⟩) K2 ht).2.2.1 with h |h |h
    .exact (hk h).elim
    .exact h
    .exact (K5 i y (h▸ht)).elim
   exact aE (PySem.W.cellsFrom_some (x:=y) (P.fd f).scope.names (s.heap.objs.size+1) [] (.inl (hk'▸look i y k ht)))
  refine k s₁ _ _ x.toInCall.same x.toInCall.keep hW {
   ok:=K2
   sc:=rfl
   glob:=g6
   blt:=g7
   ns:=⟨_,x.toInCall.ns⟩
   cell:=fun i y k ht hk=>let ⟨c,hc⟩:=cl ht (by rcases hk with rfl |rfl<;>decide);⟨c,_,hc,x.cell y c hc⟩
   apart:=fun y z c hy hz=>qZ x.apart hy hz
   own:=fun a ha=>⟨by
    rcases au ha with rfl |ha
    .obtain ⟨o',_,_,e',_⟩:=x.toInCall.ns;exact ar e'
    .obtain ⟨q,hq,rfl⟩:=aC ha
     obtain ⟨o',e',hd⟩:=x.cell q.1 q.2 (lookup_of_mem_nodup (cellsFrom_names (P.fd f).scope.names 0 (s.heap.objs.size+1) [] [] rfl▸K7) hq)
     exact ar e',fun q=>lF a q (hW a ha),fun q=>lZ a q (hW a ha),fun ⟨_,q⟩=>nomatch q⟩
   var:=fun i y t ht hv=>by
    obtain ⟨y,k⟩:=y
    have hv:=iA hv
    obtain ⟨u,hu,hr⟩:=ag i t hv
    have hp:=par ht hv
    refine ⟨u,?_,hr⟩
    by_cases hk:k=.local
    .subst hk;exact .loc y _ ht x.toInCall.ns (tR ps vs _ hnd i y u hp hu (look i y _ ht))
    .obtain ⟨c,hc⟩:=cl ht hk
     have xc:=x.cell y c hc
     rw [tS ps vs _ hnd i y u hp hu (by show (P.fd f).scope.names.lookup y≠_;rw [look i y k ht];exact fun q=>hk (Option.some.inj q))] at xc
     exact .cel y k c ht ((bG.look (B:=⟨(P.fd f).scope,tab⟩) K2 ht).2.2.1.resolve_left hk) hc xc
   un:=fun i hi=>y3 (hlen▸K9 i hi)}
theorem tE {P:Pg}(G:t7 P)(n:Nat)(ih:∀k,k<=n->rO P k)(hF:∀f F,P.Ψ f=some F->xM P f F):rO P (n+1):=fun f A ts vs g J s t J' Q E room w r hc hq=>by
 rw [wk] at hc
 cases hf:P.Ψ f with
 |none=>rw [hf] at hc;cases hc
 |some F=>
  rw [hf] at hc
  obtain ⟨tab,ps,body,U,C',K,tu,sim⟩:=hF f F hf
  have hc:cond (Nat.beq ts.length F.np) _ _=_:=hc
  cases hl:Nat.beq ts.length F.np with
  |false=>rw [hl] at hc;cases hc
  |true=>
   rw [hl] at hc
   refine Dt (ns:=F.ns) G hf K (lt_of_le_of_lt (le_trans (le_add_right _ _) (le_add_right _ _)) room.1) (fun a o e=>(w.base a o e).2) w.F (fun a z=>(w.Z a z).1) r (eq_of_beq_eq_true hl) fun s₁ env E' same keep hW E1=>?_
   have X:At P ⟨(P.fd f).scope,tab⟩ ⟨[],U,rR f⟩ n (A.deeper env) env {g with o:=fun _=>none} (frame ts F.ns) J s₁:=⟨G,ih,room.deeper _,E1,w.callee keep⟩
   cases hb:F.body (P.cx n) (frame ts F.ns) J fun _ J=>bif iN f then .bad else .ret .none J with
   |ret t' J1=>
    rw [show F.body ⟨aw P.Ψ n⟩ (frame ts F.ns) J (fun _ J=>bif iN f then .bad else .ret .none J)=_ from hb] at hc
    cases hc
    refine sim n _ _ _ (frame ts F.ns) J s₁ (fun _ J=>bif iN f then .bad else .ret .none J) _ _ X (by rw [hb];exact fun q=>by cases q) (fun s' g' Y' J2 e p X'=>?_) fun y s' g' t2 J2 e p w' r'=>?_
    .rw [hb] at e
     cases hfr:iN f with
     |true=>rw [hfr] at e;cases e
     |false=>
      rw [hfr] at e;cases e
      obtain ⟨pe,we⟩:=tx same keep w hW p X'.g
      exact hq .none s' _ pe we ⟨by unfold AU;rw [hfr];exact rfl,fun _ _ e=>nomatch e⟩
    .rw [hb] at e;cases e
     obtain ⟨pe,we⟩:=tx same keep w hW p w'
     refine hq y s' _ pe we ⟨?_,fun q ts e=>(r'.2 (tu q).1 ts e).mono (fun l hl=>hl.elim (fun ⟨_,x⟩=>nomatch x) fun x=>by
       cases z:s.heap.get? l with
       |none=>rfl
       |some o=>exact (ar (keep l o z) x).elim) (fun _ f=>f) fun _ _ _ e=>e⟩
     have kf:=EK g' g.o s'.heap
     have r':=r'.1
     unfold AU
     cases hfr:iN f with
     |false=>rw [hfr] at r';exact Rp.mono kf r'
     |true=>
      rw [hfr] at r'
      obtain ⟨a,e,nw,f1,z1,r2⟩:=r'
      have nw:s.heap.get? a=none:=nw.elim (fun ⟨_,q⟩=>nomatch q) fun q=>by
       cases z:s.heap.get? a with
       |none=>rfl
       |some o=>exact (ar (keep a o z) q).elim
      exact ⟨a,e,nw,f1,z1,fun q=>(w.O a q).1 nw,r2.mono kf fun _ e=>e⟩
   |_=>rw [show F.body ⟨aw P.Ψ n⟩ (frame ts F.ns) J (fun _ J=>bif iN f then .bad else .ret .none J)=_ from hb] at hc;cases hc
theorem uV {P:Pg}(G:t7 P)(hF:∀f F,P.Ψ f=some F->xM P f F):∀n,∀k,k<=n->rO P k
 | 0,k,hk=>by
  obtain rfl:=Nat.le_zero.mp hk
  exact fun f A ts vs g J s t J' Q E _ _ _ hc _=>by cases hc
 |n+1,k,hk=>(Nat.lt_or_eq_of_le hk).elim (fun h=>uV G hF n k (le_of_lt_succ h)) fun h=>h▸tE G n (uV G hF n) hF
noncomputable def eH (env:Env):List (Str×NameKind)->List (Str×Addr)->List (Str×Addr)
 | [],acc=>acc
 | (n,k)::r,acc=>eH env r (if k==.free then (n,(env.cells.lookup n).getD 0)::acc else acc)
theorem rE (env:Env)(f:Str×NameKind->List (Str×Addr)->Sem (ForInStep (List (Str×Addr))))(h1:∀n cs c,env.cells.lookup n=some c->f (n,.free) cs=pure (.yield ((n,c)::cs)))(h2:∀n k cs,(k==NameKind.free)=false->f (n,k) cs=pure (.yield cs)):
  ∀(names:List (Str×NameKind)) (acc:List (Str×Addr)),(∀x,(x,NameKind.free)∈names->∃c,env.cells.lookup x=some c)->forIn names acc f=pure (eH env names acc)
 | [],acc,_=>rfl
 | (n,k)::r,acc,h=>by
  rw [List.forIn_cons]
  cases hk:(k==NameKind.free) with
  |true=>
   have hk':k=.free:=by simpa using hk
   subst hk'
   obtain ⟨c,hc⟩:=h n mem_cons_self
   rw [h1 n acc c hc]
   show (forIn r ((n,c)::acc) f:Sem _)=_
   rw [rE env f h1 h2 r _ fun x hx=>h x (mem_cons_of_mem _ hx)]
   rw [show eH env ((n,.free)::r) acc=eH env r ((n,(env.cells.lookup n).getD 0)::acc) from rfl,hc];rfl
  |false=>
   rw [h2 n k acc hk]
   show (forIn r acc f:Sem _)=_
   rw [rE env f h1 h2 r _ fun x hx=>h x (mem_cons_of_mem _ hx)]
   rw [show eH env ((n,k)::r) acc=eH env r (if k==.free then _ else acc) from rfl,hk];rfl
theorem jf {scope:Scope}{env:Env}(h:∀x,(x,NameKind.free)∈scope.names->∃c,env.cells.lookup x=some c):closureFor scope env=pure (eH env scope.names []):=by
 simp only [closureFor]
 rewrite [rE env _ ?_ ?_ scope.names [] h]
 .rfl
 .intro n cs c hc
  simp only [cellOf,hc];rfl
 .intro n k cs hk
  simp only [hk];rfl
set_option tactic.hygienic true in
theorem kx {env:Env}:∀(names:List (Str×NameKind)) (acc:List (Str×Addr)),(∀x,(x,NameKind.free)∈names->∃c,env.cells.lookup x=some c)->(∀p∈acc,env.cells.lookup p.1=some p.2)->∀p∈eH env names acc,env.cells.lookup p.1=some p.2
 | [],_,_,ha,p,hp=>ha p hp
 | (n,k)::r,acc,h,ha,p,hp=>by
  refine kx r _ (fun x hx=>h x (mem_cons_of_mem _ hx)) (fun q hq=>?_) p hp
  split at hq
  .rename_i hk
   have hk':k=.free:=by simpa using hk
   subst hk'
   rcases au hq with rfl |hq
   .obtain ⟨c,hc⟩:=h n mem_cons_self
    rw [hc];rfl
   .exact ha q hq
  .exact ha q hq
theorem oC {env:Env}{x:Str}:∀(names:List (Str×NameKind)) (acc:List (Str×Addr)),(acc.lookup x).isSome=true\/(x,NameKind.free)∈names->((eH env names acc).lookup x).isSome=true
 | [],_,h=>h.elim id fun q=>by cases q
 | (n,k)::r,acc,h=>by
  refine oC r _ ?_
  rcases h with h |h
  .refine .inl ?_
   split
   .rw [lookup_cons];split
    .rfl
    .exact h
   .exact h
  .rcases au h with q |q
   .cases q
    refine .inl ?_
    rw [if_pos (by decide),lookup_cons];simp
   .exact .inr q
set_option tactic.hygienic true in
theorem mw {l:List (Str×Addr)}{x:Str}{c:Addr}(h:l.lookup x=some c):(x,c)∈l:=by
 induction l with
 |nil=>cases h
 |cons p r ih=>
  obtain ⟨y,d⟩:=p
  rw [lookup_cons] at h
  split at h
  .rename_i hy
   cases h
   rw [beq_iff_eq.mp hy];exact mem_cons_self
  .exact mem_cons_of_mem _ (ih h)
noncomputable def gR (scope outer:Scope):Scope:=
 {scope with names:=scope.names.map fun (n,k)=>if (k==.free&&outer.kind==.function&&outer.names.lookup n==some .cell) then (n,.cell) else (n,k)}
noncomputable def rQ (xc:Option Str)(c:Addr):List (Str×Addr):=match xc with
 |none=>[]
 |some y=>[(y,c)]
theorem nR {xc:Option Str}{c d:Addr}{r:List (Str×Addr)}{y:Str}(h:(rQ xc c++r).lookup y=some d):(xc=some y/\d=c)\/r.lookup y=some d:=by
 cases xc with
 |none=>exact .inr h
 |some z=>
  rw [show rQ (some z) c++r=(z,c)::r from rfl,lookup_cons] at h
  cases q:y==z with
  |true=>rw [q] at h;cases h;exact .inl ⟨by rw [beq_iff_eq.mp q],rfl⟩
  |false=>rw [q] at h;exact .inr h
theorem vK {y:Str}{c:Addr}{r:List (Str×Addr)}:(rQ (some y) c++r).lookup y=some c:=by
 rw [show rQ (some y) c++r=(y,c)::r from rfl,lookup_cons,beq_self_eq_true]
theorem w7 {xc:Option Str}{c:Addr}{r:List (Str×Addr)}{y:Str}(h:xc≠some y):(rQ xc c++r).lookup y=r.lookup y:=by
 cases xc with
 |none=>rfl
 |some z=>
  rw [show rQ (some z) c++r=(z,c)::r from rfl,lookup_cons]
  cases q:y==z with
  |true=>exact absurd (congrArg some (beq_iff_eq.mp q).symm) h
  |false=>rfl
theorem vL {xc:Option Str}{c:Addr}{q:Str×Addr}(h:q∈rQ xc c):∃y,xc=some y/\q=(y,c):=by
 cases xc with
 |none=>cases h
 |some z=>exact ⟨z,rfl,aa h⟩
theorem eL {prog:Program}{w:World}{A:Around}{E:Value->Shared->Prop}{s:Shared}{l:Addr}{items:Array Value}{n:Nat}{x:Value}{Q:Value->Shared->Prop}(hl:IsL s.heap l items n)
  (h:Q .none {s with heap:=s.heap.update l (Obj.mapSeq fun a=>a.push x)})(hsz:items.size<=sizeLine):wpAny (model prog w) A (call (.builtin "list.append") [.ref l,x]) Q E s:=by
 refine wpAny_call_entry slot_list_append ⟨_,hl,rfl⟩ entry_list_append ?_ (args_list_append _ _)
 show wpAny _ _ (updateSeq l (·.push x) >>=fun _=>ret .none) _ _ s
 refine wpAny_bind ?_
 exact wpAny_updateSeq hl rfl (wpAny_pure ⟨.none,rfl,h⟩)
theorem qT {M:Model}{A:Around}{E:Value->Shared->Prop}{s:Shared}{scope:Scope}{g:Addr}{cl:List (Str×Addr)}{qual:Str}{env:Env}{Q:Env->Shared->Prop}
  (h:Q (newEnv scope s.heap.objs.size g (cellsFrom (s.heap.objs.size+1) scope.names cl) qual none .none (some env) builtinsNs) {s with heap:=pushCells (s.heap.push {cls:=.type "dict",data:=.dict #[]}) scope.names}):
  wpAny M A (newFunctionEnv scope g cl [] qual none .none (some env)) Q E s:=by
 simp only [newFunctionEnv,Option.isSome_some,if_true]
 refine wpAny_bind (wpAny_alloc ?_)
 refine wpAny_bind (wpAny_layCells _ (fun name kind cells=>by cases hkc:kind==NameKind.cell<;>simp [hkc]) _ _ _ _ ?_)
 rw [show ({s with heap:=s.heap.push {cls:=.type "dict",data:=.dict #[]}}:Shared).heap.objs.size=s.heap.objs.size+1 from Heap.size_push ..]
 simp only [List.forIn_nil]
 exact wpAny_bind (wpAny_pure (wpAny_pure h))
noncomputable def oG (xc:Option Str):List (Str×NameKind)->Bool
 | []=>xc.isNone
 | (n,k)::r=>if k==.cell then xc==some n&&oG none r else oG xc r
theorem oD:∀{names:List (Str×NameKind)} {xc:Option Str},oG xc names=true->(∀n acc,cellsFrom n names acc=rQ xc n++acc)/\∀h:Heap,(∀a o,h.get? a=some o->(pushCells h names).get? a=some o)/\∀y,xc=some y->(pushCells h names).IsCell h.objs.size none
 | [],xc,hr=>by
  cases xc with
  |none=>exact ⟨fun _ _=>rfl,fun _=>⟨fun _ _ e=>e,fun _ q=>by cases q⟩⟩
  |some _=>cases hr
 | (x,k)::r,xc,hr=>by
  unfold oG at hr
  unfold cellsFrom pushCells
  by_cases hk:(k==NameKind.cell)=true
  .rw [if_pos hk,and_eq_true] at hr
   obtain ⟨i1,i2⟩:=oD hr.2
   obtain rfl:=beq_iff_eq.mp hr.1
   simp only [hk,if_true]
   exact ⟨fun n acc=>i1 _ _,fun h=>⟨fun a o e=>(i2 _).1 a o (Heap.get?_push_of_some _ e),fun _ _=>⟨_,(i2 _).1 _ _ (Heap.get?_push_size _ rfl),rfl⟩⟩⟩
  .rw [if_neg hk] at hr
   simp only [hk,Bool.false_eq_true,if_false]
   exact oD hr
noncomputable def kB (x:Str):Option (Str×NameKind)->Bool
 |some (y,k)=>y==x&&(k==.cell||k==.free)
 |none=>false
theorem Dm {x:Str}{e:Option (Str×NameKind)}(h:kB x e=true):∃k:NameKind,e=some (x,k)/\(k=.cell\/k=.free):=by
 cases e with
 |none=>cases h
 |some p=>
  obtain ⟨y,k⟩:=p
  simp only [kB,and_eq_true,or_eq_true,beq_iff_eq] at h
  obtain ⟨rfl,hk⟩:=h
  exact ⟨k,rfl,hk⟩
def Dx (B:bG)(tab:List (Option (Str×NameKind)))(scope:Scope)(i:Nat)(xc:Option Str):Bool:=
 scope.kind==.function&&scope.names.all (fun x=>!(x.2==.local)||scope.names.lookup x.1==some .local)&&oG xc scope.names&&bG.ok ⟨gR scope B.sc,tab⟩&&
 scope.names.all (fun x=>!(x.2==.free)||(!(xc==some x.1)&&B.tab.any (kB x.1)))&&
 (List.range tab.length).all (fun j=>match tab[j]? with
  |some (some (x,k))=>if k==.cell||k==.free then (xc==some x&&Nat.beq j i)||(scope.names.contains (x,.free)&&kB x (B.tab[j]?.getD none)) else Nat.beq j i
  |_=>true)
structure dF (B Bc:bG) (scope:Scope) (i:Nat) (xc:Option Str):Prop where
 kind:scope.kind=.function
 names:∀x∈scope.names,x.2=.local->scope.names.lookup x.1=some .local
 cells:(∀n acc,cellsFrom n scope.names acc=rQ xc n++acc)/\∀h:Heap,(∀a o,h.get? a=some o->(pushCells h scope.names).get? a=some o)/\∀y,xc=some y->(pushCells h scope.names).IsCell h.objs.size none
 ok:Bc.ok=true
 sc:Bc.sc=gR scope B.sc
 free:∀x,(x,NameKind.free)∈scope.names->xc≠some x/\∃(j:Nat) (k:NameKind),B.tab[j]?=some (some (x,k))/\(k=.cell\/k=.free)
 tab:∀(j:Nat) (x:Str) (k:NameKind),Bc.tab[j]?=some (some (x,k))->k=.cell\/k=.free->(xc=some x/\j=i)\/((x,NameKind.free)∈scope.names/\∃k':NameKind,B.tab[j]?=some (some (x,k'))/\(k'=.cell\/k'=.free))
 locs:∀(j:Nat) (x:Str),Bc.tab[j]?=some (some (x,.local))->j=i
theorem dF.of {B:bG}{tab:List (Option (Str×NameKind))}{scope:Scope}{i:Nat}{xc:Option Str}(h:Dx B tab scope i xc=true):dF B ⟨gR scope B.sc,tab⟩ scope i xc:=by
 have h6:=(cz h)
 have h:=(cA h)
 have h5:=(cz h)
 have h:=(cA h)
 have h4:=(cz h)
 have h:=(cA h)
 have h3:=(cz h)
 have h:=(cA h)
 have h2:=(cz h)
 have h1:=(cA h)
 have h6:∀(j:Nat) (x:Str) (k:NameKind),tab[j]?=some (some (x,k))->(if k==.cell||k==.free then (xc==some x&&Nat.beq j i)||(scope.names.contains (x,.free)&&kB x (B.tab[j]?.getD none)) else Nat.beq j i)=true:=fun j x k ht=>by
  have:=aA h6 j (bJ (ak ht).1)
  rw [ht] at this
  exact this
 refine ⟨beq_iff_eq.mp h1,fun x hx hl=>?_,oD h3,h4,rfl,fun x hx=>?_,fun j x k ht hk=>?_,fun j x ht=>?_⟩
 .have:=aA h2 x hx
  rw [hl] at this
  exact beq_iff_eq.mp this
 .have:=aA h5 (x,.free) hx
  rw [show (!((x,NameKind.free).2==NameKind.free))=false from rfl,Bool.false_or,and_eq_true] at this
  refine ⟨fun q=>?_,?_⟩
  .rw [q,beq_self_eq_true] at this;cases this.1
  .obtain ⟨e,he,hq⟩:=any_eq_true.mp this.2
   obtain ⟨k,rfl,hk⟩:=Dm hq
   obtain ⟨j,hi⟩:=getElem?_of_mem he
   exact ⟨j,k,hi,hk⟩
 .have:=h6 j x k ht
  rewrite [if_pos (by rcases hk with rfl |rfl<;>rfl)] at this
  rw [or_eq_true,and_eq_true,and_eq_true] at this
  rcases this with ⟨a,b⟩ | ⟨a,b⟩
  .exact .inl ⟨beq_iff_eq.mp a,eq_of_beq_eq_true b⟩
  .refine .inr ⟨List.contains_iff_mem.mp a,?_⟩
   cases e:B.tab[j]? with
   |none=>rw [e] at b;cases b
   |some e'=>rw [e] at b;obtain ⟨k',rfl,hk'⟩:=Dm b;exact ⟨k',rfl,hk'⟩
 .have:=h6 j x .local ht
  exact eq_of_beq_eq_true this
section
variable {P:Pg} {B Bc:bG} {C Ci:Ct} {n:Nat} {A:Around} {env cenv:Env} {g g':Gh} {V:aP} {J:Sg} {s s':Shared} {h h':Heap} {scope:Scope} {i:Nat} {xc:Option Str}
theorem dF.out (K:dF B Bc scope i xc)(x:cB P B C env g V h)(y:Str)(hy:(y,NameKind.free)∈scope.names):∃c,env.cells.lookup y=some c:=by
 obtain ⟨_,j,k,h1,h2⟩:=K.free y hy
 obtain ⟨c,_,h3,_⟩:=x.cell j y k h1 h2
 exact ⟨c,h3⟩
theorem uR (K:dF B Bc scope i xc){L c:Addr}(x:cB P B C env g V h)(hi:i∈C.U)(hn:h'.Ns L fun _=>none)(hc:∀y,xc=some y->h'.IsCell c none)(hL:h.get? L=none)(hcn:h.get? c=none)(w:bC P g h J)(hk:∀a o,h.get? a=some o->h'.get? a=some o):
  cB P Bc C (compEnvC scope (rQ xc c++eH env scope.names []) L env) g V h':=by
 have hfree:=K.out x
 have cl:∀y c,(eH env scope.names []).lookup y=some c->env.cells.lookup y=some c:=fun y c hy=>kx scope.names [] hfree (fun _ q=>nomatch q) (y,c) (mw hy)
 have old:∀y,env.cells.lookup y=some c->False:=fun y hy=>(x.own c (mem_cons_of_mem _ (bB hy))).1 hcn
 have kf:aQ g h g h':=⟨fun a f=>⟨f,hk a⟩,rfl⟩
 have no:∀a,h.get? a=none->¬g.F a/\¬g.Z a/\¬g.O a:=fun a e=>⟨fun q=>w.F a q e,fun q=>(w.Z a q).1 e,fun q=>(w.O a q).1 e⟩
 have free:∀{y d},(y,NameKind.free)∈scope.names->env.cells.lookup y=some d->(rQ xc c++eH env scope.names []).lookup y=some d:=fun {y d} hm e=>by
  obtain ⟨c',hc'⟩:=aE (oC (env:=env) scope.names [] (.inr hm))
  obtain rfl:c'=d:=Option.some.inj ((cl y c' hc').symm.trans e)
  exact (w7 (K.free y hm).1).trans hc'
 refine {ok:=K.ok,sc:=?_,glob:=x.glob,blt:=x.blt,ns:=⟨_,hn⟩,cell:=?_,apart:=?_,own:=?_,var:=?_,un:=x.un}
 .rw [K.sc]
  show relabel scope env=_
  unfold relabel gR Env.kindOf
  rw [x.sc]
 .intro j y k ht hk'
  rcases K.tab j y k ht hk' with ⟨q,_⟩ | ⟨hm,k',h1,h2⟩
  .exact ⟨c,none,q▸vK,hc y q⟩
  .obtain ⟨d,u,c1,o,e,dd⟩:=x.cell j y k' h1 h2
   exact ⟨d,u,free hm c1,o,hk _ _ e,dd⟩
 .intro y z d hy hz
  rcases nR hy with ⟨q,rfl⟩ |hy'
  .rcases nR hz with ⟨q',_⟩ |hz'
   .exact Option.some.inj (q.symm.trans q')
   .exact (old z (cl z _ hz')).elim
  .rcases nR hz with ⟨_,rfl⟩ |hz'
   .exact (old y (cl y _ hy')).elim
   .exact x.apart y z d (cl y d hy') (cl z d hz')
 .intro a ha
  rcases au ha with rfl |ha
  .exact ⟨let ⟨_,_,_,e,_⟩:=hn;ar e,no _ hL⟩
  .obtain ⟨q,hq,rfl⟩:=aC ha
   rcases ai hq with hq |hq
   .obtain ⟨y,hy,rfl⟩:=vL hq
    exact ⟨let ⟨_,e,_⟩:=hc y hy;ar e,no _ hcn⟩
   .have o:=x.own q.2 (mem_cons_of_mem _ (bB (kx scope.names [] hfree (fun _ q=>nomatch q) q hq)))
    refine ⟨?_,o.2⟩
    cases e:h.get? q.2 with
    |none=>exact (o.1 e).elim
    |some ob=>exact ar (hk _ _ e)
 .intro j y t ht hv
  obtain ⟨y,k⟩:=y
  have ji:j≠i:=fun q=>by rw [q,x.un i hi] at hv;cases hv
  have hkk:k=.cell\/k=.free:=(bG.look K.ok ht).2.2.1.resolve_left fun q=>ji (K.locs j y (q▸ht))
  obtain ⟨hm,k',h1,h2⟩:=(K.tab j y k ht hkk).resolve_left fun q=>ji q.2
  obtain ⟨u,v,vo⟩:=x.var j _ t h1 hv
  refine ⟨u,?_,vo.move kf rfl rfl fun a _=>hk a⟩
  cases v with
  |loc z m tz=>rw [h1] at tz;cases tz;rcases h2 with q |q<;>cases q
  |cel z kk d tz hz l nz=>
   rw [h1] at tz;cases tz
   exact .cel y k d ht hkk (free hm l) (let ⟨o,e,dd⟩:=nz;⟨o,hk _ _ e,dd⟩)
abbrev dE (P:Pg)(B:bG)(C:Ct)(ifs:List Expr)(p:PT):Prop:=dG P B C (fun A env Q E s=>wpAny P.M A (forIn ifs true fun c r=>if r=true then do let ok <-isTrue c env (eval c env);pure (ForInStep.yield ok) else pure (ForInStep.yield r)) Q E s) p RQ
theorem dE.nil:dE P B C [] aM:=.now fun _ _ _ _ _ _ _ _ _ _ _ _ hq=>wpAny_tests_nil (hq _ _ _ rfl rfl)
theorem dE.one {e:Expr}{p:PT}(h:cN P B C e p):dE P B C [e] p:=h.map fun _ _ _ _ _=>wpAny_tests_one
theorem cB.less {t:T}(x:cB P B Ci env g (V.set i (some t)) h)(hc:oV C i Ci)(un:∀j∈C.U,bX V j=none)(hi:i∈C.U):cB P B C env g V h:=
 have ne:∀{j v},bX V j=some v->j≠i:=fun e q=>by rw [q,un i hi] at e;cases e
 have st:∀{j v},bX V j=some v->bX (V.set i (some t)) j=some v:=fun {j v} e=>by
  cases q:bX (V.set i (some t)) j with
  |none=>
   have:=dA (v:=none) (ne e) q
   rw [set_set,iR (un i hi),e] at this;cases this
  |some u=>exact (iz q).elim (fun q=>(ne e q.1).elim) fun q=>q.2.symm.trans e▸rfl
 {x with
  var:=fun j y v ht hv=>let ⟨u,h1,h2⟩:=x.var j y v ht (st hv);⟨u,h1,by unfold bE at h2 ⊢;rw [hc.o j (ne hv),hc.m] at h2;exact h2⟩
  un:=un}
end
section
variable {P:Pg} {B Bc:bG} {C Ci C':Ct} {h₀:Heap} {fr:Bool} {n:Nat} {A:Around} {env cenv:Env} {g g':Gh} {V:aP} {J:Sg} {s s':Shared} {h h':Heap} {scope:Scope} {i:Nat} {xc:Option Str} {elt target iter:Expr} {ifs:List Expr} {pos:Pos}
abbrev mq (P:Pg)(g:Gh)(h:Heap)(D:Addr)(acc:List T):Prop:=xT h bA (aZ P g h acc) acc.length D
theorem mq.mono {acc:List T}{D:Addr}(a:mq P g h D acc)(k:aQ g h g' h')(hD:∀o,h.get? D=some o->h'.get? D=some o):mq P g' h' D acc:=xT.mono a hD fun _=>aZ.mono k
theorem ju.p {vol:List Addr}(v:ju g env vol)(l:∀a∈vol,s.heap.get? a≠none)(p:aJ g s g' s'):ju g' env vol/\∀a∈vol,∀o,s.heap.get? a=some o->s'.heap.get? a=some o:=v.post l p.toS
def CQ (P:Pg)(B:bG)(C:Ct)(JJJ:Gh->Heap->Prop)(e:Expr)(p:PE)(R:RR Value T):Prop:=
 ∀n A env g V J s (k:PK T) (Q:Value->Shared->Prop) (E:Value->Shared->Prop),At P B C n A env g V J s->JJJ g s.heap->p (P.cx n) V J k≠.bad->
  (∀x s' g' t J',p (P.cx n) V J k=k t J'->aJ g s g' s'->bC P g' s'.heap J'->R s.heap g' s'.heap t x->Q x s')->wpAny P.M A (eval e env) Q E s
structure AH (v:Gh->Gh) (JJJ:Gh->Heap->Prop):Prop where
 k:∀{g h g' h'},aQ g h g' h'->aQ (v g) h (v g') h'
 j:∀{g h g' h'},aQ g h g' h'->JJJ g h->JJJ g' h'
theorem AH.all:AH (fun g=>g) fun _ _=>True:=⟨fun k=>k,fun _ j=>j⟩
theorem dG.j {e:Expr}{p:PE}{R:RR Value T}(h:aq P B C e p R):CQ P B C (fun _ _=>True) e p R:=fun n A env g V J s k Q E X _ hb hq=>h n A env g V J s k Q E X hb hq
def Dw (P:Pg)(A:Around)(elt target iter:Expr)(ifs:List Expr)(scope:Scope)(pos:Pos)(I D:Addr)(cenv:Env)(R:Result->Shared->Prop):Shared->Prop:=fun s=>wpAny P.M A (forIn ifs true fun c r=>if r=true then do let ok <-isTrue c cenv (eval c cenv);pure (ForInStep.yield ok) else pure (ForInStep.yield r)) (fun ok s=>
  if ok=true then wpAny P.M A (eval elt cenv) (fun x s=>wpAny P.M A (call (.builtin "list.append") [.ref D,x]) (fun _ s=>codeAny P.M A (.compLoop (.ListComp elt [⟨target,iter,ifs,0⟩] scope pos) 0 (.ref I) (.ref D) cenv) R s) (nt P A cenv R) s) (nt P A cenv R) s
  else codeAny P.M A (.compLoop (.ListComp elt [⟨target,iter,ifs,0⟩] scope pos) 0 (.ref I) (.ref D) cenv) R s) (nt P A cenv R) s
theorem eQ {I D:Addr}{R:Result->Shared->Prop}(nx:wpAny P.M A (pyNext (.ref I)) (fun r s=>match r with
   |none=>R (.ok .next) s
   |some u=>wpAny P.M A (letOwnedTupleGo target (.ref I) u) (fun _ s=>wpAny P.M A (assign target cenv u) (fun _ s=>Dw P A elt target iter ifs scope pos I D cenv R s) (nt P A cenv R) s) (nt P A cenv R) s) (nt P A cenv R) s):codeAny P.M A (.compLoop (.ListComp elt [⟨target,iter,ifs,0⟩] scope pos) 0 (.ref I) (.ref D) cenv) R s:=by
 refine codeAny_of_tree ?_
 show wpAny P.M A ((compTurn (.ListComp elt [⟨target,iter,ifs,0⟩] scope pos) 0 (.ref I) (.ref D) cenv).onRaise (fun x=>do noteFrame x cenv;theTreesLotGoes x)) _ _ s
 refine wpAny_noted ?_
 rw [compTurn_list]
 refine wpAny_bind (wpAny_standAt (wpAny_bind (wpAny_mono nx (fun r s₁ h1=>?_) fun _ _ h'=>h')))
 cases r with
 |none=>exact wpAny_pure h1
 |some u=>
  refine wpAny_bind (wpAny_mono h1 (fun _ s₂ h2=>wpAny_bind (wpAny_mono h2 (fun _ s3 h3=>wpAny_bind (wpAny_mono h3 (fun ok s4 h4=>?_) fun _ _ h'=>h')) fun _ _ h'=>h')) fun _ _ h'=>h')
  cases ok with
  |false=>exact wpAny_pure ⟨rfl,h4⟩
  |true=>
   rw [if_pos rfl] at h4 ⊢
   exact wpAny_bind (wpAny_bind (wpAny_mono h4 (fun x s5 h5=>wpAny_bind (wpAny_mono h5 (fun _ s6 h6=>wpAny_pure (wpAny_pure ⟨rfl,h6⟩)) fun _ _ h'=>h')) fun _ _ h'=>h'))
theorem xu {vw:Gh->Gh}{JJJ:Gh->Heap->Prop}{tw:Env->List Addr}{pc:PT}{pe:PE}{I D:Addr}{ts:List T}{vol fx:List Addr}{St:Nat->Gh->Heap->Prop}{k:PK (List T)}{R:Result->Shared->Prop}(T:mn P A Bc C Ci target (ba i) tw I ts vol fx St)(hc:oV C i Ci)(hi:i∈C.U)(hcond:dE P Bc Ci ifs pc)(VVV:AH vw JJJ)(hel:CQ P Bc Ci JJJ elt pe fun _ g h t x=>Rp P (vw g) h t x)(hDv:D∉vol++fx):
  ∀(rest:List Mine.T) (j:Nat) (g:Gh) (J:Sg) (s:Shared) (acc:List Mine.T),j<=ts.length->ts.drop j=rest->acc.length+rest.length<=lim->At P Bc C n A cenv g V J s->JJJ g s.heap->ju g cenv (D::(vol++fx))->St j g s.heap->mq P (vw g) s.heap D acc->bx (ba i) pc pe (P.cx n) V rest J acc k≠.bad->
   (∀s' g' xs J',bx (ba i) pc pe (P.cx n) V rest J acc k=k xs J'->bV vol (D::(vol++tw cenv)) g s g' s'->At P Bc C n A cenv g' V J' s'->ju g' cenv [D]->mq P (vw g') s'.heap D xs->R (.ok .next) s')->
   codeAny P.M A (.compLoop (.ListComp elt [⟨target,iter,ifs,0⟩] scope pos) 0 (.ref I) (.ref D) cenv) R s:=by
 intro rest
 induction rest with
 |nil=>
  intro j g J s acc hle hd hl X hj hv st ac hb hq
  obtain rfl:j=ts.length:=le_antisymm hle (List.drop_eq_nil_iff.mp hd)
  have vD:ju g cenv [D]:=fun a ha=>hv a (aa ha▸mem_cons_self)
  refine eQ (wpAny_mono (T.done n cenv g V J s (fun s'=>R (.ok .next) s') (nt P A cenv R) X (fun a ha=>hv a (mem_cons_of_mem _ ha)) st fun s' p X'=>?_) (fun r s₁ h=>match r with |none=>h |some _=>h.elim) fun _ _ h=>h)
  have dn:=hv D mem_cons_self
  exact hq s' g acc J wf (p.weak (fun _ h=>h) fun a ha=>mem_cons_of_mem _ (mem_append_left _ ha)) X' vD (ac.mono (VVV.k <| p.toS.k X.g fun a ha=>(hv a (mem_cons_of_mem _ (mem_append_left _ ha))).1) fun o e=>p.keep D o e dn.2.1 fun q=>hDv (mem_append_left _ q))
 |cons v rest ih=>
  intro j g J s acc hle hd hl X hj hv st ac hb hq
  have hiv:ts[j]?=some v:=by rw [<-List.head?_drop,hd];rfl
  have hi':j < ts.length:=(ak hiv).1
  have hd':ts.drop (j+1)=rest:=by rw [<-List.tail_drop,hd];rfl
  have e1:bx (ba i) pc pe (P.cx n) V (v::rest) J acc k=pc (P.cx n) (V.set i (some v)) J fun b J=>bif b then pe (P.cx n) (V.set i (some v)) J fun x J=>bx (ba i) pc pe (P.cx n) V rest J (acc++[x]) k else bx (ba i) pc pe (P.cx n) V rest J acc k:=wg
  rw [e1] at hb hq
  have hvv:ju g cenv (vol++fx):=fun a ha=>hv a (mem_cons_of_mem _ ha)
  have dn:=hv D mem_cons_self
  refine eQ (wpAny_mono (T.item j v n cenv g V _ J s (fun s3=>Dw P A elt target iter ifs scope pos I D cenv R s3) (nt P A cenv R) hiv X hvv st rfl fun s3 p3 X3 st3=>?_) (fun r s₁ h=>match r with |none=>h.elim |some _=>h) fun _ _ h=>h)
  have nW:∀a∈vol++tw cenv,¬g.F a:=fun a ha=>(ai ha).elim (fun h=>(hvv a (mem_append_left _ h)).1) fun h=>(X.env.own a (T.sub cenv a h)).2.1
  have ac3:mq P (vw g) s3.heap D acc:=ac.mono (VVV.k (p3.toS.k X.g nW)) fun o e=>p3.keep D o e dn.2.1 fun q=>(ai q).elim (fun q=>hDv (mem_append_left _ q)) fun q=>dn.2.2.2 (T.sub cenv D q)
  have lv:∀{g s i},St i g s->mq P (vw g) s D acc->∀a∈D::(vol++fx),s.get? a≠none:=fun st ac a ha=>(au ha).elim (fun q=>q▸let ⟨_,_,e,_,_⟩:=ac;ar e) (T.here _ _ _ st a)
  have pw:bV [] (D::(vol++tw cenv)) g s g s3:=p3.weak (fun _ h=>h) fun a=>mem_cons_of_mem _
  refine hcond n A cenv g (V.set i (some v)) J s3 _ _ _ X3 hb fun b s4 g4 b' J4 e4 p4 w4 r4=>?_
  cases r4
  rw [e4] at hb hq
  have X4:=X3.post p4 w4
  obtain ⟨v4,k4⟩:=hv.p (lv st3 ac3) p4
  have st4:=T.stay _ _ _ _ _ st3 (p4.k X3.g) fun a ha=>k4 a (mem_cons_of_mem _ ha)
  have j4:=VVV.j (p4.k X3.g) (VVV.j (p3.toS.k X.g nW) hj)
  have ac4:=ac3.mono (VVV.k (p4.k X3.g)) (k4 D mem_cons_self)
  have p04:=pw.trans p4.toE
  have un:=X.env.un
  cases b with
  |false=>
   rw [if_neg (by decide)]
   exact ih (j+1) g4 J4 s4 acc hi' hd' (le_of_succ_le hl) ⟨X.good,X.call,X.room,X4.env.less hc un hi,w4⟩ j4 v4 st4 ac4 hb fun s' g' xs J' q1 q2 q3 q4 q5=>hq s' g' xs J' q1 (p04.trans q2) q3 q4 q5
  |true=>
   rw [if_pos rfl]
   refine hel n A cenv g4 (V.set i (some v)) J4 s4 _ _ _ X4 j4 hb fun x s5 g5 t J5 e5 p5 w5 r5=>?_
   rw [show (bif true then pe (P.cx n) (V.set i (some v)) J4 fun x J=>bx (ba i) pc pe (P.cx n) V rest J (acc++[x]) k else bx (ba i) pc pe (P.cx n) V rest J4 acc k)=_ from e5] at hb hq
   have X5:=X4.post p5 w5
   obtain ⟨v5,k5⟩:=v4.p (lv st4 ac4) p5
   have st5:=T.stay _ _ _ _ _ st4 (p5.k X4.g) fun a ha=>k5 a (mem_cons_of_mem _ ha)
   obtain ⟨ys,m,d1,d2,d3⟩:=ac4.mono (VVV.k (p5.k X4.g)) (k5 D mem_cons_self)
   refine eL d1 ?_ (bj (d3.size▸d2))
   have hs:=Heap.SameBut.update s5.heap D (Obj.mapSeq fun a=>a.push x)
   have d1':=IsL.update d1 (fun a=>a.push x)
   obtain ⟨p6,X6⟩:=dy (vol:=[D]) (h':=s5.heap.update D (Obj.mapSeq fun a=>a.push x)) X5 (fun a ha=>v5 a (aa ha▸mem_cons_self)) (fun a o e q=>(hs.2 a fun z=>q (z▸ay rfl)).trans e) s5.toks
   have kf:=p6.toS.k X5.g fun a ha=>(v5 a (aa ha▸mem_cons_self)).1
   have p06:=(p04.trans p5.toE).trans ((eV p6 fun a ha=>by rw [aa ha];exact ar d1').weak (fun _ h=>h) fun a ha=>aa ha▸mem_cons_self)
   refine ih (j+1) g5 J5 _ (acc++[t]) hi' hd' (by rw [List.length_append];exact le_trans (le_of_eq (by rw [length_singleton,length_cons,add_assoc,add_comm 1])) hl) ⟨X.good,X.call,X.room,X6.env.less hc un hi,X6.g⟩ (VVV.j kf (VVV.j (p5.k X4.g) j4)) v5 (T.stay _ _ _ _ _ st5 kf fun a ha o e=>(hs.2 a fun q=>hDv (q▸ha)).trans e) ⟨_,_,d1',?_,?_⟩ hb fun s' g' xs J' q1 q2 q3 q4 q5=>hq s' g' xs J' q1 (p06.trans q2) q3 q4 q5
   .rw [List.length_append];exact le_trans (add_le_add_left (show 1<=rest.length+1 from succ_le_succ (zero_le _)) _) hl
   .rw [Array.toList_push]
    exact aZ.append (aZ.cons (Rp.mono (VVV.k kf) r5) aZ.nil) (d3.mono (VVV.k kf))
theorem uU (K:dF B Bc scope i xc)(HHH:Heap):(pushCells (HHH.push {cls:=.type "dict",data:=.dict #[]}) scope.names).Ns HHH.objs.size (fun _=>none)/\
  (∀y,xc=some y->(pushCells (HHH.push {cls:=.type "dict",data:=.dict #[]}) scope.names).IsCell (HHH.objs.size+1) none)/\HHH.get? (HHH.objs.size+1)=none/\∀a o,HHH.get? a=some o->(pushCells (HHH.push {cls:=.type "dict",data:=.dict #[]}) scope.names).get? a=some o:=by
 obtain ⟨k,c⟩:=K.cells.2 (HHH.push {cls:=.type "dict",data:=.dict #[]})
 have sz:(HHH.push {cls:=.type "dict",data:=.dict #[]}).objs.size=HHH.objs.size+1:=Heap.size_push ..
 rw [sz] at c
 refine ⟨(Heap.Ns.new HHH (.type "dict")).keeps k,c,?_,fun a o e=>k a o (Heap.get?_push_of_some _ e)⟩
 cases q:HHH.get? (HHH.objs.size+1) with
 |none=>rfl
 |some o=>
  have:=Heap.get?_push_of_some {cls:=.type "dict",data:=.dict #[]} q
  rw [<-sz,aN] at this;cases this
def lg:Option Str->Env->List Addr
 |none=>fun env=>[env.locals]
 |some x=>yh .cell x
theorem A2 {c:Addr}{r:List (Str×Addr)}{L:Addr}:∀a∈lg xc (compEnvC scope (rQ xc c++r) L env),a=L\/a=c:=fun a ha=>by
 cases xc with
 |none=>exact .inl (aa ha)
 |some x=>
  have h:a∈((rQ (some x) c++r).lookup x).toList:=ha
  rw [vK] at h
  exact .inr (aa h)
theorem kj {vw:Gh->Gh}{JJJ:Gh->Heap->Prop}{pos':Pos}{pi:PL}{pc:PT}{pe:PE}{use:Option (Value->Sem Unit)}{k:PK T}{Q:Value->Shared->Prop}{E:Value->Shared->Prop}(K:dF B Bc scope i xc)(hi:i∈C.U)(hc:oV C i Ci)(hI:DH P B C n A env g V J s iter (xJ P Bc C Ci target (ba i) (lg xc)) pi)(hcond:dE P Bc Ci ifs pc)(VVV:AH vw JJJ)(hj:JJJ g s.heap)(hel:CQ P Bc Ci JJJ elt pe fun _ g h t x=>Rp P (vw g) h t x)(hs:∀env x,foldedSetIterable iter env x=pure x)
  (X:At P B C n A env g V J s)(hb:aU pi (ba i) pc pe (P.cx n) V J k≠.bad)
  (ok:∀D L s' g' xs J' m,aU pi (ba i) pc pe (P.cx n) V J k=k (.lst xs) J'->aJ g s g' s'->bC P g' s'.heap J'->s.heap.get? D=none->(¬g'.F D/\¬g'.Z D/\¬g'.O D)->mq P (vw g') s'.heap D xs->s.heap.get? L=none->(¬g'.F L/\¬g'.Z L/\¬g'.O L)->D≠L->s'.heap.Ns L m->compPost P.M A E use Q (.ref D) L (.ok .next) s'):
  wpAny P.M A (comprehension (.ListComp elt [⟨target,iter,ifs,0⟩] scope pos) scope env pos' (newList []) false (eval iter env) use) Q E s:=by
 refine wpAny_comprehension_free (use:=use) rfl (hs env) (jf (K.out X.env)) K.kind K.names ?_
 refine hI (fun xs J=>bx (ba i) pc pe (P.cx n) V xs J [] fun ys J=>k (.lst ys) J) _ _ X hb fun s₁ g1 ts J1 I vol fx St ea p1 w1 T st hv hx hl=>?_
 have hb1:=fun q=>hb (ea.trans q)
 have X1:=X.post p1 w1
 refine wpAny_newList (qT ?_)
 rw [K.cells.1]
 have p2:aJ g1 s₁ g1 {s₁ with heap:=s₁.heap.push (bA #[] 0),toks:=s₁.toks}:=.push _ _
 have w2:bC P g1 (s₁.heap.push (bA #[] 0)) J1:=w1.push _
 have hD2:=bF (h:=s₁.heap) (bA #[] 0)
 have hDn:s₁.heap.get? s₁.heap.objs.size=none:=aN _
 obtain ⟨nf,nz,no⟩:=dM w1
 show codeAny P.M A _ _ {s₁ with heap:=pushCells ((s₁.heap.push (bA #[] 0)).push {cls:=.type "dict",data:=.dict #[]}) scope.names}
 generalize s₁.heap.objs.size=D at *
 generalize s₁.heap.push (bA #[] 0)=H2 at p2 w2 hD2 ⊢
 obtain ⟨hn3,hc3,hcn,k3⟩:=uU K H2
 have hCn:H2.get? H2.objs.size=none:=aN _
 generalize pushCells (H2.push {cls:=.type "dict",data:=.dict #[]}) scope.names=h3 at hn3 hc3 k3 ⊢
 generalize H2.objs.size+1=c at *
 generalize H2.objs.size=L at *
 have x2:=X1.env.post w1 p2
 have envc:=uR K x2 hi hn3 hc3 hCn hcn w2 k3
 have w3:bC P g1 h3 J1:=w2.grow k3 g1.F (fun _ h=>h) fun _ h=>.inl h
 have p3:aJ g1 s₁ g1 {s₁ with heap:=h3,toks:=s₁.toks}:=p2.trans (.grow (s:={s₁ with heap:=H2,toks:=s₁.toks}) s₁.toks k3 g1.F (fun _ h=>h) fun _ h=>.inl h)
 have hown:∀a∈own (compEnvC scope (rQ xc c++eH env scope.names []) L env),H2.get? a=none\/a∈own env:=fun a ha=>by
  rcases au ha with rfl |h
  .exact .inl hCn
  .obtain ⟨q,hq,rfl⟩:=aC h
   rcases ai hq with hq |hq
   .obtain ⟨_,_,rfl⟩:=vL hq;exact .inl hcn
   .exact .inr (mem_cons_of_mem _ (bB (kx scope.names [] (K.out X.env) (fun _ q=>nomatch q) q hq)))
 have hvl:=T.here _ _ _ st
 have hvol:ju g1 (compEnvC scope (rQ xc c++eH env scope.names []) L env) (D::(vol++fx)):=fun a ha=>by
  rcases au ha with rfl |ha
  .exact ⟨nf,nz,no,fun q=>(hown a q).elim (ar hD2) fun q=>(X1.env.own a q).1 hDn⟩
  .have hl:=hvl a ha
   rcases ai ha with ha |ha
   .exact ⟨(hv a ha).2.1,(hv a ha).2.2,fun q=>(X.g.O a (let ⟨i,q⟩:=q;⟨i,p1.o▸q⟩)).1 (hv a ha).1,fun q=>(hown a q).elim (fun z=>hl (p2.back a z)) fun q=>(X.env.own a q).1 (hv a ha).1⟩
   .exact ⟨(hx a ha).1,(hx a ha).2.1,(hx a ha).2.2.1,fun q=>(hown a q).elim (fun z=>hl (p2.back a z)) (hx a ha).2.2.2⟩
 have st3:=T.stay _ _ _ _ _ st (p3.k w1) fun a ha o e=>p3.keep a o e (hvol a (mem_cons_of_mem _ ha)).2.1
 refine (fun loop=>codeAny_compStart_list loop (T.self 0 g1 _ _ _ st3 loop):codeAny P.M A (.compLoop (.ListComp elt [⟨target,iter,ifs,0⟩] scope pos) 0 (.ref I) (.ref D) (compEnvC scope (rQ xc c++eH env scope.names []) L env)) (compPost P.M A E use Q (.ref D) L) {s₁ with heap:=h3,toks:=s₁.toks}->_) ?_
 have htw:=A2 (xc:=xc) (c:=c) (r:=eH env scope.names []) (scope:=scope) (L:=L) (env:=env)
 have hl':(compEnvC scope (rQ xc c++eH env scope.names []) L env).locals=L:=rfl
 generalize compEnvC scope (rQ xc c++eH env scope.names []) L env=cenv at *
 have X3:At P Bc C n A cenv g1 V J1 {s₁ with heap:=h3,toks:=s₁.toks}:=⟨X.good,X.call,X.room,envc,w3⟩
 refine xu T hc hi hcond VVV hel (fun q=>hvl D q hDn) ts 0 g1 J1 _ [] (zero_le _) rfl (by rw [length_nil,zero_add];exact hl) X3 (VVV.j (p3.k w1) (VVV.j (p1.k X.g) hj)) hvol st3 ⟨_,_,k3 _ _ hD2,zero_le _,rfl⟩ hb1 fun s' g' xs J' q1 q2 q3 q4 q5=>?_
 have fr:∀{a},H2.get? a=none->s₁.heap.get? a=none:=fun h=>p2.back _ h
 have pe:aJ g s g' s':=(((p1.trans p3).toE (W:=D::(vol++lg xc cenv))).trans q2).toP (fun a ha=>by
  rcases au ha with rfl |ha
  .exact p1.back _ hDn
  .rcases ai ha with ha |ha
   .exact (hv a ha).1
   .rcases htw a ha with rfl |rfl
    .exact p1.back _ (fr hCn)
    .exact p1.back _ (fr hcn)) fun a ha=>(hv a ha).1
 obtain ⟨m,hm⟩:=q3.env.ns
 have nD:=q4 D (ay rfl)
 exact ok D L s' g' xs J' m (ea.trans q1) pe q3.g (p1.back _ hDn) ⟨nD.1,nD.2.1,nD.2.2.1⟩ q5 (p1.back _ (fr hCn)) (let o:=q3.env.own L (hl'▸mem_cons_self);⟨o.2.1,o.2.2.1,o.2.2.2⟩) (fun q=>ar hD2 (q▸hCn)) (hl'▸hm)
theorem aJ.scrap {L:Addr}(p:aJ g s g' s')(hL:s.heap.get? L=none)(hs:∀b,b≠L->h'.get? b=s'.heap.get? b):aJ g s g' {s' with heap:=h'}:=
 ⟨St.trans p.st ⟨h',s'.toks,rfl⟩,fun a o e z=>(hs a fun q=>ar e (q▸hL)).trans (p.keep a o e z),fun a e=>by
  by_cases q:a=L
  .exact q▸hL
  .exact p.back a ((hs a q).symm.trans e),p.F,p.Fn,p.Zn,p.o,p.sp,p.sa⟩
theorem bC.scrap {L:Addr}(w:bC P g h J)(hL:¬g.F L/\¬g.Z L/\¬g.O L)(hs:∀b,b≠L->h'.get? b=h.get? b):bC P g h' J/\aQ g h g h':=by
 have k:∀a,g.F a\/g.Z a\/g.O a->h'.get? a=h.get? a:=fun a q=>hs a fun e=>q.elim (e▸hL.1) fun q=>q.elim (e▸hL.2.1) (e▸hL.2.2)
 have kf:aQ g h g h':=⟨fun a f=>⟨f,fun o e=>(k a (.inl f)).trans e⟩,rfl⟩
 exact ⟨⟨fun a o e=>⟨(w.base a o e).1,(k a (.inl (w.base a o e).1)).trans (w.base a o e).2⟩,fun a f=>by rw [k a (.inl f)];exact w.F a f,fun a z=>by rw [k a (.inr (.inl z))];exact w.Z a z,fun a z=>by rw [k a (.inr (.inr z))];exact w.O a z,w.oo,
  ⟨let ⟨t,n,e⟩:=w.spot.1;⟨t,n,(k _ (.inr (.inl w.spot.2.1))).trans e⟩,w.spot.2⟩,fun c ts e=>(w.self c ts e).mono kf (fun a z=>⟨z,fun o e=>(k a (.inr (.inl z))).trans e⟩) rfl⟩,kf⟩
theorem CT.scrap {L D:Addr}{t:T}(r:CT P h₀ g h t (.ref D))(kf:aQ g h g h')(hD:D≠L)(hs:∀b,b≠L->h'.get? b=h.get? b):CT P h₀ g h' t (.ref D):=by
 obtain ⟨a,e,n,f,z,o,r⟩:=r
 cases e
 exact ⟨D,rfl,n,f,z,o,r.mono kf fun o e=>(hs D hD).trans e⟩
theorem aq.comp {pi:PL}{pc:PT}{pe:PE}(K:dF B Bc scope i xc)(hi:C.U.any (Nat.beq i)=true)(hc:bO C i false Ci=true)(hI:f9 P B C iter (xJ P Bc C Ci target (ba i) (lg xc)) pi)(hcond:dE P Bc Ci ifs pc)(hel:aq P Bc Ci elt pe (RV P))(hs:∀env x,foldedSetIterable iter env x=pure x):
  aq P B C (.ListComp elt [⟨target,iter,ifs,0⟩] scope pos) (aU pi (ba i) pc pe) (RN P):=fun n A env g V J s k Q E X hb hq=>by
 show wpAny P.M A (eval _ env) Q E s
 rw [eval_ListComp]
 refine kj K (iE hi) (cE hc).1 (hI n A env g V J s) hcond .all trivial hel.j hs X hb fun D L s' g' xs J' m e p w n1 n2 ac hL nL hDL hn=>⟨m,hn,fun h' hsb=>?_⟩
 have r:CT P s.heap g' s'.heap (.lst xs) (.ref D):=⟨D,rfl,n1,n2.1,n2.2.1,n2.2.2,ac⟩
 obtain ⟨w',kf⟩:=w.scrap nL hsb.2
 exact hq _ _ g' _ J' e (p.scrap hL hsb.2) w' (r.scrap kf hDL hsb.2)
end
section
variable {P:Pg} {B Bc:bG} {C Ci C':Ct} {fr:Bool} {n:Nat} {A:Around} {env:Env} {g g':Gh} {V:aP} {J:Sg} {s s':Shared} {h h':Heap} {scope:Scope} {i j:Nat} {xc:Option Str} {elt target iter:Expr} {ifs:List Expr} {pos px spos:Pos} {y:Str}
theorem aW.scrap {L:Addr}{W:List Addr}(p:aW [] W g s g' s')(hL:s.heap.get? L=none)(hs:∀b,b≠L->h'.get? b=s'.heap.get? b):aW [] W g s g' {s' with heap:=h'}:=
 {p with
  st:=St.trans p.st ⟨h',s'.toks,rfl⟩
  keep:=fun a o e z q w=>(hs a fun q=>ar e (q▸hL)).trans (p.keep a o e z q w)
  back:=fun a v e=>by
   by_cases q:a=L
   .exact q▸hL
   .exact p.back a v ((hs a q).symm.trans e)}
theorem tr {L:Addr}{m:Str->Option Value}{g2:Gh}{V2:aP}{J':Sg}{s₂:Shared}{Q:Flow->Shared->Prop}(p:aW [] (own env) g s g2 s₂)(X:At P B C' n A env g2 V2 J' s₂)(hn:s₂.heap.Ns L m)(hL:s.heap.get? L=none)(nL:¬g2.F L/\¬g2.Z L/\¬g2.O L)(hLo:L∉own env)
  (hq:∀s',aW [] (own env) g s g2 s'->At P B C' n A env g2 V2 J' s'->Q .next s'):∃m,s₂.heap.Ns L m/\∀h',Heap.SameBut L s₂.heap h'->Q .next {s₂ with heap:=h'}:=
 ⟨m,hn,fun h' hs=>hq _ (p.scrap hL hs.2) (dy (vol:=[L]) X (fun a ha=>by rw [aa ha];exact ⟨nL.1,nL.2.1,nL.2.2,hLo⟩) (fun a o e q=>(hs.2 a fun z=>q (z▸ay rfl)).trans e) s₂.toks).2⟩
theorem aR.setCompG {pi:PL}{pc:PT}{pe:PE}(o:Bool)(ho:bO C j o C'=true)(ht:B.tab[j]?=some (some (y,.local)))(hw:r7 (.ListComp elt [⟨target,iter,ifs,0⟩] scope pos) y px spos.line B.sc=true)(K:dF B Bc scope i xc)(hi:C.U.any (Nat.beq i)=true)(hc:bO C i false Ci=true)(hI:f9 P B C iter (xJ P Bc C Ci target (ba i) (lg xc)) pi)(hcond:dE P Bc Ci ifs pc)(hel:aq P Bc Ci elt pe (RV P))(hs:∀env x,foldedSetIterable iter env x=pure x):
  aR P B C fr C' (.Assign [.Name y px] (.ListComp elt [⟨target,iter,ifs,0⟩] scope pos) spos) (aD j (aU pi (ba i) pc pe)):=fun n A env g V J s k Q E X hb hq hr=>by
 show wpAny P.M A (exec _ env) Q E s
 rw [exec_Assign_Name_used _ _ _ _ (by rw [gN X.env.sc,hw])]
 refine wpAny_bind (wpAny_standAt (wpAny_bind ?_))
 show wpAny _ A (do let _ <-comprehension (.ListComp elt [⟨target,iter,ifs,0⟩] scope pos) scope env _ (newList []) false (eval iter env) (some (assign (.Name y px) env))) _ _ s
 refine wpAny_bind (wpAny_mono (kj (Q:=fun _ s'=>Q .next s') (E:=E) (k:=fun v J=>k (V.set j (some v)) J) (use:=some (assign (.Name y px) env)) K (iE hi) (cE hc).1 (hI n A env g V J s) hcond .all trivial hel.j hs X hb fun D L s' g' xs J' m e p w nD ⟨f,z,o'⟩ r hL nL hDL hn=>?_) (fun _ s' hq=>wpAny_pure (wpAny_pure hq)) fun _ _ e=>e)
 have X1:=X.post p w
 have hLo:L∉own env:=fun q=>(X.env.own L q).1 hL
 show wpAny _ A (assign (.Name y px) env (.ref D)) _ _ s'
 have r:fR P g' s'.heap D (.lst xs):=r
 obtain ⟨hs',hO⟩:=cE ho
 have nl:∀{s₂ g2},bV [] (yh .local y env) g2 s' g2 s₂->g2.Z=g'.Z->s₂.heap.Ns L m:=fun p2 ez=>hn.at fun o e=>p2.keep L o e (by rw [ez];exact nL.2.1) fun q=>hLo (bQ L q)
 cases o with
 |false=>
  have kf:aQ g' s'.heap {g' with F:=fun y=>g'.F y\/y=D} s'.heap:=⟨fun b f=>⟨.inl f,fun _ e=>e⟩,rfl⟩
  have pz:aJ g s {g' with F:=fun y=>g'.F y\/y=D} s':=⟨p.st,p.keep,p.back,fun b f=>.inl (p.F b f),fun b f=>f.elim (p.Fn b) fun e=>.inr (e▸nD),p.Zn,p.o,p.sp,p.sa⟩
  refine wpAny_assign_Name (iu (X.post pz (w.freeze r.live z o')) ho ht (.inl rfl) (t:=.lst xs) ((r.mono kf fun _ e=>e).rp (.inr rfl)) fun s₂ p2 X2=>?_)
  exact tr (pz.toS.trans (p2.toS.weak bQ)) X2 (nl p2 rfl) hL ⟨fun q=>q.elim nL.1 (Ne.symm hDL),nL.2⟩ hLo fun s' p' X'=>hq s' _ _ J' e p' X'
 |true=>
  have ow:∀b∈own env,¬(g'.put j (some D)).O b:=fun b hb q=>(gX q).elim (fun q=>(X.env.own b hb).1 (Option.some.inj q▸nD)) fun ⟨j,_,q⟩=>(X1.env.own b hb).2.2.2 ⟨j,q⟩
  have pa:aW [] (own env) g s (g'.put j (some D)) s':={(p.toS:aW [] (own env) g s g' s') with On:=fun b q=>(gX q).elim (fun q=>.inr (Option.some.inj q▸nD)) fun ⟨j,_,q⟩=>.inl ⟨j,p.o▸q⟩}
  have X2:At P B C' n A env (g'.put j (some D)) (V.set j none) J' s':=⟨X.good,X.call,X.room,X1.env.forget hs' (gW g' j _) ow,w.put fun b q=>Option.some.inj q▸⟨r.live,f,z,o'⟩⟩
  refine wpAny_assign_Name (jF X2 hs'.nu ht (.inl rfl) (t:=.lst xs) (by unfold bE;rw [hO];exact ⟨D,rfl,gV ..,r.mono ((gW g' j _).k _) fun _ e=>e⟩) fun s₂ p2 X3 _=>?_)
  rw [set_set] at X3
  exact tr (pa.trans (p2.toS.weak bQ)) X3 (nl p2 rfl) hL ⟨nL.1,nL.2.1,fun q=>(gX q).elim (fun q=>hDL (Option.some.inj q)) fun ⟨j,_,q⟩=>nL.2.2 ⟨j,q⟩⟩ hLo fun s' p' X'=>hq s' _ _ J' e p' X'
end
section
variable {P:Pg} {B:bG} {C:Ct}
theorem zl {k:Nat}(h:k<=lim):(k:Int) < 2 ^ 63:=Int.lt_of_le_of_lt (cc h) (by decide)
abbrev Bf (P:Pg)(id:Value):W1 Value:=Fd P fun x=>PySem.call id [x]
theorem zo:AW P (Bf P (.builtin "len")) br (RV P):=fun A env g J s x t y Q E rm w q e hq=>by
 have one:∀{l:Addr} {items:Array Value} {k:Nat},s.heap.IsList l items->items.size<=lim->items.size=k->y=.int k->wpAny P.M A (PySem.call (.builtin "len") [.ref l]) Q E s:=fun hl h1 h2 h3=>Calls.call_len_list hl (zl h1) (by rw [h2];exact dC w (h3▸hq))
 unfold br at e
 cases e1:gO t with
 |some ts=>
  rw [e1] at e
  rcases q.sq e1 with ⟨a,vs,n,rfl,h1,l,r⟩ | ⟨a,vs,n,rfl,h1,l,r⟩
  .cases e
   refine PySem.P.len_tuple h1 (by have:=zl (r.size▸l);lia -abstractProof) ?_
   rw [r.size];exact dC w hq
  .exact one ⟨_,h1,rfl,n,rfl⟩ (r.size▸l) r.size (Option.some.inj e).symm
 |none=>cases e2:E7 t with
  |some ns=>
   rw [e1,e2] at e
   obtain ⟨a,items,rfl,⟨o,g1,g2⟩,b,r⟩:=q.n e2
   exact one ⟨o,(w.base _ _ g1).2,g2⟩ b ((r.rp (P:=P) (g:=g) (h:=s.heap)).size.trans (length_map ..)) (Option.some.inj e).symm
  |none=>
   rw [e1,e2] at e
   obtain ⟨z,e3,e4⟩:=aB e
   obtain ⟨⟨_,h2⟩,p,rfl⟩:=q.s e3
   cases e4
   exact PySem.P.len_str (by have:=zl h2;lia -abstractProof) (dC w hq)
theorem zH {A:Around}{s:Shared}{E:Value->Shared->Prop}{a:Addr}{o:Obj}(T:BT){Q:Value->Shared->Prop}(e:s.heap.get? a=some o)(hc:o.cls=.type "list")(h:∀tk,Q (.bool (match T with |.list=>true |_=>false)) {s with toks:=tk}):wpAny P.M A (PySem.call (.builtin "isinstance") [.ref a,.type T.id]) Q E s:=by
 cases T with
 |list=>exact IsiPair.list_list e hc (h s.toks)
 |bool=>exact IsiPair.list_bool e hc (h _)
 |int=>exact IsiPair.list_int e hc (h _)
 |str=>exact IsiPair.list_str e hc (h _)
 |tuple=>exact IsiPair.list_tuple e hc (h _)
theorem xj {A:Around}{s:Shared}{E:Value->Shared->Prop}{Q:Value->Shared->Prop}(T:BT){c:Bool}(h:∀tk,Q (.bool (match T with |.bool |.int=>true |_=>false)) {s with toks:=tk}):wpAny P.M A (PySem.call (.builtin "isinstance") [(.bool c),.type T.id]) Q E s:=by
 cases T with
 |list=>exact IsiPair.bool_list (h _)
 |bool=>exact IsiPair.bool_bool (h s.toks)
 |int=>exact IsiPair.bool_int (h s.toks)
 |str=>exact IsiPair.bool_str (h _)
 |tuple=>exact IsiPair.bool_tuple (h _)
theorem zI {A:Around}{s:Shared}{E:Value->Shared->Prop}{Q:Value->Shared->Prop}(T:BT){c:Int}{u:Tok}(h:∀tk,Q (.bool (match T with |.int=>true |_=>false)) {s with toks:=tk}):wpAny P.M A (PySem.call (.builtin "isinstance") [(.int c u),.type T.id]) Q E s:=by
 cases T with
 |list=>exact IsiPair.int_list (h _)
 |bool=>exact IsiPair.int_bool (h _)
 |int=>exact IsiPair.int_int (h s.toks)
 |str=>exact IsiPair.int_str (h _)
 |tuple=>exact IsiPair.int_tuple (h _)
theorem zG {A:Around}{s:Shared}{E:Value->Shared->Prop}{Q:Value->Shared->Prop}(T:BT){c:Str}{u:Tok}(h:∀tk,Q (.bool (match T with |.str=>true |_=>false)) {s with toks:=tk}):wpAny P.M A (PySem.call (.builtin "isinstance") [(.str c u),.type T.id]) Q E s:=by
 cases T with
 |list=>exact IsiPair.str_list (h _)
 |bool=>exact IsiPair.str_bool (h _)
 |int=>exact IsiPair.str_int (h _)
 |str=>exact IsiPair.str_str (h s.toks)
 |tuple=>exact IsiPair.str_tuple (h _)
theorem uJ {A:Around}{s:Shared}{E:Value->Shared->Prop}{Q:Value->Shared->Prop}(T:BT){a:Addr}{o:Obj}(e:s.heap.get? a=some o)(hc:o.cls=.type "tuple")(h:∀tk,Q (.bool (match T with |.tuple=>true |_=>false)) {s with toks:=tk}):wpAny P.M A (PySem.call (.builtin "isinstance") [.ref a,.type T.id]) Q E s:=by
 cases T with
 |list=>exact IsiPair.tuple_list e hc (h _)
 |bool=>exact IsiPair.tuple_bool e hc (h _)
 |int=>exact IsiPair.tuple_int e hc (h _)
 |str=>exact IsiPair.tuple_str e hc (h _)
 |tuple=>exact IsiPair.tuple_tuple e hc (h s.toks)
theorem BT.mem (T:BT):T.nm∈jk/\bootBuiltins T.nm=some (.type T.id)/\(T.nm==("__debug__":Str))=false:=by cases T<;>refine ⟨by decide,by decide,by decide⟩
theorem Ao {g:Gh}{J:Sg}{s:Shared}{b:Bool}{tk:Nat}(w:bC P g s.heap J){Q:Value->Shared->Prop}(hq:∀u s' g',aJ g s g' s'->bC P g' s'.heap J->Rp P g' s'.heap (.bool b) u->Q u s'):Q (.bool b) {s with toks:=tk}:=hq _ _ g (.toks g s tk) w rfl
theorem EO (T:BT):AW P (Fd P fun x=>PySem.call (.builtin "isinstance") [x,.type T.id]) (dS T) (RV P):=fun A env g J s x t y Q E rm w q e hq=>by
 obtain ⟨b,e1,e2⟩:=aB e
 cases e2
 have k:∀tk,Q (.bool b) {s with toks:=tk}:=fun tk=>Ao w hq
 cases t with
 |bool c=>cases e1;rw [q.b rfl];exact xj T k
 |int i=>cases e1;obtain ⟨p,rfl⟩:=q.i rfl;exact zI T k
 |str z=>cases e1;obtain ⟨_,p,rfl⟩:=q.s rfl;exact zG T k
 |tup ts=>cases e1;obtain ⟨a,rfl,_,vs,n,h1,_⟩:=q.tu rfl;exact uJ T h1 rfl k
 |lst ts=>cases e1;obtain ⟨a,rfl,vs,n,h1,_⟩:=q.ls rfl;exact zH T h1 rfl k
 |_=>cases e1
theorem aq.isi {e:Expr}{p:PE}(T:BT){pn qn pos:Pos}(hx:B.sc.names.lookup (ofString "isinstance")=some .globalImplicit)(hT:B.sc.names.lookup T.nm=some .globalImplicit)
  (hn:∀env,starEach [e,.Name T.nm qn] env=[(false,eval e env),(false,eval (.Name T.nm qn) env)])(h:aq P B C e p (RX P)):aq P B C (.Call (.Name (ofString "isinstance") pn) [e,.Name T.nm qn] [] pos) (p1 (dS T) p) (RV P):=fun n A env g V J s k Q E X hb hq=>by
 obtain ⟨m1,m2,m3⟩:=T.mem
 refine Call_Name rfl (X.blt hx (by decide) (by decide) (v:=.builtin "isinstance") (by decide) ?_)
 refine bM (fun _ q=>by cases q) (cf (by rw [hn env];exact fun q hq=>by cases hq with |head=>rfl |tail _ h=>cases h with |head=>rfl |tail _ h=>cases h)) (wpAny_items_cons ?_ (hn env))
 refine h.bind (N:=fun A env x Q E s=>wpAny P.M A (spliced (backTo pos (starEach [.Name T.nm qn] env))) (fun vs s₁=>wpAny P.M A (PySem.call (.builtin "isinstance") (x::vs)) Q E s₁) E s) (F:=fun _ _ k t J=>up (dS T t) J k) (R':=RV P) mD (fun n A env g ga V J s s₁ x t k Q E p X r hb hq=>?_) n A env g V J s k Q E X hb hq
 obtain ⟨y,e'⟩:=ch hb
 exact wpAny_items_cons (X.blt hT m3 m1 m2 (wpAny_items_nil (EO T A env ga J s₁ x t y Q E X.rm X.g (kW.y r) e' fun u s' g' p w r=>hq u s' g' y J (by rw [e'];rfl) p w r))) rfl
theorem mf {A:Around}{g:Gh}{J:Sg}{s:Shared}{Q:Value->Shared->Prop}{E:Value->Shared->Prop}{it:Addr}{o:Obj}{K:String}{items:Array Value}{n:Nat}{ts:List T}(hT:K="list"\/K="tuple")(w:bC P g s.heap J)(e:s.heap.get? it=some o)(hc:o.cls=.type K)(hd:o.data=.seq items n)(r:aZ P g s.heap ts items.toList)(hx:ts.length<=lim)
  (hq:∀u s' g',aJ g s g' s'->bC P g' s'.heap J->CT P s.heap g' s'.heap (.lst ts) u->Q u s'):wpAny P.M A (PySem.call (.type "list") [.ref it]) Q E s:=by
 refine call_list_seq it hT e hc hd (fun h' c' hk hn=>?_) (bj (r.size▸hx))
 have p:aJ g s g {s with heap:=h',toks:=s.toks}:=.grow s.toks hk g.F (fun _ h=>h) fun _ h=>.inl h
 obtain ⟨h1,h2,h3⟩:=dM w
 exact hq _ _ g p (w.grow hk g.F (fun _ h=>h) fun _ h=>.inl h) ⟨_,rfl,aN _,h1,h2,h3,_,_,hn,hx,r.mono (p.k w)⟩
theorem BL:AW P (Bf P (.type "list")) gz (RN P):=fun A env g J s x t y Q E rm w q e hq=>by
 obtain ⟨ts,e1,e2⟩:=aB e
 cases e2
 rcases q.sq e1 with ⟨a,vs,n,rfl,h1,l,r⟩ | ⟨a,vs,n,rfl,h1,l,r⟩
 .exact mf (.inr rfl) w h1 rfl rfl r l hq
 .exact mf (.inl rfl) w h1 rfl rfl r l hq
theorem gh:∀{ts:List T} {bs:List Bool},ej ts=some bs->ts.length=bs.length/\∀(i:Nat) (t:T),ts[i]?=some t->∃b,bs[i]?=some b/\eW t=some b
 | [],bs,h=>by cases h;exact ⟨rfl,fun i v e=>nomatch e⟩
 |t::r,bs,h=>by
  obtain ⟨b,bs',h1,h2,h3⟩:=bz h
  cases h3
  obtain ⟨i1,i2⟩:=gh h2
  refine ⟨congrArg (·+1) i1,fun i u e=>?_⟩
  cases i with
  |zero=>cases e;exact ⟨b,rfl,h1⟩
  |succ i=>exact i2 i u e
theorem nA (bs:List Bool):(List.range bs.length).map (fun i=>bs[i]?.getD false)=bs:=by
 apply List.ext_getElem
 .simp
 .intro i h1 h2
  simp [getElem?_eq_getElem h2]
theorem wN (bs:List Bool):(List.range bs.length).any (fun i=>bs[i]?.getD false)=bs.any _root_.id:=by
 conv=>rhs;rw [<-nA bs]
 rw [List.any_map];rfl
theorem wO (bs:List Bool):(List.range bs.length).all (fun i=>bs[i]?.getD false)=bs.all _root_.id:=by
 conv=>rhs;rw [<-nA bs]
 rw [List.all_map];rfl
theorem rY {g:Gh}{h:Heap}{ts:List T}{bs:List Bool}{vs:Array Value}{i:Nat}{v:Value}{A:Around}{s:Shared}{Q:Bool->Shared->Prop}{E:Value->Shared->Prop}(r:aZ P g h ts vs.toList)(ht:ej ts=some bs)(hv:vs[i]?=some v)(hq:Q (bs[i]?.getD false) s):wpAny P.M A (truthy v) Q E s:=by
 obtain ⟨t1,t2⟩:=gh ht
 have hi:i < ts.length:=by rw [<-r.size];exact (Array.getElem?_eq_some_iff.mp hv).1
 obtain ⟨b,b1,b2⟩:=t2 i ts[i] (getElem?_eq_getElem hi)
 obtain ⟨u,u1,u2⟩:=r.get (getElem?_eq_getElem hi)
 rw [Array.getElem?_toList,hv] at u1;cases u1
 rw [b1] at hq
 exact gK (.inl u2) b2 hq
theorem rV {g:Gh}{J:Sg}{s:Shared}{ob:Obj}{h':Heap}{tk:Nat}{b:Bool}{Q:Value->Shared->Prop}(w:bC P g s.heap J)(hk:∀a o,a∉[s.heap.objs.size]->(s.heap.push ob).get? a=some o->h'.get? a=some o)(hq:∀u s' g',aJ g s g' s'->bC P g' s'.heap J->Rp P g' s'.heap (.bool b) u->Q u s'):Q (.bool b) {s with heap:=h',toks:=tk}:=
 have k:∀a o,s.heap.get? a=some o->h'.get? a=some o:=fun a o e=>hk a o (fun q=>ar e (aa q▸aN _)) (cq s ob a o e)
 hq _ _ g (.grow tk k g.F (fun _ h=>h) fun _ h=>.inl h) (w.grow k g.F (fun _ h=>h) fun _ h=>.inl h) rfl
theorem E9:AW P (Bf P (.builtin "any")) AA (RV P):=fun A env g J s x t y Q E rm w q e hq=>by
 obtain ⟨ts,e1,e2⟩:=aB e
 obtain ⟨bs,ht,e3⟩:=aB e2
 cases e3
 obtain ⟨l,rfl,vs,n,a1,a3,a2⟩:=q.ls e1
 refine call_any_walk (wpAny_pyIter_list ⟨_,a1,rfl,n,rfl⟩ ?_)
 refine ⟨_,_,_,_,_,_,fun i=>bs[i]?.getD false,rfl,Walks.list (A:=A.in1) rm.handled s.heap.objs.size l (fun q=>ar a1 (q▸aN _)) vs,⟨⟨_,Heap.get?_push_size _ rfl,rfl,rfl⟩,⟨_,Heap.get?_push_of_some _ a1,rfl,n,rfl⟩⟩,fun i v s' Q E hv hq=>rY a2 ht hv hq,fun h' tk hk=>?_⟩
 rw [show (List.range vs.size).any (fun i=>bs[i]?.getD false)=bs.any _root_.id by rw [a2.size,(gh ht).1];exact wN bs]
 exact rV (s:=s) (ob:=s7 "list_iterator" l) w hk hq
theorem CN:AW P (Bf P (.builtin "all")) kN (RV P):=fun A env g J s x t y Q E rm w q e hq=>by
 obtain ⟨ts,e1,e2⟩:=aB e
 obtain ⟨bs,ht,e3⟩:=aB e2
 cases e3
 obtain ⟨l,rfl,vs,n,a1,a3,a2⟩:=q.ls e1
 refine call_all_walk (wpAny_pyIter_list ⟨_,a1,rfl,n,rfl⟩ ?_)
 refine ⟨_,_,_,_,_,_,fun i=>bs[i]?.getD false,rfl,Walks.list (A:=A.in1) rm.handled s.heap.objs.size l (fun q=>ar a1 (q▸aN _)) vs,⟨⟨_,Heap.get?_push_size _ rfl,rfl,rfl⟩,⟨_,Heap.get?_push_of_some _ a1,rfl,n,rfl⟩⟩,fun i v s' Q E hv hq=>rY a2 ht hv hq,fun h' tk hk=>?_⟩
 rw [show (List.range vs.size).all (fun i=>bs[i]?.getD false)=bs.all _root_.id by rw [a2.size,(gh ht).1];exact wO bs]
 exact rV (s:=s) (ob:=s7 "list_iterator" l) w hk hq
theorem EQ:AW P (Bf P (.type "int")) qf (RV P):=fun A env g J s x t y Q E rm w q e hq=>by
 obtain ⟨b,e1,e2⟩:=aB e
 cases e2;rw [q.b e1]
 exact call_int_bool (dC w hq)
theorem Gc {g:Gh}{h:Heap}{t:T}{x:Value}(q:fP P g h t x):(x==Value.none)=isN t:=
 have fz:∀{O:Addr->Prop},Fz g O x->(x==Value.none)=false:=fun q=>let ⟨a,e,_,_⟩:=q;e▸rfl
 q.elim (T.casesOn (motive_1:=fun t=>Rp P g h t x->(x==Value.none)=isN t) t (fun e=>by rw [show x=_ from e];rfl) (fun b e=>(show x=_ from e)▸rfl) (fun i ⟨k,e⟩=>e▸rfl) (fun z ⟨_,k,e⟩=>e▸rfl) (fun _=>fz) (fun _=>fz) (fun _ _=>fz) (fun _ _=>fz) (fun _ q=>let ⟨a,_,e,_,_,_⟩:=q;e▸rfl) (fun e=>(show x=_ from e)▸rfl) (fun q=>q.elim))
  fun ⟨a,e,q⟩=>e▸q.case (p:=fun t=>false=isN t) (fun _ _=>rfl) fun _ _ _=>rfl
theorem EP {t:T}:isN t=true->t=.none:=T.casesOn (motive_1:=fun t=>isN t=true->t=.none) t (fun _=>rfl) (fun _ h=>nomatch h) (fun _ h=>nomatch h) (fun _ h=>nomatch h) (fun _ h=>nomatch h) (fun _ h=>nomatch h) (fun _ _ h=>nomatch h) (fun _ _ h=>nomatch h) (fun _ h=>nomatch h) (fun h=>nomatch h) (fun h=>nomatch h)
theorem Dz:kX P .Is zJ:=fun A g J s x x' t t' b Q E rm w q q' e k=>by
 obtain ⟨c,rfl⟩:=dD e
 cases EP c
 rw [show x'=_ from q'.v fun _ h=>h]
 refine is_none ?_
 rw [Gc q]
 exact k s.toks
theorem zM {A:Around}{x y:Value}{s:Shared}{t:Bool}{Q:Value->Shared->Prop}{E:Value->Shared->Prop}(h:wpAny P.M A (compareOp .Is x y) (fun v s'=>v=.bool t/\Q (.bool (!t)) s') E s):wpAny P.M A (compareOp .IsNot x y) Q E s:=fun j p hΓ=>by
 have h':=h j p hΓ
 rw [show compareOp .Is x y=(do return .bool (<-isSame x y)) from rfl,Sem.wp_bind'] at h'
 rw [show compareOp .IsNot x y=(do return .bool (!(<-isSame x y))) from rfl,Sem.wp_bind']
 refine Sem.wp_mono P.M j _ (fun b p' s' q=>?_) (fun _ _ _ q=>q) p s h'
 obtain ⟨q1,q2⟩:=(show Value.bool b=.bool t/\_ from q)
 cases q1;exact q2
theorem Al:kX P .IsNot GC:=fun A g J s x x' t t' b Q E rm w q q' e k=>by
 obtain ⟨c,e1,rfl⟩:=av e
 exact zM (Dz A g J s x x' t t' c _ E rm w q q' e1 fun tk=>⟨rfl,k tk⟩)
abbrev Ft (B:bG)(x:String):Prop:=B.sc.names.lookup (ofString x)=some .globalImplicit
section
variable {e:Expr} {p:PE} {pn pos:Pos}
theorem aq.len (hx:Ft B "len")(hn:∀env,starEach [e] env=[(false,eval e env)])(h:aq P B C e p (RX P)):aq P B C (.Call (.Name (ofString "len") pn) [e] [] pos) (p1 br p) (RV P):=aq.b1 mD zo (fun _ q=>by cases q) hx (by decide) (by decide) (by decide) hn h
theorem aq.listOf (hx:Ft B "list")(hn:∀env,starEach [e] env=[(false,eval e env)])(h:aq P B C e p (RX P)):aq P B C (.Call (.Name (ofString "list") pn) [e] [] pos) (p1 gz p) (RN P):=aq.b1 HC BL (fun _ q=>by cases q) hx (by decide) (by decide) (by decide) hn h
theorem aq.anyOf (hx:Ft B "any")(hn:∀env,starEach [e] env=[(false,eval e env)])(h:aq P B C e p (RX P)):aq P B C (.Call (.Name (ofString "any") pn) [e] [] pos) (p1 AA p) (RV P):=aq.b1 mD E9 (fun _ q=>by cases q) hx (by decide) (by decide) (by decide) hn h
theorem aq.allOf (hx:Ft B "all")(hn:∀env,starEach [e] env=[(false,eval e env)])(h:aq P B C e p (RX P)):aq P B C (.Call (.Name (ofString "all") pn) [e] [] pos) (p1 kN p) (RV P):=aq.b1 mD CN (fun _ q=>by cases q) hx (by decide) (by decide) (by decide) hn h
theorem aq.intOf (hx:Ft B "int")(hn:∀env,starEach [e] env=[(false,eval e env)])(h:aq P B C e p (RX P)):aq P B C (.Call (.Name (ofString "int") pn) [e] [] pos) (p1 qf p) (RV P):=aq.b1 mD EQ (fun _ q=>by cases q) hx (by decide) (by decide) (by decide) hn h
end
end
structure AX (K:MK) (name:Str) (id:String):Prop where
 slot:Slot K.id name id
 ty:typeOf (.builtin id)=pure (.type "method_descriptor")
theorem MK.plain (K:MK):PlainAttrs K.id:=by
 cases K
 .exact F.plainAttrs_list
 .exact F.plainAttrs_str
 .exact F.plainAttrs_tuple
def HK (K:MK)(s:Shared)(x:Value):Prop:=s.TypeIs x K.id/\∀a,x=.ref a->∃o,s.heap.get? a=some o/\o.dict=none
section
variable {P:Pg} {B:bG} {C C':Ct} {fr:Bool} {n:Nat} {A:Around} {env:Env} {g g':Gh} {V:aP} {J:Sg} {s s':Shared} {h h':Heap} {t:T} {x:Value}
theorem uL {K:MK}{a:Addr}{o:Obj}(e:s.heap.get? a=some o)(hc:o.cls=.type K.id)(hd:o.dict=none):HK K s (.ref a):=⟨⟨o,e,hc⟩,fun b q=>⟨o,Value.ref.inj q▸e,hd⟩⟩
theorem sX {K:MK}(q:fP P g s.heap t x)(hk:kT K t=true):HK K s x:=by
 obtain ⟨y,e⟩ | ⟨y,e⟩ | ⟨y,e⟩:(∃y,K=.list/\f8 t=some y)\/(∃y,K=.str/\rJ t=some y)\/∃y,K=.tuple/\oQ t=some y:=by
  cases K with
  |list=>exact .inl (let ⟨y,e⟩:=aE hk;⟨y,rfl,e⟩)
  |str=>exact .inr (.inl (let ⟨y,e⟩:=aE hk;⟨y,rfl,e⟩))
  |tuple=>exact .inr (.inr (let ⟨y,e⟩:=aE hk;⟨y,rfl,e⟩))
 .obtain ⟨rfl,e⟩:=e;obtain ⟨a,rfl,vs,n,h1,_⟩:=q.ls e;exact uL h1 rfl rfl
 .obtain ⟨rfl,e⟩:=e;obtain ⟨_,p,rfl⟩:=q.s e;exact ⟨rfl,fun a q=>by cases q⟩
 .obtain ⟨rfl,e⟩:=e;obtain ⟨a,rfl,_,vs,n,h1,_⟩:=q.tu e;exact uL h1 rfl rfl
theorem lz {o e:Expr}{name:Str}{apos pos:Pos}{id:String}{K:MK}{Q:Value->Shared->Prop}{E:Value->Shared->Prop}(i:AX K name id)(hbase:∀env,attributeBase o name env (eval o env)=eval o env)(hline:(apos.endLine==pos.line)=true)(htrees:∀env,backTo pos (starEach [e] env)=[(false,eval e env)])
  (h:wpAny P.M A (eval o env) (fun x s₁=>HK K s₁ x/\wpAny P.M A (eval e env) (fun y s₂=>wpAny P.M A (PySem.call (.builtin id) [x,y]) Q E s₂) E s₁) E s):wpAny P.M A (eval (.Call (.Attribute o name apos) [e] [] pos) env) Q E s:=
 wpAny_Call_method1_late (hbase env) hline (htrees env) (wpAny_mono h (fun x s₁ ⟨k,ha⟩=>⟨K.id,id,K.plain,i.slot,i.ty,k.1,k.2,bM (fun _ q=>by cases q) (fun p hp=>by rw [aa hp]) (Calls.spliced_cons (wpAny_mono ha (fun _ _ he=>Calls.spliced_nil he) fun _ _ h=>h))⟩) fun _ _ h=>h)
abbrev Hd (P:Pg)(id:String):W2 Value:=DF P fun x y=>PySem.call (.builtin id) [x,y]
theorem aq.m1 {o e:Expr}{name:Str}{apos pos:Pos}{po pe:PE}{id:String}{K:MK}{F:T->T->Option T}{R:RR Value T}(i:AX K name id)(hd:Dn R)(k:t3 P (Hd P id) F R)(hbase:∀env,attributeBase o name env (eval o env)=eval o env)(hline:(apos.endLine==pos.line)=true)
  (htrees:∀env,backTo pos (starEach [e] env)=[(false,eval e env)])(h1:aq P B C o po (RX P))(h2:aq P B C e pe (RX P)):aq P B C (.Call (.Attribute o name apos) [e] [] pos) (xO K F po pe) R:=
 (h1.bind (N:=fun A env x Q E s=>HK K s x/\wpAny P.M A (eval e env) (fun y s₂=>wpAny P.M A (PySem.call (.builtin id) [x,y]) Q E s₂) E s) (F:=fun c V k a J=>gd (kT K a) (pe c V J fun b J=>up (F a b) J k)) hd fun n A env g g1 V J s s₁ x t kk Q E p X r hb hq=>by
  have hk:=fX hb
  rw [hk] at hb hq
  refine ⟨sX (kW.y r) hk,h2 n A env g1 V J s₁ _ _ E X hb fun x' s₂ g2 t' J2 ea p2 w2 rb=>?_⟩
  obtain ⟨y,e'⟩:=ch fun q=>hb (ea.trans q)
  exact k A env g2 J2 s₂ x x' t t' y Q E X.rm w2 (kW.post X.g p2 r).y (kW.y rb) e' fun u s' g' p w r=>hq u s' g' y J2 (ea.trans (by rw [e'];rfl)) (p2.trans p) w (hd _ _ _ _ _ _ p2.back r)).map fun A env Q E s h=>lz i hbase hline htrees h
theorem jW {i:Nat}{a:Addr}{y:T}(X:At P B C n A env g V J s)(hv:bi C i=true)(hb:bX V i≠none)(ho:g.o i=some a)(hva:cQ B env s.heap i (.ref a))(hs:∀b,b≠a->h'.get? b=s.heap.get? b)(hy:aQ g s.heap g h'->fR P g h' a y)(tk:Nat):
  aW [] (own env) g s g {s with heap:=h',toks:=tk}/\At P B C n A env g (V.set i (some y)) J {s with heap:=h',toks:=tk}:=by
 obtain ⟨la,fa,za⟩:=X.g.O a ⟨i,ho⟩
 have kf:aQ g s.heap g h':=⟨fun b f=>⟨f,fun o e=>(hs b fun q=>fa (q▸f)).trans e⟩,rfl⟩
 have ra:=hy kf
 have lv:∀b,s.heap.get? b≠none->h'.get? b≠none:=fun b l=>by
  by_cases q:b=a
  .exact q▸ra.live
  .rw [hs b q];exact l
 have zk:∀b,g.Z b->∀o,s.heap.get? b=some o->h'.get? b=some o:=fun b z o e=>(hs b fun q=>za (q▸z)).trans e
 have ok:∀b∈own env,∀o,s.heap.get? b=some o->h'.get? b=some o:=fun b m o e=>(hs b fun q=>(X.env.own b m).2.2.2 (q▸⟨i,ho⟩)).trans e
 refine ⟨⟨⟨h',tk,rfl⟩,fun b o e _ no _=>(hs b fun q=>no (q▸⟨i,ho⟩)).trans e,fun b _ e=>?_,fun _ f=>f,fun _ f=>.inl f,fun _ f=>.inl f,fun _ f=>.inl f,rfl,rfl⟩,X.good,X.call,X.room,{X.env with
   ns:=let ⟨m,nn⟩:=X.env.ns;⟨m,nn.at (ok _ mem_cons_self)⟩
   cell:=fun j z kk hj hk=>let ⟨c,u,l,o,e,d⟩:=X.env.cell j z kk hj hk;⟨c,u,l,o,ok c (mem_cons_of_mem _ (bB l)) o e,d⟩
   own:=fun b m=>⟨lv b (X.env.own b m).1,(X.env.own b m).2⟩
   var:=fun j z v hj hv'=>?_
   un:=fun j hj=>dA (fun q:j=i=>hb (q▸X.env.un j hj)) (X.env.un j hj)},
  fun b o e=>⟨(X.g.base b o e).1,(kf.F b (X.g.base b o e).1).2 o (X.g.base b o e).2⟩,fun b f=>lv b (X.g.F b f),fun b z=>⟨lv b (X.g.Z b z).1,(X.g.Z b z).2⟩,fun b z=>⟨lv b (X.g.O b z).1,(X.g.O b z).2⟩,X.g.oo,
  ⟨let ⟨t,m,e⟩:=X.g.spot.1;⟨t,m,zk _ X.g.spot.2.1 _ e⟩,X.g.spot.2⟩,fun c ts e=>(X.g.self c ts e).mono kf (fun b z=>⟨z,zk b z⟩) rfl⟩
 .cases q:s.heap.get? b with
  |none=>rfl
  |some o=>exact (lv b (ar q) e).elim
 .rcases iz hv' with ⟨q,e⟩ | ⟨nj,e⟩
  .subst q;cases e
   exact ⟨_,hva.move ok,by unfold bE;rw [hv];exact ⟨a,rfl,ho,ra⟩⟩
  .obtain ⟨u,v1,v2⟩:=X.env.var j z v hj e
   refine ⟨u,v1.move ok,?_⟩
   unfold bE at v2 ⊢
   cases q:bi C j with
   |true=>rw [q] at v2;exact let ⟨b,e1,e2,r⟩:=v2;⟨b,e1,e2,r.mono kf fun o e=>(hs b fun z=>nj (X.g.oo j i a (z▸e2) ho)).trans e⟩
   |false=>rw [q] at v2;exact v2.imp (·.mono kf) id
def Mu (P:Pg)(id:String)(F:T->T->Option T)(RA:Gh->Heap->T->Value->Prop):Prop:=
 ∀A g J s a x' t v y Q E,Rm A->bC P g s.heap J->fR P g s.heap a t->RA g s.heap v x'->F t v=some y->
  (∀h' tk,(∀b,b≠a->h'.get? b=s.heap.get? b)->(aQ g s.heap g h'->fR P g h' a y)->Q .none {s with heap:=h',toks:=tk})->wpAny P.M A (PySem.call (.builtin id) [.ref a,x']) Q E s
theorem aR.mut {e:Expr}{y name:Str}{k:NameKind}{np apos cpos pos:Pos}{pe:PE}{id:String}{i:Nat}{F:T->T->Option T}{R:RR Value T}{RA:Gh->Heap->T->Value->Prop}(m:AX .list name id)(hv:bi C i=true)(ht:B.tab[i]?=some (some (y,k)))(hR:∀h g h' t x,R h g h' t x->RA g h' t x)(o:Mu P id F RA)
  (hbase:∀env,attributeBase (.Name y np) name env (eval (.Name y np) env)=eval (.Name y np) env)(hline:(apos.endLine==cpos.line)=true)(htrees:∀env,backTo cpos (starEach [e] env)=[(false,eval e env)])(hw:∀env,swapsWith (.Call (.Attribute (.Name y np) name apos) [e] [] cpos) none pos.line env=pure false)
  (h:aq P B C e pe R):aR P B C fr C (.Expr (.Call (.Attribute (.Name y np) name apos) [e] [] cpos) pos) (iI i F pe):=fun n A env g V J s k Q E X hb hq hr=>by
 show wpAny P.M A (exec _ env) Q E s
 rw [exec_Expr env _ pos (by simp [interactive,X.fn]) (hw env)]
 unfold iI at hb hq
 cases e0:bX V i with
 |none=>rw [e0] at hb;exact absurd rfl hb
 |some t=>
  rw [e0] at hb hq
  have hk:=fX hb
  simp only [hk,cond_true] at hb hq
  obtain ⟨u,v,q⟩:=X.env.var i _ t ht e0
  unfold bE at q
  rw [hv] at q
  obtain ⟨a,rfl,oi,r⟩:=q
  refine wpAny_bind (wpAny_standAt (wpAny_bind (lz m hbase hline htrees (bc X ht v ⟨sX (.inr ⟨a,rfl,r⟩) hk,h n A env g V J s _ _ _ X hb fun x' s₂ g2 t' J2 ea p2 w2 rb=>?_⟩))))
  obtain ⟨y',e'⟩:=ch fun q=>hb (ea.trans q)
  have X2:=X.post p2 w2
  have ka:=fun o e=>p2.keep a o e (X.g.O a ⟨i,oi⟩).2.2
  refine o A g2 J2 s₂ a x' t t' y' _ _ X.rm w2 (r.mono (p2.k X.g) ka) (hR _ _ _ _ _ rb) e' fun h' tk hs hy=>wpAny_dropValue ?_
  obtain ⟨pS,X'⟩:=jW X2 hv (by rw [e0];exact fun q=>by cases q) (by rw [p2.o];exact oi) (v.move fun b m o e=>p2.keep b o e (X.env.own b m).2.2.1) hs hy tk
  exact hq _ _ _ J2 (ea.trans (by rw [e'];rfl)) (p2.toS.trans pS) X'
theorem iD:Mu P "list.append" dL (fun g h t x=>Rp P g h t x):=fun A g J s a x' t v y Q E rm w r rv e hq=>by
 obtain ⟨xs,e1,e2⟩:=aB e
 obtain ⟨hl,rfl⟩:=fm e2
 cases fq e1
 obtain ⟨vs,n,a1,a3,a2⟩:=r
 refine eL a1 (hq _ s.toks (Heap.SameBut.update s.heap a (Obj.mapSeq fun a=>a.push x')).2 fun kf=>⟨_,_,IsL.update a1 (fun a=>a.push x'),by rw [List.length_append];exact hl,?_⟩) (bj (a2.size▸a3))
 rw [Array.toList_push]
 exact aZ.append (aZ.cons (rv.mono kf) aZ.nil) (a2.mono kf)
theorem ro {prog:Program}{w:World}{A:Around}{E:Value->Shared->Prop}{s:Shared}{l b:Addr}{items items2:Array Value}{n n2:Nat}{Q:Value->Shared->Prop}(hl:IsL s.heap l items n)(hb:IsL s.heap b items2 n2)
  (h:Q .none {s with heap:=s.heap.update l (Obj.mapSeq fun a=>a++items2)})(hsz:items.size+items2.size<=lim):wpAny (model prog w) A (call (.builtin "list.extend") [.ref l,.ref b]) Q E s:=by
 have hlim:lim=1000000:=rfl
 have h1:=bj (k:=items.size) (by lia -abstractProof)
 have h2:=bj hsz
 refine call_meets F.slot_list_extend ⟨_,hl,rfl⟩ F.entry_list_extend (F.args_list_extend_2 _ _) (AutoSeq1.list_extend_list_list_0 l items n b items2 n2 ?_ h1 (by lia)) ⟨hl,hb,h⟩
 have:Builtin.List.listTooLong (items.size+items2.size)=false:=by
  unfold Builtin.List.listTooLong
  simp only [decide_eq_false_iff_not]
  lia
 simp [this]
theorem xo:Mu P "list.extend" iO (fun g h t x=>kW P g h t x):=fun A g J s a x' t v y Q E rm w r rv e hq=>by
 obtain ⟨xs,ys,e1,e3,e2⟩:=bz e
 obtain ⟨hl,rfl⟩:=fm e2
 cases fq e1
 obtain ⟨vs,n,a1,a3,a2⟩:=r
 obtain ⟨b,rfl,vs',n',b1,b3,b2⟩:=(kW.y rv).ls e3
 refine ro a1 b1 (hq _ s.toks (Heap.SameBut.update s.heap a (Obj.mapSeq fun a=>a++vs')).2 fun kf=>⟨_,_,IsL.update a1 (fun a=>a++vs'),by rw [List.length_append];exact hl,?_⟩) (by rw [a2.size,b2.size];exact hl)
 rw [Array.toList_append]
 exact aZ.append (b2.mono kf) (a2.mono kf)
theorem Aa {A:Around}{a b:Nat}(rm:Rm A)(h:a<=du):A.units+2+min a b < cLine:=by
 have:=rm.units
 have:min a b<=50:=le_trans (min_le_left _ _) h
 lia -abstractProof
theorem zO:t3 P (Hd P "list.index") fM (RV P):=fun A env g J s x x' t t' y Q E rm w q q' e hq=>by
 obtain ⟨xs,e1,e2⟩:=aB e
 obtain ⟨d,ds,h1,h2,e3⟩:=bz e2
 obtain ⟨j,h3,e4⟩:=aB e3
 cases e4
 obtain ⟨l,rfl,vs,n,a1,a3,a2⟩:=q.ls e1
 obtain ⟨⟨as,r1⟩,c1,l1⟩:=dQ du t' x' d h1 q'
 obtain ⟨⟨bs,r2⟩,c2,l2⟩:=iw (fun t x d e r=>dQ du t x d e (.inl r)) xs _ ds h2 a2
 have hmap:=readsAll_map ds vs.toList bs c2 r2
 obtain ⟨hj,hj1,hj2⟩:=List.findIdx?_eq_some_iff_getElem.mp h3
 have hlen:ds.length=vs.size:=by rw [<-hmap,length_map];rfl
 have at':∀(k:Nat) (h:k < vs.size) (h':k < ds.length),readOf s.heap vs[k]=ds[k]:=fun k h h'=>by
  have:ds[k]=(vs.toList.map (readOf s.heap))[k]'(by rw [length_map];exact h):=by simp only [hmap]
  rw [this,List.getElem_map];rfl
 refine call_meets F.slot_list_index ⟨_,a1,rfl⟩ F.entry_list_index (F.args_list_index_2 _ _)
  (list_indexAt l vs n Option.none #[] x' (fun v=>PyData.eqv (readOf s.heap v) d) j (hlen▸hj) (by have:=a2.size;have:lim=1000000:=rfl;lia -abstractProof) (by rw [at' j (hlen▸hj) hj];exact hj1) fun k hk hkj=>?_)
  ⟨a1,items_eqAt r2 r1 c2 c1 (lt_of_le_of_lt (by lia -abstractProof) (Aa (b:=d.depth) rm l2)),?_⟩
 .rw [at' k hk (hlen▸hk)]
  simpa using hj2 k hkj
 .exact dC w hq
theorem pG:∀{ts:List T} {vs:List Value} {xs:List Str},aZ P g h ts vs->yn ts=some xs->∃l:List (Str×Tok),vs=strValues l/\l.map (·.1)=xs
 | [],_,_,r,hs=>by cases r;cases hs;exact ⟨[],rfl,rfl⟩
 |t::ts,_,xs,⟨v,vs,e,r,rs⟩,hs=>by
  obtain ⟨y,ys,h1,h2,h3⟩:=bz hs
  cases h3;cases vc h1
  obtain ⟨_,p,rfl⟩:=r
  obtain ⟨l,e1,e2⟩:=pG rs h2
  exact ⟨(y,p)::l,by rw [e,e1];rfl,by rw [<-e2];rfl⟩
theorem zE:t3 P (Hd P "str.join") vR (RV P):=fun A env g J s x x' t t' y Q E rm w q q' e hq=>by
 obtain ⟨sep,ts,e1,e2,e3⟩:=bz e
 obtain ⟨xs,e4,e5⟩:=aB e3
 obtain ⟨c,rfl⟩:=dD e5
 obtain ⟨c12,c3⟩:=aj c
 obtain ⟨c1,c2⟩:=aj c12
 obtain ⟨_,p,rfl⟩:=q.s e1
 obtain ⟨l,rfl,vs,n,a1,a3,a2⟩:=q'.ls e2
 obtain ⟨lt,q1,rfl⟩:=pG a2 e4
 have c1':Builtin.Str.tooLong ((lt.map (·.1)).toArray.foldl (·+·.length+sep.length) 0)=false:=by
  unfold JoinOk at c1
  rw [not_eq_true'] at c1;exact c1
 refine call_meets F.slot_str_join (typeIs_str _ _ _) F.entry_str_join (F.args_str_join_2 _ _) (meets_str_join_list sep p l lt c1') ⟨⟨_,a1,rfl,n,by rw [<-q1]⟩,post_join lt ⟨joinFit_length c1',fun t' k=>?_⟩⟩
 exact hq _ _ g (.toks g s k) w ⟨⟨c2,fB c3⟩,_,rfl⟩
theorem r8:∀(l:List (Str×Tok)),(∀p∈l,PyData.strOk p.1=true/\p.1.length<=lim)->aZ P g h ((l.map (·.1)).map T.str) (strValues l)
 | [],_=>rfl
 | (x,t)::r,hl=>⟨_,_,rfl,⟨hl (x,t) mem_cons_self,t,rfl⟩,r8 r fun p hp=>hl p (mem_cons_of_mem _ hp)⟩
theorem wI:t3 P (Hd P "str.split") qz (RV P):=fun A env g J s x x' t t' y Q E rm w q q' e hq=>by
 obtain ⟨z,z',e1,e2,e3⟩:=bz e
 obtain ⟨c,rfl⟩:=dD e3
 obtain ⟨c12,c3⟩:=aj c
 obtain ⟨c1,c2⟩:=aj c12
 obtain ⟨⟨h1,h2⟩,p,rfl⟩:=q.s e1
 obtain ⟨_,u,rfl⟩:=q'.s e2
 have c1:(z'.length==0)=false:=by rw [not_eq_true'] at c1;exact c1
 have c2:=fB c2
 have fin:∀(lt:List (Str×Tok)) (tk:Nat),lt.map (·.1)=Txt.split z z'->Q (.ref s.heap.objs.size) {s with heap:=s.heap.push (bA (strValues lt).toArray 0),toks:=tk}:=fun lt tk hlt=>by
  rw [<-hlt] at c2 c3 hq
  refine j6 w (r8 lt fun p hp=>?_) (by rw [length_map];exact c2) hq
  have:=aj (aA c3 p.1 (mem_map_of_mem hp))
  exact ⟨this.1,of_decide_eq_true this.2⟩
 have hx:z.length<=sizeLine:=bj h2
 cases q1:(decide (z.length < z'.length)||decide (Builtin.Str.strKind z < Builtin.Str.strKind z'))
 .cases hf:(Builtin.Str.occurrences z z' 0 z.length (z.length+1)).isEmpty
  .have hsp:Txt.split z z'=Builtin.Str.partsBetween z (Builtin.Str.occurrences z z' 0 z.length (z.length+1)) z'.length:=(if_neg (ne_true_of_eq_false q1)).trans (if_neg (ne_true_of_eq_false hf))
   refine call_meets F.slot_str_split (typeIs_str _ _ _) F.entry_str_split (F.args_str_split_2 _ _) (meets_str_split_sep z z' p u q1 c1 hf hx (by rw [<-hsp];exact bj c2)) ?_
   show wants _ _ _ {s with toks:=_,heap:=s.heap.push {cls:=.type "list",data:=.seq (strsFrom s.toks (Builtin.Str.partsBetween z (Builtin.Str.occurrences z z' 0 z.length (z.length+1)) z'.length)).toArray}}
   rw [strsFrom_eq]
   exact fin _ _ ((numbered_texts _ _).trans hsp.symm)
  .exact call_meets F.slot_str_split (typeIs_str _ _ _) F.entry_str_split (F.args_str_split_2 _ _) (meets_str_split_not_found z z' p u q1 c1 hf) (fin [(z,p)] s.toks ((if_neg (ne_true_of_eq_false q1)).trans (if_pos hf)).symm)
 .exact call_meets F.slot_str_split (typeIs_str _ _ _) F.entry_str_split (F.args_str_split_2 _ _) (meets_str_split_cannot_occur z z' p u q1) (fin [(z,p)] s.toks (if_pos q1).symm)
theorem j7:AX .list (ofString "append") "list.append":=⟨F.slot_list_append,F.type_list_append⟩
theorem ES:AX .str (ofString "join") "str.join":=⟨F.slot_str_join,F.type_str_join⟩
theorem Cf:AX .str (ofString "split") "str.split":=⟨F.slot_str_split,F.type_str_split⟩
theorem zT:AX .list (ofString "extend") "list.extend":=⟨F.slot_list_extend,F.type_list_extend⟩
theorem Cg:AX .list (ofString "index") "list.index":=⟨F.slot_list_index,F.type_list_index⟩
end
end
end Mine
namespace Mine
noncomputable section
open PySem PySem.W PyProof.Rows PySem.SeqAt
noncomputable abbrev jv:=Ky×Addr×Value
section
variable {P:Pg} {B:bG} {C:Ct} {fr:Bool} {g g':Gh} {h h':Heap} {t:T} {x:Value}
theorem Gz {f:T->Option Ky}{n:Nat}(hf:∀t H x,f t=some H->Rp P g h t x->xL h n H x)(ts:List T):∀(κs:List Ky) (xs:List Value),kS.go f ts=some κs->aZ P g h ts xs->Fg h n κs xs:=by
 induction ts with
 |nil=>exact fun κs xs e r=>⟨[],Option.some.inj e,r⟩
 |cons t ts ih=>
  intro κs xs e ⟨v,vs,e',q,r⟩
  obtain ⟨H,Hs',e1,e2,e3⟩:=bz e
  obtain ⟨d,g1,h1⟩:=hf t H _ e1 q
  obtain ⟨ds,g2,h2⟩:=ih Hs' _ e2 r
  exact ⟨d::ds,by rw [Kx.norms,g1,g2];exact Option.some.inj e3,⟨_,_,e',h1,h2⟩⟩
theorem dB (n:Nat)(t:T)(H:Ky)(x:Value)(hn:kS n t=kS 0 t):kS n t=some H->Rp P g h t x->xL h n H x:=hn▸
 T.casesOn (motive_1:=fun t=>kS 0 t=some H->Rp P g h t x->xL h n H x) t no (fun b e r=>Option.some.inj e▸⟨.bool b,rfl,r⟩) (fun i e r=>Option.some.inj e▸⟨.int i,rfl,r⟩) (fun s e r=>Option.some.inj e▸⟨.str s,rfl,r.1.1,r.2⟩) (fun _=>no) (fun _=>no) (fun _ _=>no) (fun _ _=>no) (fun _=>no) no no
theorem Gy (n:Nat):∀(t:T) (H:Ky) (x:Value),kS n t=some H->Rp P g h t x->xL h n H x:=by
 induction n with
 |zero=>exact fun t H x=>dB 0 t H x rfl
 |succ n ih=>
  exact fun t=>T.casesOn (motive_1:=fun t=>∀H x,kS (n+1) t=some H->Rp P g h t x->xL h (n+1) H x) t (fun H x=>dB _ _ H x rfl) (fun _ H x=>dB _ _ H x rfl) (fun _ H x=>dB _ _ H x rfl) (fun _ H x=>dB _ _ H x rfl)
   (fun ts H x e ⟨_,z,_,vs,m,hg,_,r⟩=>let ⟨κs,e1,e2⟩:=aB (show o1 (kS.go (kS n) ts) (fun ks=>some (Ky.tup ks))=some H from e);let ⟨ds,g1,h1⟩:=Gz ih ts κs _ e1 r;⟨.tup ds,(congrArg Ky.tup g1).trans (Option.some.inj e2),_,_,_,n,z,rfl,hg,h1⟩)
   (fun _ H x=>dB _ _ H x rfl) (fun _ _ H x=>dB _ _ H x rfl) (fun _ _ H x=>dB _ _ H x rfl) (fun _ H x=>dB _ _ H x rfl) (fun H x=>dB _ _ H x rfl) (fun H x=>dB _ _ H x rfl)
theorem n7 {H:Ky}(e:zC t=some H)(r:fP P g h t x):∃a,x=.ref a/\(b7 P.prog P.w).is h H a/\Rp P g h t x:=by
 obtain ⟨ts,e1,e2⟩:=aB e
 cases jn e1
 have r:=r.v fun _ h=>h
 have k:=Gy 6 _ H _ e2 r
 obtain ⟨a,rfl,_⟩:=id r
 exact ⟨a,rfl,k,r⟩
theorem v8 (es:List DictEntry):∀(us:List T) (κs:List Ky),aZ P g h us (es.map (·.key))->fW us=some κs->es.map (·.hash)=κs.map (Ky.hash P.w)->
  ∃xs:List jv,es=xs.map (entryOfKey (b7 P.prog P.w))/\xs.map (·.1)=κs/\(∀x∈xs,(b7 P.prog P.w).is h x.1 x.2.1):=by
 induction es with
 |nil=>
  intro us κs r e hh
  obtain rfl:us=[]:=length_eq_zero_iff.mp r.length.symm
  cases e;exact ⟨[],rfl,rfl,fun _ h=>nomatch h⟩
 |cons en es ih=>
  intro us κs r e hh
  cases us with
  |nil=>cases r
  |cons u us=>
   obtain ⟨_,_,e0,q,r⟩:=r
   cases e0
   obtain ⟨H,Hs',e1,e2,e3⟩:=bz (show o2 (zC u) (fW us) _=some κs from e)
   cases e3
   obtain ⟨a,ha,hk,_⟩:=n7 e1 (.inl q)
   obtain ⟨hh1,hh2⟩:=List.cons.inj hh
   obtain ⟨xs,h1,h2,h3⟩:=ih us Hs' r e2 hh2
   exact ⟨(H,a,en.val)::xs,List.cons_eq_cons.mpr ⟨(show en=⟨en.hash,en.key,en.val⟩ from rfl).trans (by rw [show en.key=_ from ha,show en.hash=_ from hh1];rfl),h1⟩,congrArg (H::·) h2,aI ⟨hk,h3⟩⟩
inductive Hc (P:Pg) (g:Gh) (h:Heap) (us ts:List T) (a:Addr):Prop
 |mk (xs:List jv) (n:(a==sysModules)=false) (d:h.DictOfH (b7 P.prog P.w) a xs) (k:fW us=some (xs.map (·.1))) (r:aZ P g h us (xs.map fun y=>Value.ref y.2.1)) (r':aZ P g h ts (xs.map (·.2.2))) (l:us.length<=lim)
theorem rN.is {us ts:List T}{a:Addr}{u:T}{j:Option Nat}(hf:kU us u=some j)(q:rN P h us (aZ P g h us) (aZ P g h ts) a):Hc P g h us ts a:=by
 obtain ⟨_,_,hk,_⟩:=bz hf
 obtain ⟨n,o,es,e,q,r1,r2⟩ | ⟨n,kvs,d,eu,l,ne,r'⟩:=q
 rotate_left
 .cases kvs with
  |nil=>exact absurd rfl ne
  |cons p kvs=>rw [eu] at hk;cases hk
 obtain ⟨H,k1,k2,k3⟩:=q.k
 obtain ⟨ep,d⟩:=q.d
 obtain ⟨xs,h1,h2,h3⟩:=v8 es us H r1 k1 k2
 refine ⟨xs,n,⟨o,_,ep,e,q.x,d,h1,h3,by rw [h2];exact k3⟩,by rw [h2];exact k1,?_,?_,q.l⟩
 .rw [h1,map_map] at r1;exact r1
 .rw [h1,map_map] at r2;exact r2
theorem Hc.back {us ts:List T}{a:Addr}{xs:List jv}(n:(a==sysModules)=false)(d:h.DictOfH (b7 P.prog P.w) a xs)(k:fW us=some (xs.map (·.1)))(r:aZ P g h us (xs.map fun y=>Value.ref y.2.1))(r':aZ P g h ts (xs.map (·.2.2)))(l:us.length<=lim):fR P g h a (.dct us ts):=by
 obtain ⟨o,es,ep,e,x,d,h1,h3,h4⟩:=d
 refine rN.mk n o es.toList e ⟨x,⟨ep,d⟩,⟨_,k,?_,h4⟩,l⟩ ?_ ?_
 .rw [h1,map_map,map_map];rfl
 .rw [h1,map_map];exact r
 .rw [h1,map_map];exact r'
theorem vd {p:List T×List T}:AT t=some p->t=.dct p.1 p.2:=T.casesOn (motive_1:=fun t=>AT t=some p->t=T.dct p.1 p.2) t no (fun _=>no) (fun _=>no) (fun _=>no) (fun _=>no) (fun _=>no) (fun x y e=>Option.some.inj e▸rfl) (fun _ _=>no) (fun _=>no) no no
theorem fP.d {p:List T×List T}{u:T}{i:Option Nat}(q:fP P g h t x)(e:AT t=some p)(hf:kU p.1 u=some i):∃a,x=.ref a/\Hc P g h p.1 p.2 a:=by cases vd e;exact q.elim (fun r=>let ⟨a,e,_,o⟩:=r;⟨a,e,o.is hf⟩) fun ⟨a,e,o⟩=>⟨a,e,rN.is hf o⟩
theorem oP (H:Ky):∀(xs:List jv),atKey xs H=(q8 (xs.map (·.1)) H).bind fun i=>(xs[i]?).map (·.2)
 | []=>rfl
 |x::xs=>by
  have ih:=oP H xs
  unfold atKey q8 at ih ⊢
  rw [map_cons,findIdx?_cons,List.find?_cons]
  cases decide (x.1=H) with
  |true=>rfl
  |false=>
   simp only [Bool.false_eq_true,if_false]
   rw [ih]
   cases List.findIdx? (fun y=>decide (y=H)) (xs.map (·.1)) with
   |none=>rfl
   |some i=>rfl
theorem vP {κs:List Ky}{H:Ky}{i:Nat}(e:q8 κs H=some i):κs[i]?=some H:=by
 obtain ⟨h1,h2,_⟩:=List.findIdx?_eq_some_iff_getElem.mp e
 rw [getElem?_eq_getElem h1,of_decide_eq_true h2]
theorem vv {A:Around}(hu:A.units+200 < cLine):(b7 P.prog P.w).room A.in1:=by
 show A.in1.units+6 < cLine
 rw [Around.in1_units];lia -abstractProof
theorem y7 {A:Around}{x y:Value}{s:Shared}{t:Bool}{Q:Value->Shared->Prop}{E:Value->Shared->Prop}(h:wpAny P.M A (compareOp .In x y) (fun v s'=>v=.bool t/\Q (.bool (!t)) s') E s):wpAny P.M A (compareOp .NotIn x y) Q E s:=fun Z p hΓ=>by
 have h':=h Z p hΓ
 rw [show compareOp .In x y=(do return .bool (<-contains y x)) from rfl,Sem.wp_bind'] at h'
 rw [show compareOp .NotIn x y=(do return .bool (!(<-contains y x))) from rfl,Sem.wp_bind']
 refine Sem.wp_mono P.M Z _ (fun b p' s' q=>?_) (fun _ _ _ q=>q) p s h'
 obtain ⟨q1,q2⟩:=(show Value.bool b=.bool t/\_ from q)
 cases q1;exact q2
theorem vz {H:Ky}{z:Value}:∀{xs:List jv} {j:Nat},(xs.map (·.1)).Nodup->(∃x,xs[j]?=some x/\x.1=H)->(xs.map (putAt H z)).map (·.2.2)=(xs.map (·.2.2)).set j z/\(xs.map (putAt H z)).map (fun y=>Value.ref y.2.1)=xs.map (fun y=>Value.ref y.2.1)
 | [],j,_,⟨_,h,_⟩=>by cases h
 |x::xs,0,nd,⟨y,h,h'⟩=>by
  cases h
  have:xs.map (putAt H z)=xs:=map_putAt_of_not_mem xs H z (by rw [<-h'];exact (aX nd).1)
  rewrite [map_cons,this]
  simp [putAt,h']
 |x::xs,j+1,nd,⟨y,h,h'⟩=>by
  have nd':=aX nd
  obtain ⟨h1,h2⟩:=vz (H:=H) (z:=z) (xs:=xs) (j:=j) nd'.2 ⟨y,h,h'⟩
  have hx:x.1≠H:=fun q=>nd'.1 (by show x.1∈_;rw [q,<-h'];exact mem_map_of_mem (mem_of_getElem? (i:=j) h))
  have e:putAt H z x=x:=by unfold putAt;rw [if_neg hx]
  rewrite [map_cons,e]
  exact ⟨congrArg (x.2.2::·) h1,congrArg (Value.ref x.2.1::·) h2⟩
theorem kJ {xs:List jv}{us:List T}{k:T}{H:Ky}{i:Option Nat}(hk:fW us=some (xs.map (·.1)))(e:kU us k=some i)(e':zC k=some H):q8 (xs.map (·.1)) H=i:=by
 unfold kU at e
 rw [hk,e'] at e
 exact Option.some.inj e
theorem m4 {xs:List jv}{H:Ky}{j:Nat}(e:q8 (xs.map (·.1)) H=some j):∃x,xs[j]?=some x/\x.1=H:=by
 have:=vP e
 rw [getElem?_map] at this
 cases hx:xs[j]? with
 |none=>rw [hx] at this;cases this
 |some x=>rw [hx] at this;exact ⟨x,rfl,Option.some.inj this⟩
theorem lG {us:List T}{i:Option Nat}(e:kU us t=some i):∃H,zC t=some H:=let ⟨_,H,_,e2,_⟩:=bz e;⟨H,e2⟩
theorem Am:kX P .In AR:=fun A g J s x x' t t' b Q E rm w q q' e k=>by
 obtain ⟨p,e1,e2⟩:=aB e
 obtain ⟨i,e3,e4⟩:=aB e2
 cases e4
 obtain ⟨H,hk⟩:=lG e3
 obtain ⟨d,rfl,xs,n,dd,kk,r,r',_⟩:=q'.d e1 e3
 obtain ⟨ad,rfl,hi,_⟩:=n7 hk q
 have f:=kJ kk e3 hk
 refine wpAny_in_heap (vv rm.units) hi n dd ?_
 rw [show (atKey xs H).isSome=i.isSome by
  rw [oP,f]
  cases i with
  |none=>rfl
  |some j=>obtain ⟨x,hx,_⟩:=m4 f;rw [bind_some,hx];rfl]
 exact k _
theorem xx:kX P .NotIn dI:=fun A g J s x x' t t' b Q E rm w q q' e k=>by
 obtain ⟨c,e1,rfl⟩:=av e
 exact y7 (Am A g J s x x' t t' c _ E rm w q q' e1 fun tk=>⟨rfl,k tk⟩)
theorem yW {value slice:Expr}(hs:∀x y,subscripted slice false x y=operate [x,y] (getItem x y)):t3 P (AG P value slice) idxD (RV P):=fun A env g J s x x' t t' y Q E rm w q q' e hq=>by
 obtain ⟨p,e1,e2⟩:=aB e
 obtain ⟨i,e3,e4⟩:=aB e2
 obtain ⟨j,rfl,hv⟩:=aB e4
 obtain ⟨H,hk⟩:=lG e3
 obtain ⟨d,rfl,xs,n,dd,kk,r,r',_⟩:=q.d e1 e3
 obtain ⟨ad,rfl,hi,_⟩:=n7 hk q'
 have f:=kJ kk e3 hk
 obtain ⟨z,hz,hz'⟩:=m4 f
 obtain ⟨u,hu',hr⟩:=r'.get hv
 rw [getElem?_map,hz] at hu'
 cases hu'
 refine tail_any dd.typeIs slot_dict_getitem.lookup (wpAny_getItem_heap (vv rm.units) hi dd (p:=z.2) ?_ (hq _ _ g (.toks g s _) w hr)) (hs _ _)
 rw [oP,f,bind_some,hz];rfl
theorem aq.idxD {a i:Expr}{pa pi:PE}{pos:Pos}(hs:∀x y,subscripted i false x y=operate [x,y] (getItem x y))(ha:aq P B C a pa (RX P))(hi:aq P B C i pi (RX P)):aq P B C (.Subscript a i pos) (p2 idxD pa pi) (RV P):=
 (ha.op2 hi.xy mD (yW hs)).map fun _ _ _ _ _=>Subscript_
theorem uN {f:T->Option Ky}:∀{ts:List T} {κs:List Ky} {t:T} {H:Ky},kS.go f ts=some κs->f t=some H->kS.go f (ts++[t])=some (κs++[H])
 | [],_,t,H,e,e'=>by cases e;rw [List.nil_append,xn,e'];rfl
 |x::ts,κs,t,H,e,e'=>by
  obtain ⟨k,ks,e1,e2,e3⟩:=bz (show o2 (f x) (kS.go f ts) _=some κs from e)
  cases e3
  rw [cons_append,xn,e1,uN e2 e'];rfl
theorem lS {xs:List jv}{us ts:List T}{k v:T}{H:Ky}{i:Option Nat}{ad:Addr}{z:Value}(hk:fW us=some (xs.map (·.1)))(nd:(xs.map (·.1)).Nodup)(hd:kU us k=some i)(hky:zC k=some H)(r:aZ P g h us (xs.map fun y=>Value.ref y.2.1))(r':aZ P g h ts (xs.map (·.2.2)))(q:Rp P g h k (.ref ad))(q':Rp P g h v z):
  fW (nG i k v us ts).1=some ((storedH xs H ad z).map (·.1))/\aZ P g h (nG i k v us ts).1 ((storedH xs H ad z).map fun y=>Value.ref y.2.1)/\aZ P g h (nG i k v us ts).2 ((storedH xs H ad z).map (·.2.2)):=by
 have f:=kJ hk hd hky
 have a:=oP H xs
 rw [f] at a
 cases i with
 |none=>
  rw [storedH_new a,map_append,map_append,map_append]
  exact ⟨uN hk hky,aZ.append (aZ.cons q aZ.nil) r,aZ.append (aZ.cons q' aZ.nil) r'⟩
 |some j=>
  obtain ⟨x,hx,hx'⟩:=m4 f
  rw [bind_some,hx] at a
  rw [storedH_old a,keys_map_putAt]
  obtain ⟨h1,h2⟩:=vz (z:=z) nd ⟨x,hx,hx'⟩
  exact ⟨hk,by rw [h2];exact r,by rw [h1];exact r'.set q' j⟩
theorem yO {α:Type}{i:Option Nat}{k v:α}{ks vs:List α}(h:ks.length+1<=lim):(nG i k v ks vs).1.length<=lim:=by
 cases i with
 |none=>rw [nG,List.length_append];exact h
 |some j=>exact le_of_succ_le h
def Pu (P:Pg)(F:T->T->T->Option T):Prop:=
 ∀A g J s a xk xv t H v y Q E,Rm A->bC P g s.heap J->fR P g s.heap a t->fP P g s.heap H xk->Rp P g s.heap v xv->F t H v=some y->
  (∀h' tk,(∀b,b≠a->h'.get? b=s.heap.get? b)->(aQ g s.heap g h'->fR P g h' a y)->Q () {s with heap:=h',toks:=tk})->wpAny P.M A (setItem (.ref a) xk xv) Q E s
theorem vA:Pu P d5:=fun A g J s a xk xv t H v y Q E rm w r rk rv e hq=>by
 obtain ⟨p,e1,e2⟩:=aB e
 obtain ⟨i,e3,e4⟩:=aB e2
 obtain ⟨hl,rfl⟩:=fm e4
 cases vd e1
 obtain ⟨ky,hk⟩:=lG e3
 obtain ⟨xs,n,dd,kk,r1,r2,_⟩:=rN.is e3 r
 obtain ⟨ad,rfl,hi,rk⟩:=n7 hk rk
 have nd:(xs.map (·.1)).Nodup:=let ⟨_,_,_,_,_,_,_,_,nd⟩:=dd;nd
 have hxl:xs.length<=sizeLine:=bj (by have:=r1.length;rw [length_map] at this;lia -abstractProof)
 refine wpAny_setItem_heap (vv rm.units) hi dd (fun h' dd' hs=>hq h' _ hs.2 fun kf=>?_) hxl
 obtain ⟨g1,g2,g3⟩:=lS (v:=v) (z:=xv) kk nd e3 hk r1 r2 rk rv
 exact Hc.back n dd' g1 (g2.mono kf) (g3.mono kf) (yO hl)
theorem aR.put {i e:Expr}{y:Str}{k:NameKind}{np p pos:Pos}{pi pe:PE}{j:Nat}{F:T->T->T->Option T}(o:Pu P F)(hv:bi C j=true)(ht:B.tab[j]?=some (some (y,k)))(hw:∀env,swapsWith e (some (.Subscript (.Name y np) i p)) pos.line env=pure false)(h2:aq P B C i pi (RX P))(h3:aq P B C e pe (RV P)):
  aR P B C fr C (.Assign [.Subscript (.Name y np) i p] e pos) (AM j F pi pe):=fun n A env g V J s kk Q E X hb hq hr=>by
 refine wpAny_Assign_Subscript (h3 n A env g V J s _ _ E X hb fun z s₁ ga v J1 ea p1 w1 ra=>?_) (hw env)
 have X1:=X.post p1 w1
 have ea:AM j F pi pe (P.cx n) V J kk=(match bX V j with |some x=>pi (P.cx n) V J1 fun H J=>up (F x H v) J fun y J=>kk (V.set j (some y)) J |none=>.bad):=ea
 cases e0:bX V j with
 |none=>rw [e0] at ea;exact absurd ea hb
 |some t=>
  rw [e0] at ea
  have hb1:=fun q=>hb (ea.trans q)
  obtain ⟨u,va,q⟩:=X1.env.var j _ t ht e0
  unfold bE at q
  rw [hv] at q
  obtain ⟨a,rfl,oi,r⟩:=q
  refine bc X1 ht va (h2 n A env ga V J1 s₁ _ _ E X1 hb1 fun xk s₂ gb H J2 eb pb w2 rb=>?_)
  obtain ⟨y',e'⟩:=ch fun q=>hb1 (eb.trans q)
  have X2:=X1.post pb w2
  refine o A gb J2 s₂ a xk z t H v y' _ _ X.rm w2 (r.mono (pb.k w1) fun o e=>pb.keep a o e (X1.g.O a ⟨j,oi⟩).2.2) (kW.y rb) (Rp.mono (pb.k w1) ra) e' fun h' tk hs hy=>?_
  obtain ⟨pS,X'⟩:=jW X2 hv (by rw [e0];exact fun q=>by cases q) (by rw [pb.o];exact oi) (va.move fun b m o e=>pb.keep b o e (X1.env.own b m).2.2.1) hs hy tk
  exact hq _ _ _ J2 (ea.trans (eb.trans (by rw [e'];rfl))) ((p1.trans pb).toS.trans pS) X'
theorem qA {g:Gh}{J:Sg}{s:Shared}(G:t7 P)(w:bC P g s.heap J):(s.heap.objs.size==sysModules)=false:=by
 obtain ⟨o,_,_,e,_⟩:=G.g
 have:=Heap.lt_size (w.base _ _ e).2
 exact beq_eq_false_iff_ne.mpr fun q=>by rw [q] at this;exact absurd this (by decide)
theorem aq.dic {pos:Pos}:aq P B C (.Dict [] [] pos) nQ (RN P):=fun n A env g V J s k Q E X hb hq=>by
 refine wpAny_Dict_empty (hq _ _ g _ J rfl (.push _ s.toks) (X.g.push _) ?_)
 obtain ⟨h1,h2,h3⟩:=dM X.g
 exact ⟨_,rfl,aN _,h1,h2,h3,rN.mk (qA X.good X.g) _ [] (bF _) ⟨⟨rfl,rfl,rfl⟩,⟨_,rfl⟩,⟨[],rfl,rfl,.nil⟩,zero_le _⟩ rfl rfl⟩
end
end
end Mine
namespace Mine
noncomputable section
open PySem PyProof.Rows PySem.SeqAt
inductive bH (P:Pg) (c:Nat) (ms:List (Str×Nat)):Prop
 |mk (N:Addr) (mN:Str->Option Value) (K:ClsAt P.h₀ (P.cls c) N mN) (g1:mN "__getattribute__"=none) (g2:mN "__getattr__"=none) (g3:mN "__setattr__"=none) (g4:∀x∈cD c,mN x=none/\typeLookup (.type "object") x=pure none)
  (g5:∀p∈ms,mN p.1=some (.ref (P.fnA p.2))/\(∃y,typeLookup (.type "object") p.1=pure y)/\∃o,P.h₀.get? (P.fnA p.2)=some o/\o.cls=.type "function")
abbrev Fh (P:Pg)(h:Heap):Prop:=∀a o,P.h₀.get? a=some o->h.get? a=some o
section
variable {P:Pg} {B:bG} {C C':Ct} {fr:Bool} {n c i f:Nat} {A:Around} {env:Env} {g g':Gh} {V:aP} {J:Sg} {s s':Shared} {h h':Heap} {t:T} {x:Value} {ms:List (Str×Nat)} {name:Str} {m:Str->Option Value} {dx a:Addr} {us:List Value} {E:Value->Shared->Prop}
theorem bC.bs (w:bC P g h J):Fh P h:=fun a o e=>(w.base a o e).2
theorem eh.inst (i:eh P h c m dx a):h.Inst a (P.cls c) m:=let ⟨o,e,k,n,ne⟩:=i;⟨o,e,k.cls,k.no,.inr ⟨dx,k.dict,ne,n⟩⟩
theorem lO {u:Value}{Q:Value->Shared->Prop}(O:bH P c ms)(hn:name∈cD c)(bs:Fh P s.heap)(i:eh P s.heap c m dx a)(hm:m name=some u)(hu:handedOut u=pure u)(hq:Q u {s with toks:=s.toks+1}):wpAny P.M A (getAttr (.ref a) name true) Q E s:=by
 obtain ⟨N,mN,K,g1,g2,g3,g4,g5⟩:=O
 obtain ⟨nm,q,bs',sn,sub,col,dd,k0,k1,k2,k3,k5,hC⟩:=(K.keeps bs).obj
 exact load_attr (h:=s.heap) hC (K.keeps bs).ns g1 (g4 name hn).1 (g4 name hn).2 i.inst hm hu hq
theorem zc {pl:Sem Bool}{Q:Value×List Value->Shared->Prop}(O:bH P c ms)(hm:(name,f)∈ms)(hn:name∉cD c)(bs:Fh P s.heap)(i:eh P s.heap c m dx a)(k:t6 c m us)(hq:Q (.ref (P.fnA f),[.ref a]) s):wpAny P.M A (getMethod (.ref a) name pl) Q E s:=by
 obtain ⟨N,mN,K,g1,g2,g3,g4,g5⟩:=O
 obtain ⟨i1,⟨y,hy⟩,oI,i2,i3⟩:=g5 _ hm
 obtain ⟨nm,q,bs',sn,sub,col,dd,k0,k1,k2,k3,k5,hC⟩:=(K.keeps bs).obj
 exact method_of (h:=s.heap) hC (K.keeps bs).ns g1 g2 i1 (bs _ _ i2) i3 hy i.inst (k.no name hn) hq
theorem Rp.handed (r:Rp P g h t x):handedOut x=pure x:=by
 have k:∀{y:Value},x=y->handedOut y=pure y->handedOut x=pure x:=fun e h=>e▸h
 cases t with
 |none=>exact k r rfl
 |bool=>exact k r rfl
 |int=>exact let ⟨_,e⟩:=r;k e rfl
 |str=>exact let ⟨_,_,e⟩:=r;k e rfl
 |scr=>exact let ⟨_,_,e,_,_,_⟩:=r;k e rfl
 |spot=>exact k r rfl
 |self=>exact (show False from r).elim
 |_=>exact let ⟨_,e,_,_⟩:=r;k e rfl
theorem rI {α:Type}{c:Bool}{o:Option α}{y:α}(h:(bif c then o else none)=some y):c=true/\o=some y:=by
 cases c with
 |true=>exact ⟨rfl,h⟩
 |false=>cases h
theorem Ay {ts:List T}(e:HF c t=some ts):t=.obj c ts:=by
 cases t with
 |obj c' us=>obtain ⟨h,rfl⟩:=dD e;rw [eq_of_beq_eq_true h]
 |_=>cases e
theorem wo (O:bH P c ms)(hn:(cD c)[i]?=some name):AW P (Fd P fun x=>getAttr x name true) (o3 c i) (RV P):=fun A env g J s x t y Q E rm w q e hq=>by
 obtain ⟨ts,e1,e2⟩:=aB e
 cases Ay e1
 obtain ⟨a,rfl,f,dx,m,us,fd,ih,k,r⟩:=q.v fun _ h=>h
 obtain ⟨u,hu,hr⟩:=r.get e2
 exact lO O (mem_of_getElem? hn) w.bs ih (k.at_ i name u hu hn) hr.handed (hq u _ g (.toks g s _) w hr)
theorem u9 {M:Model}{o:Expr}{attr:Str}{pos:Pos}{Q:Value->Shared->Prop}(hbase:attributeBase o attr env (eval o env)=eval o env)(hlet:∀x r,letTemporaryGo o x r=pure ())
  (h:wpAny M A (eval o env) (fun o s₁=>wpAny M A (getAttr o attr true) Q E s₁) E s):wpAny M A (eval (.Attribute o attr pos) env) Q E s:=by
 rw [arm_eval_Attribute,hbase]
 refine wpAny_bind (wpAny_mono h (fun o s₁ ha=>wpAny_bind (wpAny_standAt (wpAny_bind (wpAny_holding (wpAny_mono ha (fun r s₂ hc=>?_) fun _ _ y=>y))))) fun _ _ y=>y)
 rw [hlet]
 exact wpAny_bind (wpAny_pure (wpAny_pure hc))
theorem aq.attr {o:Expr}{pos:Pos}{p:PE}(O:bH P c ms)(hn:(cD c)[i]?=some name)(hbase:∀env,attributeBase o name env (eval o env)=eval o env)(hlet:∀x r,letTemporaryGo o x r=pure ())(h:aq P B C o p (RV P)):aq P B C (.Attribute o name pos) (p1 (o3 c i) p) (RV P):=
 (h.vx.xy.op1 mD (wo O hn)).map fun _ env _ _ _=>u9 (hbase env) hlet
theorem bE.self {i:Nat}{u:Value}(q:bE P C g h i .self u):u=.ref g.sa:=by
 unfold bE at q
 cases e:bi C i with
 |true=>rw [e] at q;exact let ⟨_,_,_,r⟩:=q;(show False from r).elim
 |false=>rw [e] at q;exact q.elim (fun r=>(show False from r).elim) (·.2.2.2)
theorem aq.rat {y:Str}{k:NameKind}{np pos:Pos}(O:bH P c ms)(hn:(cD c)[i]?=some name)(ho:bi C 0=false)(ht:B.tab[0]?=some (some (y,k))):aq P B C (.Attribute (.Name y np) name pos) (fJ c i) (RV P):=fun n A env g V J s kk Q E X hb hq=>by
 obtain ⟨u,e⟩:=ch hb
 obtain ⟨t,e0,e1⟩:=aB e
 obtain ⟨v,va,q⟩:=X.env.var 0 _ t ht e0
 unfold bE at q
 rw [ho] at q
 have ek:fJ c i (P.cx n) V J kk=kk u J:=by unfold fJ;rw [e];rfl
 refine u9 rfl (fun _ _=>rfl) (bc X ht va ?_)
 rcases q with r | ⟨_,_,rfl,rfl⟩
 .exact wo O hn A env g J s v t u Q E X.rm X.g (.inl r) (by cases t<;>first |exact e1 |exact (show False from r).elim) fun x s' g' p w r=>hq x s' g' u J ek p w r
 .obtain ⟨p,e2,e3⟩:=aB e1
  obtain ⟨b,e4⟩:=rI e3
  obtain ⟨b1,b2⟩:=aj b
  obtain ⟨dx,m,us,ih,z,z',ne,k,l,sh,_,_⟩:=X.g.self p.1 p.2 e2
  obtain rfl:=eq_of_beq_eq_true b1
  have hi:i < us.length:=by rw [l];exact (ak e4).1
  have r:=sh i _ u (getElem?_eq_getElem hi) e4 ((not_eq_true' _).mp b2)
  exact lO O (mem_of_getElem? hn) X.g.bs ih (k.at_ i name _ (getElem?_eq_getElem hi) hn) r.handed (hq _ _ g u J ek (.toks g s _) X.g r)
theorem t9 {M:Model}{o:Expr}{apos pos:Pos}{args:List Expr}{Q:Value->Shared->Prop}(hbase:attributeBase o name env (eval o env)=eval o env)
  (hfew:methodCallForm (args.length+([]:List Keyword).length) (backTo pos (starEach args env)) (backToKw pos (keywordEach [] env))=true)(hline:(apos.endLine==pos.line)=true)
  (h:wpAny M A (eval o env) (fun ov s₁=>∀pl,wpAny M A (getMethod ov name pl) (fun fv s₂=>wpAny M A (callWith pos fv.1 fv.2 (backTo pos (starEach args env)) []) Q E s₂) E s₁) E s):
  wpAny M A (eval (.Call (.Attribute o name apos) args [] pos) env) Q E s:=by
 rw [arm_eval_Call,hbase]
 refine wpAny_bind (wpAny_mono h (fun ov s₁ ha=>?_) fun _ _ e=>e)
 refine wpAny_bind (wpAny_standAt ?_)
 have hpos:methodCallPos true o env apos pos=pure pos:=by unfold methodCallPos;simp [hline]
 unfold methodCall
 rw [hfew]
 refine wpAny_bind (wpAny_holding ?_)
 exact wpAny_mono (ha _) (fun fv s₂ hc=>wpAny_bind (wpAny_of_eq hpos hc)) fun _ _ e=>e
def Hr (c f:Nat)(name:Str)(apos pos:Pos)(k:Nat):Bool:=!(cD c).contains name&&(rR f&&(!iN f&&((apos.endLine==pos.line)&&Nat.ble k 20)))
structure G8 (c f:Nat) (name:Str) (apos pos:Pos) (k:Nat):Prop where
 n:name∉cD c
 m:rR f=true
 f:iN f=false
 l:(apos.endLine==pos.line)=true
 k:k<=20
theorem zi {apos pos:Pos}{k:Nat}(h:Hr c f name apos pos k=true):G8 c f name apos pos k:=by
 obtain ⟨h1,h⟩:=aj h
 obtain ⟨h2,h⟩:=aj h
 obtain ⟨h3,h⟩:=aj h
 obtain ⟨h4,h⟩:=aj h
 exact ⟨(fun q=>by rw [List.contains_iff_mem.mpr q] at h1;cases h1),h2,(not_eq_true' _).mp h3,h4,le_of_ble_eq_true h⟩
theorem few {es:List Expr}{pos:Pos}(hp:∀q∈starEach es env,q.1=false)(hl:es.length<=20):methodCallForm (es.length+([]:List Keyword).length) (backTo pos (starEach es env)) (backToKw pos (keywordEach [] env))=true:=by
 have h1:(backTo pos (starEach es env)).all (fun x=>!x.1)=true:=all_eq_true.mpr fun p hp'=>by rw [cf hp p hp'];rfl
 unfold methodCallForm
 rw [h1]
 show (true&&true&&decide (es.length+0+0 < 30))=true
 simp;lia -abstractProof
theorem pX {es:List Expr}{ps:PL}{apos pos:Pos}{F:gE}{k:PK T}{Q:Value->Shared->Prop}(O:bH P c ms)(hm:(name,f)∈ms)(hf:P.Ψ f=some F)(me:G8 c f name apos pos es.length)(h':iq P B C es ps)(X:At P B C n A env g V J s)(i:eh P s.heap c m dx a)(kf:t6 c m us)(hr:Rp P g s.heap t (.ref a)\/(t=.self/\a=g.sa))
  (hb:(ps (P.cx n) V J fun ts J=>vI ((P.cx n).call f (t::ts) J) k)≠.bad)(hq:∀x s' g' u J',(ps (P.cx n) V J fun ts J=>vI ((P.cx n).call f (t::ts) J) k)=k u J'->aJ g s g' s'->bC P g' s'.heap J'->Rp P g' s'.heap u x->Q x s')(pl:Sem Bool):
  wpAny P.M A (getMethod (.ref a) name pl) (fun fv s₂=>wpAny P.M A (callWith pos fv.1 fv.2 (backTo pos (starEach es env)) []) Q E s₂) E s:=by
 obtain ⟨o,w1,w2,_⟩:=X.good.fn f F hf
 refine zc O hm me.n X.base i kf (Calls.callWith_function (fd:=P.fd f) (o:=o) (ig (cf (h'.pl env)) (h'.sim pos n A env g V J s _ _ E X hb fun xs s₁ ga ts J1 e p w r=>⟨⟨(w.base _ _ w1).2,w2⟩,?_⟩)))
 obtain ⟨u,J2,ec⟩:=yY fun q=>hb (e.trans q)
 refine tt (X.post p w) (ts:=t::ts) (by rw [me.m];exact ⟨_,_,_,_,rfl,rfl,hr.imp (·.mono (p.k X.g)) (fun ⟨a,b⟩=>⟨a,by rw [p.sa,b]⟩),r⟩) ec fun x s' g' p' w' r'=>hq x s' g' u J2 (e.trans (by rw [ec,Da])) (p.trans p') w' (by have r':=r'.1;rw [me.f] at r';exact r')
theorem aq.meth {o:Expr}{es:List Expr}{p:PE}{ps:PL}{apos pos:Pos}{F:gE}(O:bH P c ms)(hm:(name,f)∈ms)(hf:P.Ψ f=some F)(me:Hr c f name apos pos es.length=true)(hbase:∀env,attributeBase o name env (eval o env)=eval o env)(h:aq P B C o p (RV P))(h':iq P B C es ps):
  aq P B C (.Call (.Attribute o name apos) es [] pos) (vH c f p ps) (RV P):=
 have me:=zi me
 (h.bind (N:=fun A env x Q E s=>∀pl,wpAny P.M A (getMethod x name pl) (fun fv s₂=>wpAny P.M A (callWith pos fv.1 fv.2 (backTo pos (starEach es env)) []) Q E s₂) E s) (F:=fun cx V k t J=>gd (HF c t).isSome (ps cx V J fun ts J=>vI (cx.call f (t::ts) J) k)) mD fun n A env g ga V J s s₁ x t k Q E p X r hb hq=>by
  have hk:=fX hb
  rw [hk] at hb hq
  obtain ⟨ts,e⟩:=aE hk
  cases Ay e
  obtain ⟨a,rfl,_,dx,m,us,_,ih,kf,_⟩:=id r
  exact pX O hm hf me h' X ih kf (.inl r) hb hq).map fun A env Q E s h=>t9 (hbase env) (few (h'.pl env) me.k) me.l h
theorem rh (h:zL c V J=true):bX V 0=some .self/\∃ts,J.self=some (c,ts):=by
 unfold zL at h
 cases e:bX V 0 with
 |none=>rw [e] at h;cases h
 |some t=>
  rw [e] at h
  cases t with
  |self=>
   refine ⟨rfl,?_⟩
   cases e':J.self with
   |none=>simp only [e'] at h;cases h
   |some p=>simp only [e'] at h;exact ⟨p.2,by rw [<-eq_of_beq_eq_true h]⟩
  |_=>cases h
theorem aq.rmeth {y:Str}{kd:NameKind}{np apos pos:Pos}{es:List Expr}{ps:PL}{F:gE}(O:bH P c ms)(hm:(name,f)∈ms)(hf:P.Ψ f=some F)(me:Hr c f name apos pos es.length=true)(ht:B.tab[0]?=some (some (y,kd)))(h':iq P B C es ps):
  aq P B C (.Call (.Attribute (.Name y np) name apos) es [] pos) (ux c f ps) (RV P):=fun n A env g V J s k Q E X hb hq=>by
 have me:=zi me
 unfold ux at hb hq
 have hs:=fX hb
 rw [hs] at hb hq
 obtain ⟨e0,ts,e1⟩:=rh hs
 obtain ⟨v,va,q⟩:=X.env.var 0 _ _ ht e0
 cases q.self
 obtain ⟨dx,m,us,ih,_,_,_,kf,_⟩:=X.g.self c ts e1
 exact t9 rfl (few (h'.pl env) me.k) me.l (bc X ht va (pX O hm hf me h' X ih kf (.inr ⟨rfl,rfl⟩) hb hq))
end
section
variable {P:Pg} {B:bG} {C C':Ct} {fr:Bool} {n c i f:Nat} {A:Around} {env:Env} {g g' g2:Gh} {V:aP} {J J' J2:Sg} {s s' s₂:Shared} {h h':Heap} {t:T} {x:Value} {ms:List (Str×Nat)} {name:Str} {m:Str->Option Value} {dx a:Addr} {us:List Value} {E:Value->Shared->Prop} {ts:List T}
theorem cJ (k:∀a o,h.get? a=some o->h'.get? a=some o)(a:Addr)(e:h'.get? a=none):h.get? a=none:=by
 cases q:h.get? a with
 |none=>rfl
 |some o=>exact (ar (k a o q) e).elim
theorem aZ.of:∀{us:List Value} {ts:List T},us.length=ts.length->(∀(i:Nat) (v:Value) (t:T),us[i]?=some v->ts[i]?=some t->Rp P g h t v)->aZ P g h ts us
 | [],[],_,_=>rfl
 |v::us,t::ts,l,k=>⟨v,us,rfl,k 0 v t rfl rfl,aZ.of (Nat.succ.inj l) fun i=>k (i+1)⟩
theorem bC.make {x:Addr}(w:bC P g h J)(m:Heap.MadeObj h h' x dx (P.cls c)):bC P {g with Z:=fun y=>g.Z y\/y=x\/y=dx,sa:=x} h' ⟨J.spot,some (c,[])⟩:=by
 obtain ⟨o,hx,hc,hnc,hd⟩:=m.inst
 have hdd:=m.dict o hx
 obtain ⟨ns,ne⟩:h'.Ns1 dx (fun _=>none)/\dx≠x:=by
  rcases hd with ⟨q,_⟩ | ⟨d',q,hne,hns⟩
  .rw [q] at hdd;cases hdd
  .rw [q] at hdd;cases hdd;exact ⟨hns,hne⟩
 have lv:∀a,h.get? a≠none->h'.get? a≠none:=fun a l e=>l (cJ m.keeps a e)
 have nn:∀a,h.get? a≠none->a≠x/\a≠dx:=fun a l=>⟨fun q=>l (q▸m.newX),fun q=>l (q▸m.newD)⟩
 have ld:h'.get? dx≠none:=let ⟨_,_,_,e,_⟩:=ns;ar e
 have sp:=nn _ (w.Z _ w.spot.2.1).1
 exact ⟨fun a o e=>⟨(w.base a o e).1,m.keeps a o (w.base a o e).2⟩,fun a f=>lv a (w.F a f),
  fun a z=>z.elim (fun z=>⟨lv a (w.Z a z).1,(w.Z a z).2⟩) fun z=>z.elim (fun e=>by rw [e];exact ⟨ar hx,fun f=>w.F _ f m.newX⟩) fun e=>by rw [e];exact ⟨ld,fun f=>w.F _ f m.newD⟩,
  fun a q=>⟨lv a (w.O a q).1,(w.O a q).2.1,fun z=>z.elim (w.O a q).2.2 fun z=>z.elim (nn a (w.O a q).1).1 (nn a (w.O a q).1).2⟩,
  w.oo,⟨let ⟨t,n,e⟩:=w.spot.1;⟨t,n,m.keeps _ _ e⟩,.inl w.spot.2.1,fun q=>nomatch q⟩,
  fun c' ts e=>by cases e;exact ⟨dx,_,[],⟨o,hx,⟨hc,hdd,hnc⟩,ns,ne⟩,.inr (.inl rfl),.inr (.inr rfl),⟨fun q=>sp.2 q.symm,fun q=>sp.1 q.symm⟩,⟨fun _ _=>rfl,fun _ _ _ q=>nomatch q⟩,rfl,(fun _ _ _ q=>nomatch q),(fun _ _ _ q=>nomatch q),fun _ _ _ q=>nomatch q⟩⟩
theorem Bx {x:Addr}(w:bC P g s.heap J)(hσ:J.self=none)(m:Heap.MadeObj s.heap h' x dx (P.cls c))(p2:aJ {g with Z:=fun y=>g.Z y\/y=x\/y=dx,sa:=x} {s with heap:=h'} g2 s₂)(w2:bC P g2 s₂.heap J2)(hs:J2.self=some (c,ts)):
  ∃g',aJ g s g' s₂/\bC P g' s₂.heap ⟨J2.spot,none⟩/\Rp P g' s₂.heap (.obj c ts) (.ref x):=by
 have mb:=cJ m.keeps
 have b:∀a,s₂.heap.get? a=none->s.heap.get? a=none:=fun a e=>mb a (p2.back a e)
 have fn:∀a,g2.F a->g.F a\/s.heap.get? a=none:=fun a f=>(p2.Fn a f).imp_right (mb a)
 have zn:∀a,g2.Z a->a=g.sp\/s.heap.get? a=none:=fun a z=>(p2.Zn a z).elim (fun z=>z.elim (fun z=>.inl (w.spot.2.2 hσ a z)) fun z=>.inr (z.elim (fun e=>e▸m.newX) fun e=>e▸m.newD)) fun e=>.inr (mb a e)
 have hsp:g2.sp=g.sp:=p2.sp
 refine ⟨⟨fun y=>g2.F y\/(g2.Z y/\s.heap.get? y=none),g.Z,g.o,g.sp,g.sa⟩,⟨St.trans ⟨h',s.toks,rfl⟩ p2.st,fun a o e z=>p2.keep a o (m.keeps a o e) fun q=>q.elim z fun q=>q.elim (fun q=>ar e (q▸m.newX)) fun q=>ar e (q▸m.newD),b,fun a f=>.inl (p2.F a f),fun a f=>f.elim (fn a) fun q=>.inr q.2,fun a z=>.inl z,rfl,rfl,rfl⟩,
  ⟨fun a o e=>⟨.inl (w2.base a o e).1,(w2.base a o e).2⟩,fun a f=>f.elim (w2.F a) fun q=>(w2.Z a q.1).1,fun a z=>⟨fun e=>(w.Z a z).1 (b a e),fun f=>f.elim (fun f=>(fn a f).elim (w.Z a z).2 (w.Z a z).1) fun q=>(w.Z a z).1 q.2⟩,
   fun a q=>⟨fun e=>(w.O a q).1 (b a e),fun f=>f.elim (fun f=>(fn a f).elim (w.O a q).2.1 (w.O a q).1) fun z=>(w.O a q).1 z.2,(w.O a q).2.2⟩,w.oo,⟨let ⟨t,n,e⟩:=w2.spot.1;⟨t,n,hsp▸e⟩,w.spot.2.1,fun _=>w.spot.2.2 hσ⟩,fun _ _ q=>nomatch q⟩,?_⟩
 obtain ⟨dx',m',us,ih,z,z',ne,k,l,sh,ow,_⟩:=w2.self c ts hs
 have sa:g2.sa=x:=p2.sa
 have nw:∀a,g2.Z a->a≠g2.sp->s.heap.get? a=none:=fun a z q=>(zn a z).resolve_left (hsp▸q)
 refine ⟨x,rfl,.inr (sa▸⟨z,nw _ z ne.2⟩),dx',m',us,.inr ⟨z',nw _ z' ne.1⟩,sa▸ih,k,aZ.of l fun i v t h1 h2=>?_⟩
 have kf:aQ g2 s₂.heap ⟨fun y=>g2.F y\/(g2.Z y/\s.heap.get? y=none),g.Z,g.o,g.sp,g.sa⟩ s₂.heap:=⟨fun a f=>⟨.inl f,fun _ e=>e⟩,hsp.symm⟩
 cases ho:hJ c i with
 |false=>exact (sh i v t h1 h2 ho).mono kf
 |true=>
  obtain ⟨a,rfl,za,na,ra⟩:=ow i v t h1 h2 ho
  exact (ra.mono kf fun _ e=>e).rp (.inr ⟨za,nw a za na.2.2⟩)
theorem By {o:cj}{k:PK T}(hb:w0 c o k≠.bad):∃J ts,o=.ret .none J/\J.self=some (c,ts)/\w0 c o k=k (.obj c ts) ⟨J.spot,none⟩:=by
 cases o with
 |ret t J=>
  unfold w0 at hb ⊢
  have h1:=lN hb
  obtain rfl:t=.none:=by cases t<;>first |rfl |cases h1
  cases e:J.self with
  |none=>simp only [e] at hb;exact absurd rfl hb
  |some p=>
   simp only [e,h1,cond_true] at hb ⊢
   have h2:=lN hb
   obtain rfl:=eq_of_beq_eq_true h2
   exact ⟨J,p.2,rfl,e,by rw [h2];rfl⟩
 |_=>exact absurd (by with_unfolding_all rfl) hb
theorem aq.new {y:Str}{e:Expr}{es:List Expr}{ps:PL}{p pos:Pos}(O:bH P c ms)(hi:(ofString "__init__",f)∈ms)(hf:(rR f&&!iN f)=true)(hg:P.mg y=some (.ref (P.cls c)))(hx:B.sc.names.lookup y=some .globalImplicit)(hd:(y==("__debug__":Str))=false)
  (hs:∀env,starEach (e::es) env=(false,eval e env)::starEach es env)(h:iq P B C (e::es) ps):aq P B C (.Call (.Name y p) (e::es) [] pos) (yU c f ps) (RV P):=fun n A env g V J s k Q E X hb hq=>by
 obtain ⟨N,mN,K,_,_,_,_,g5⟩:=O
 obtain ⟨i1,_,oI,i2,i3⟩:=g5 _ hi
 refine Call_Name rfl (X.glob hx hd hg (callWith_cls (e:=e) (rest:=es) K (h.sim pos n A env g V J s _ _ E X hb fun xs s₁ g1 ts J1 ea p1 w1 r1=>⟨w1.bs,?_⟩) (hs env) ?_))
 .have hb1:=fun q=>hb (ea.trans q)
  cases hσ:J1.self with
  |some q=>simp only [hσ] at hb1;exact (hb1 trivial).elim
  |none=>
   simp only [hσ] at hb1 ea
   obtain ⟨J2,ts',ec,h2,h3⟩:=By hb1
   obtain ⟨nm,q,bs,sn,sub,col,dd,k0,k1,k2,k3,k5,hC⟩:=(K.keeps w1.bs).obj
   refine wpAny_call_obj_init (h:=s₁.heap) PySem.F.objNew hC (K.keeps w1.bs).ns i1 (w1.bs _ _ i2) i3 fun h' x dx m=>?_
   obtain ⟨f1,f2⟩:=aj hf
   have f2:=(not_eq_true' _).mp f2
   refine wpAny_call (codeAny_mono (X.call n (le_refl n) f (A.under (.builtin "type.__call__" ⟨.ref (P.cls c)::xs,[]⟩)) (.self::ts) (.ref x::xs) _ _ {s₁ with heap:=h'} .none J2 (fun r s'=>r=.none/\Q (.ref x) s') E ?_ (w1.make m) ?_ ec fun u s' g' p' w' r'=>?_) fun r s' q=>?_)
   .exact ⟨by have:=X.room.1;show A.depth+1+2 * n+9 < _;lia -abstractProof,by have:=X.room.2.1;show A.units+1+20 * n+190 < _;lia -abstractProof,X.room.2.2⟩
   .rw [f1];exact ⟨_,_,_,_,rfl,rfl,.inr ⟨rfl,rfl⟩,aZ.mono (g:=g1) (g':={g1 with Z:=fun y=>g1.Z y\/y=x\/y=dx,sa:=x}) (h:=s₁.heap) (h':=h') ⟨fun a f=>⟨f,m.keeps a⟩,rfl⟩ r1⟩
   .have r':=r'.1;rw [f2] at r'
    obtain ⟨g2,p2,w2,r2⟩:=Bx w1 hσ m p' w' h2
    exact ⟨r',hq _ _ g2 _ _ (ea.trans h3) (p1.trans p2) w2 r2⟩
   .match r,q with
    |.ok (.ret u),q=>exact q
    |.ok .next,q=>exact q.elim
    |.ok .brk,q=>exact q.elim
    |.ok .cont,q=>exact q.elim
    |.error u,q=>exact q
 .refine List.any_eq_false.mpr fun q hq'=>?_
  rw [cf (fun q hq=>h.pl env q (by rw [hs];exact mem_cons_of_mem _ hq)) q hq'];decide
inductive dZ (P:Pg) (g:Gh) (h:Heap) (c:Nat) (name:Str) (t:T) (a:Addr):Prop
 |mk (dx:Addr) (m:Str->Option Value) (ih:eh P h c m dx g.sa) (e:m name=some (.ref a)) (z:g.Z a) (ne:a≠g.sp) (z1:g.Z g.sa/\g.sa≠g.sp) (z2:g.Z dx/\dx≠g.sp) (r:fR P g h a t)
theorem dZ.keep (o:dZ P g h c name t a)(kf:aQ g h g' h')(hs:g'.sa=g.sa)(z:∀a,a≠g.sp->g.Z a->g'.Z a/\∀o,h.get? a=some o->h'.get? a=some o):dZ P g' h' c name t a:=by
 obtain ⟨dx,m,ih,e,za,ne,⟨z1,n1⟩,⟨z2,n2⟩,r⟩:=o
 have a1:=z _ n1 z1
 have a2:=z _ n2 z2
 have a3:=z _ ne za
 have sp:=kf.sp
 exact ⟨dx,m,hs▸ih.mono a1.2 a2.2,e,a3.1,sp▸ne,hs▸sp▸⟨a1.1,n1⟩,sp▸⟨a2.1,n2⟩,r.mono kf a3.2⟩
theorem dZ.o (o:dZ P g h c name t a):fR P g h a t:=let ⟨_,_,_,_,_,_,_,_,r⟩:=o;r
theorem dZ.y (o:dZ P g h c name t a):fP P g h t (.ref a):=.inr ⟨a,rfl,o.o⟩
theorem ny (hs:eY c i V J=some t):bX V 0=some .self/\hJ c i=true/\∃ts,J.self=some (c,ts)/\ts[i]?=some t:=by
 obtain ⟨b,e⟩:=rI hs
 obtain ⟨b1,b2⟩:=aj b
 obtain ⟨e0,ts,e1⟩:=rh b1
 rw [e1] at e
 exact ⟨e0,b2,ts,e1,e⟩
theorem nr (e:J'.self=J.self)(hs:eY c i V J=some t):eY c i V J'=some t:=by
 cases J;cases J';cases e;exact hs
theorem yH (w:bC P g h J)(hn:(cD c)[i]?=some name)(hs:eY c i V J=some t):∃a,dZ P g h c name t a:=by
 obtain ⟨e0,ho,ts,e1,e2⟩:=ny hs
 obtain ⟨dx,m,us,ih,z,z',ne,k,l,_,ow,_⟩:=w.self c ts e1
 have hi:i < us.length:=by rw [l];exact (ak e2).1
 obtain ⟨a,e,za,na,r⟩:=ow i _ t (getElem?_eq_getElem hi) e2 ho
 exact ⟨a,dx,m,ih,(k.at_ i name _ (getElem?_eq_getElem hi) hn).trans (by rw [e]),za,na.2.2,⟨z,ne.2⟩,⟨z',ne.1⟩,r⟩
theorem eh.uniq {m':Str->Option Value}{dx':Addr}(i:eh P h c m dx a)(i':eh P h c m' dx' a)(y:Str):m y=m' y:=by
 obtain ⟨o,e,k,n,_⟩:=i
 obtain ⟨o',e',k',n',_⟩:=i'
 rw [e] at e';cases e'
 obtain rfl:dx=dx':=Option.some.inj (k.dict.symm.trans k'.dict)
 exact vJ n.ns n'.ns
theorem v7 {y:T}(w:bC P g s.heap J)(hs:eY c i V J=some t)(hn:(cD c)[i]?=some name)(o:dZ P g s.heap c name t a)(hh:∀b,b≠a->h'.get? b=s.heap.get? b)(hy:aQ g s.heap g h'->fR P g h' a y)(tk:Nat):aJ g s g {s with heap:=h',toks:=tk}/\bC P g h' (J.fld i y):=by
 obtain ⟨e0,ho,ts,e1,e2⟩:=ny hs
 obtain ⟨dx,m,us,ih,z,z',ne,k,l,sh,ow,nn⟩:=w.self c ts e1
 obtain ⟨dx1,m1,ih1,e,za,na,_,_,_⟩:=o
 have hi:i < us.length:=by rw [l];exact (ak e2).1
 have hu:us[i]?=some (.ref a):=by
  have:=k.at_ i name _ (getElem?_eq_getElem hi) hn
  rw [ih.uniq ih1,e] at this
  rw [getElem?_eq_getElem hi];exact this.symm
 obtain ⟨a',q,_,nb,_⟩:=ow i _ t hu e2 ho
 cases q
 have kf:aQ g s.heap g h':=⟨fun b f=>⟨f,fun o e=>(hh b fun q=>(w.Z a za).2 (q▸f)).trans e⟩,rfl⟩
 have r:=hy kf
 have lv:∀b,s.heap.get? b≠none->h'.get? b≠none:=fun b l=>by
  by_cases q:b=a
  .exact q▸r.live
  .rw [hh b q];exact l
 have kp:∀b,b≠a->∀o,s.heap.get? b=some o->h'.get? b=some o:=fun b q o e=>(hh b q).trans e
 refine ⟨⟨⟨h',tk,rfl⟩,fun b o e z=>kp b (fun q=>z (q▸za)) o e,fun b e=>?_,fun _ f=>f,fun _ f=>.inl f,fun _ f=>.inl f,rfl,rfl,rfl⟩,fun b o e=>⟨(w.base b o e).1,(kf.F b (w.base b o e).1).2 o (w.base b o e).2⟩,fun b f=>lv b (w.F b f),fun b z=>⟨lv b (w.Z b z).1,(w.Z b z).2⟩,fun b z=>⟨lv b (w.O b z).1,(w.O b z).2⟩,w.oo,
  ⟨let ⟨t,m,e⟩:=w.spot.1;⟨t,m,kp _ (Ne.symm na) _ e⟩,w.spot.2.1,fun q=>?_⟩,fun c' ts' e'=>?_⟩
 .by_cases q:s.heap.get? b=none
  .exact q
  .exact (lv b q e).elim
 .rw [Sg.fld,e1] at q;cases q
 .rw [Sg.fld,e1] at e'
  cases e'
  have set_:∀{j:Nat} {u:T},(ts.set i y)[j]?=some u->(j=i/\u=y)\/(j≠i/\ts[j]?=some u):=fun {j u} q=>by
   by_cases ji:j=i
   .subst ji
    rw [List.getElem?_set_self (ak e2).1] at q
    exact .inl ⟨rfl,(Option.some.inj q).symm⟩
   .rw [List.getElem?_set_ne (Ne.symm ji)] at q;exact .inr ⟨ji,q⟩
  refine ⟨dx,m,us,ih.mono (kp _ (Ne.symm nb.2.1)) (kp _ (Ne.symm nb.1)),z,z',ne,k,by rw [length_set];exact l,fun j u t' h1 h2 h3=>?_,fun j u t' h1 h2 h3=>?_,nn⟩
  .rcases set_ h2 with ⟨rfl,_⟩ | ⟨_,h2⟩
   .rw [ho] at h3;cases h3
   .exact (sh j u t' h1 h2 h3).mono kf
  .rcases set_ h2 with ⟨rfl,rfl⟩ | ⟨ji,h2⟩
   .rw [hu] at h1;cases h1
    exact ⟨a,rfl,za,nb,r⟩
   .obtain ⟨b,rfl,zb,nb',rb⟩:=ow j u t' h1 h2 h3
    exact ⟨b,rfl,zb,nb',rb.mono kf (kp b fun q=>ji (nn j i a (q▸h1) hu h3 ho))⟩
end
section
variable {P:Pg} {B Bc:bG} {C C' Ci:Ct} {fr:Bool} {n c i j:Nat} {A:Around} {env:Env} {g g' g2:Gh} {V:aP} {J J' J2:Sg} {s s' s₂:Shared} {h h':Heap} {t:T} {x:Value} {ms:List (Str×Nat)} {name y:Str} {kd:NameKind} {m:Str->Option Value} {dx a:Addr} {us:List Value} {E:Value->Shared->Prop} {ts:List T} {np apos pos:Pos}
noncomputable def Gh.bor (g:Gh):Gh:={g with Z:=fun a=>a=g.sp}
theorem DA (g:Gh)(h:Heap):aQ g h g.bor h:=⟨fun _ f=>⟨f,fun _ e=>e⟩,rfl⟩
theorem At.bor (X:At P B C n A env g V J s):At P B C n A env g.bor V ⟨J.spot,none⟩ s:=
 have hz:∀a,g.bor.Z a->g.Z a:=fun a q=>by rw [show a=g.sp from q];exact X.g.spot.2.1
 ⟨X.good,X.call,X.room,X.env.move (DA g _) rfl rfl (fun _ _ _ e=>e) fun a ha=>⟨(X.env.own a ha).1,(X.env.own a ha).2.1,fun q=>(X.env.own a ha).2.2.1 (hz a q)⟩,
  X.g.base,X.g.F,fun a z=>X.g.Z a (hz a z),fun a q=>⟨(X.g.O a q).1,(X.g.O a q).2.1,fun z=>(X.g.O a q).2.2 (hz a z)⟩,X.g.oo,⟨X.g.spot.1,rfl,fun _ _ q=>q⟩,fun _ _ q=>nomatch q⟩
theorem tO (w:bC P g s.heap J)(p:aJ g.bor s g' s')(w':bC P g' s'.heap J'):aJ g s {g' with Z:=g.Z} s'/\bC P {g' with Z:=g.Z} s'.heap ⟨J'.spot,J.self⟩:=by
 have sp:g'.sp=g.sp:=p.sp
 have so:g'.o=g.o:=p.o
 have q:aJ g s {g' with Z:=g.Z} s':=⟨p.st,fun a o e z=>p.keep a o e fun q=>z (by rw [show a=g.sp from q];exact w.spot.2.1),p.back,p.F,p.Fn,fun _ z=>.inl z,p.o,p.sp,p.sa⟩
 have lv:∀a,s.heap.get? a≠none->s'.heap.get? a≠none:=fun a l e=>l (p.back a e)
 have nf:∀a,s.heap.get? a≠none->¬g.F a->¬g'.F a:=fun a l f q=>(p.Fn a q).elim f l
 have oo:∀a,({g' with Z:=g.Z}:Gh).O a->g.O a:=fun a ⟨i,q⟩=>⟨i,so▸q⟩
 exact ⟨q,w'.base,w'.F,fun a z=>⟨lv a (w.Z a z).1,nf a (w.Z a z).1 (w.Z a z).2⟩,fun a o=>have o:=w.O a (oo a o);⟨lv a o.1,nf a o.1 o.2.1,o.2.2⟩,fun i j a h1 h2=>w.oo i j a (so▸h1) (so▸h2),⟨w'.spot.1,by rw [show ({g' with Z:=g.Z}:Gh).sp=g.sp from sp];exact w.spot.2.1,fun e a z=>(w.spot.2.2 e a z).trans sp.symm⟩,
  fun c ts e=>(w.self c ts e).mono' (q.k w) (fun a n z=>⟨z,fun o e=>p.keep a o e n⟩) p.sa⟩
theorem ET {e:Expr}{pq:PE}{K:PK T}{Q:Value->Shared->Prop}(h:aq P B C e pq (RV P))(X:At P B C n A env g V J s)(of:dZ P g s.heap c name t a)(hb:pq (P.cx n) V ⟨J.spot,none⟩ (fun v J'=>K v ⟨J'.spot,J.self⟩)≠.bad)
  (hq:∀x s' g' v J',pq (P.cx n) V ⟨J.spot,none⟩ (fun v J'=>K v ⟨J'.spot,J.self⟩)=K v J'->aJ g s g' s'->bC P g' s'.heap J'->J'.self=J.self->dZ P g' s'.heap c name t a->Rp P g' s'.heap v x->Q x s'):wpAny P.M A (eval e env) Q E s:=
 h n A env g.bor V ⟨J.spot,none⟩ s _ Q E X.bor hb fun x s' g' v J' e p w r=>
  have ⟨p',w'⟩:=tO X.g p w
  hq x s' {g' with Z:=g.Z} v ⟨J'.spot,J.self⟩ e p' w' rfl (of.keep (p'.k X.g) p'.sa fun a n z=>⟨z,fun o e=>p.keep a o e n⟩) (Rp.mono (g:=g') (h:=s'.heap) (g':={g' with Z:=g.Z}) ⟨fun _ f=>⟨f,fun _ e=>e⟩,rfl⟩ r)
theorem oe {Q:Value->Shared->Prop}(O:bH P c ms)(hn:(cD c)[i]?=some name)(ht:B.tab[0]?=some (some (y,kd)))(X:At P B C n A env g V J s)(hs:eY c i V J=some t)(hq:∀a,dZ P g s.heap c name t a->Q (.ref a) {s with toks:=s.toks+1}):wpAny P.M A (eval (.Attribute (.Name y np) name pos) env) Q E s:=by
 obtain ⟨v,va,q⟩:=X.env.var 0 _ _ ht (ny hs).1
 cases q.self
 obtain ⟨a,o⟩:=yH X.g hn hs
 obtain ⟨dx,m,ih,e,_⟩:=id o
 exact u9 rfl (fun _ _=>rfl) (bc X ht va (lO O (mem_of_getElem? hn) X.g.bs ih e rfl (hq a o)))
theorem aq.fld (O:bH P c ms)(hn:(cD c)[i]?=some name)(ht:B.tab[0]?=some (some (y,kd))):aq P B C (.Attribute (.Name y np) name pos) (qM c i) (RY P):=fun n A env g V J s k Q E X hb hq=>by
 obtain ⟨t,e⟩:=ch hb
 exact oe O hn ht X e fun a o=>hq _ _ g t J (by rw [qM,e];rfl) (.toks g s _) X.g o.y
theorem aq.f2 {ie:Expr}{pq:PE}{F:T->T->Option T}(O:bH P c ms)(hn:(cD c)[i]?=some name)(ht:B.tab[0]?=some (some (y,kd)))(o:t3 P (AG P (.Attribute (.Name y np) name apos) ie) F (RV P))(h:aq P B C ie pq (RV P)):aq P B C (.Subscript (.Attribute (.Name y np) name apos) ie pos) (Ef c i F pq) (RV P):=fun n A env g V J s k Q E X hb hq=>by
 unfold Ef at hb hq
 cases e0:eY c i V J with
 |none=>rw [e0] at hb;exact absurd rfl hb
 |some t=>
  rw [e0] at hb hq
  refine Subscript_ (oe O hn ht X e0 fun a of=>ET (K:=fun v J=>up (F t v) J k) h (X.post (.toks g s _) X.g) of hb fun x s' g' v J' e p w hσ of' r=>?_)
  obtain ⟨u,e'⟩:=ch fun q=>hb (e.trans q)
  exact o A env g' J' s' _ x t v u Q E X.rm w of'.y (.inl r) e' fun z s'' g'' p' w' r'=>hq z s'' g'' u J' (e.trans (by rw [e'];rfl)) ((aJ.toks g s _).trans (p.trans p')) w' r'
theorem aR.fap {e:Expr}{ap' cpos:Pos}{pe:PE}(O:bH P c ms)(hn:(cD c)[i]?=some name)(ht:B.tab[0]?=some (some (y,kd)))(hbase:∀env,attributeBase (.Attribute (.Name y np) name ap') (ofString "append") env (eval (.Attribute (.Name y np) name ap') env)=eval (.Attribute (.Name y np) name ap') env)(hline:(apos.endLine==cpos.line)=true)
  (htrees:∀env,backTo cpos (starEach [e] env)=[(false,eval e env)])(hw:∀env,swapsWith (.Call (.Attribute (.Attribute (.Name y np) name ap') (ofString "append") apos) [e] [] cpos) none pos.line env=pure false)(h:aq P B C e pe (RV P)):
  aR P B C fr C (.Expr (.Call (.Attribute (.Attribute (.Name y np) name ap') (ofString "append") apos) [e] [] cpos) pos) (sO c i pe):=fun n A env g V J s k Q E X hb hq hr=>by
 show wpAny P.M A (exec _ env) Q E s
 rw [exec_Expr env _ pos (by simp [interactive,X.fn]) (hw env)]
 unfold sO at hb hq
 cases e0:eY c i V J with
 |none=>rw [e0] at hb;exact absurd rfl hb
 |some t=>
  rw [e0] at hb hq
  have hk:=fX hb
  simp only [hk,cond_true] at hb hq
  refine wpAny_bind (wpAny_standAt (wpAny_bind (lz j7 hbase hline htrees (oe O hn ht X e0 fun a of=>⟨sX of.y hk,ET (K:=fun v J=>up (dL t v) J fun y J=>k V (J.fld i y)) h (X.post (.toks g s _) X.g) of hb fun x s' g' v J' e p w hσ of' r=>?_⟩))))
  obtain ⟨u,e'⟩:=ch fun q=>hb (e.trans q)
  refine iD A g' J' s' a x t v u _ _ X.rm w of'.o r e' fun h' tk hs hy=>wpAny_dropValue ?_
  obtain ⟨pS,wS⟩:=v7 w (nr hσ e0) hn of' hs hy tk
  have pA:=(aJ.toks g s _).trans (p.trans pS)
  exact hq _ _ V _ (e.trans (by rw [e'];rfl)) pA.toS (X.post pA wS)
theorem aR.fput {ie e:Expr}{ps:Pos}{pq pe:PE}(O:bH P c ms)(hn:(cD c)[i]?=some name)(ht:B.tab[0]?=some (some (y,kd)))(hw:∀env,swapsWith e (some (.Subscript (.Attribute (.Name y np) name apos) ie ps)) pos.line env=pure false)(h2:aq P B C ie pq (RV P))(h3:aq P B C e pe (RV P)):
  aR P B C fr C (.Assign [.Subscript (.Attribute (.Name y np) name apos) ie ps] e pos) (sN c i pq pe):=fun n A env g V J s k Q E X hb hq hr=>by
 refine wpAny_Assign_Subscript (h3 n A env g V J s _ _ E X hb fun z s₁ g1 v J1 e1 p1 w1 r1=>?_) (hw env)
 have X1:=X.post p1 w1
 have hb1:=fun q=>hb (e1.trans q)
 have e1:sN c i pq pe (P.cx n) V J k=_:=e1
 cases e0:eY c i V J1 with
 |none=>simp only [e0] at hb1;exact (hb1 trivial).elim
 |some t=>
  simp only [e0] at hb1 e1
  refine oe O hn ht X1 e0 fun a of=>ET (K:=fun H J=>up (d5 t H v) J fun y J=>k V (J.fld i y)) h2 (X1.post (.toks g1 s₁ _) w1) of hb1 fun x s' g' H J' e p w hσ of' r=>?_
  obtain ⟨u,e'⟩:=ch fun q=>hb1 (e.trans q)
  have p2:=(aJ.toks g1 s₁ _).trans p
  refine vA A g' J' s' a x z t H v u _ _ X.rm w of'.o (.inl r) (Rp.mono (p2.k w1) r1) e' fun h' tk hs hy=>?_
  obtain ⟨pS,wS⟩:=v7 w (nr hσ e0) hn of' hs hy tk
  have pA:=p1.trans (p2.trans pS)
  exact hq _ _ V _ (e1.trans (e.trans (by rw [e'];rfl))) pA.toS (X.post pA wS)
end
section
variable {P:Pg} {B Bc:bG} {C C' Ci:Ct} {fr:Bool} {n c i j:Nat} {A:Around} {env:Env} {g g' gb:Gh} {V:aP} {J J' J2:Sg} {s s' s₂:Shared} {h h':Heap} {t:T} {x:Value} {ms:List (Str×Nat)} {name y:Str} {kd:NameKind} {m:Str->Option Value} {dx a:Addr} {us:List Value} {E:Value->Shared->Prop} {ts:List T} {np apos pos:Pos}
theorem u8 {Q:Unit->Shared->Prop}(O:bH P c ms)(hn:name∈cD c)(w:bC P g s.heap J)(z:g.Z a)(ih:eh P s.heap c m dx a)(k:t6 c m us)(hq:∀h' tk,eh P h' c (fun y=>if y=name then some x else m y) dx a->(∀b o,b≠dx->s.heap.get? b=some o->h'.get? b=some o)->Q () {s with heap:=h',toks:=tk}):wpAny P.M A (setAttr (.ref a) name x) Q E s:=by
 obtain ⟨N,mN,K,g1,g2,g3,g4,g5⟩:=O
 obtain ⟨nm,q,bs',sn,sub,col,dd,k0,k1,k2,k3,k5,hC⟩:=K.obj
 have hxC:a≠P.cls c:=fun q=>(w.Z a z).2 (q▸(w.base _ _ hC).1)
 obtain ⟨o,e,ko,nn,ne⟩:=id ih
 refine store_attr (h:=s.heap) (ns:=cD c) PySem.F.store_object (w.bs _ _ hC) (K.keeps w.bs).ns g3 (g4 name hn).1 (g4 name hn).2 hxC ih.inst (fun h3 tk' I' hk hsame=>?_) (fun y hy=>?_) ?_
 .obtain ⟨oa,z1,z2,z3,z4,z5⟩:=hsame o e
  have hd:=z5 dx ko.dict
  have:oa=o:=by
   have kd:=ko.dict
   obtain ⟨c1,c2,c3,c4⟩:=oa
   obtain ⟨d1,d2,d3,d4⟩:=o
   simp only at z2 z3 z4 hd kd
   rw [z2,z3,z4,hd,kd]
  subst this
  obtain ⟨o',y1,_,_,y4⟩:=I'
  rw [z1] at y1;cases y1
  rcases y4 with ⟨q,_⟩ | ⟨dz,q,_,n'⟩
  .rw [hd] at q;cases q
  .rw [hd] at q;cases q
   refine hq h3 tk' ⟨oa,z1,ko,n',ne⟩ fun b o' nb e'=>?_
   by_cases hba:b=a
   .subst hba;rw [e] at e';cases e';exact z1
   .exact hk b o' hba (fun o0 d0 eb ed=>by rw [e] at eb;cases eb;rw [hd] at ed;cases ed;exact nb) e'
 .by_cases q:y∈cD c
  .exact q
  .exact (hy (k.no y q)).elim
 .unfold cD;split<;>decide
theorem CM (c:Nat):(cD c).Nodup:=by unfold cD;split<;>decide
theorem sg {α Y:Type}{us:List α}{ts:List Y}{x u:α}{t v:Y}{j:Nat}(l:us.length=ts.length)(h1:(us++[x])[j]?=some u)(h2:(ts++[t])[j]?=some v):(us[j]?=some u/\ts[j]?=some v)\/(j=ts.length/\u=x/\v=t):=by
 by_cases q:j < us.length
 .rw [getElem?_append_left q] at h1
  rw [getElem?_append_left (l▸q)] at h2
  exact .inl ⟨h1,h2⟩
 .have q:=cw q
  rw [getElem?_append_right q] at h1
  rw [getElem?_append_right (l▸q)] at h2
  have e:j - us.length=0:=by
   have:=(ak h1).1
   rw [length_singleton] at this;exact lt_one_iff.mp this
  rw [e] at h1;rw [<-l,e] at h2
  cases h1;cases h2
  exact .inr ⟨(le_antisymm (Nat.sub_eq_zero_iff_le.mp e) q).trans l,rfl,rfl⟩
theorem ui {Z':Addr->Prop}{Q:Unit->Shared->Prop}(O:bH P c ms)(hn:(cD c)[i]?=some name)(w:bC P g s.heap J)(es:J.self=some (c,ts))(hl:ts.length=i)(hZ:∀a,g.Z a->Z' a)(hZ':∀a,Z' a->g.Z a\/(s.heap.get? a≠none/\¬g.F a/\¬g.Z a/\¬g.O a))
  (h0:hJ c i=false->Rp P g s.heap t x)(h1:hJ c i=true->∃a,x=.ref a/\Z' a/\¬g.Z a/\fR P g s.heap a t)
  (hq:∀h' tk,(∀b o,¬g.Z b->s.heap.get? b=some o->h'.get? b=some o)->(∀b,h'.get? b=none->s.heap.get? b=none)->bC P {g with Z:=Z'} h' (J.push t)->Q () {s with heap:=h',toks:=tk}):wpAny P.M A (setAttr (.ref g.sa) name x) Q E s:=by
 obtain ⟨dx,m,us,ih,z,z',ne,k,l,sh,ow,nn⟩:=w.self c ts es
 refine u8 O (mem_of_getElem? hn) w z ih k fun h' tk ih' kp=>?_
 have ld:h'.get? dx≠none:=let ⟨_,_,_,n,_⟩:=ih';let ⟨_,_,_,e,_⟩:=n;ar e
 have bk:∀b,h'.get? b=none->s.heap.get? b=none:=fun b e=>by
  cases q:s.heap.get? b with
  |none=>rfl
  |some o=>
   by_cases hb:b=dx
   .exact (ld (hb▸e)).elim
   .exact (ar (kp b o hb q) e).elim
 have lv:∀b,s.heap.get? b≠none->h'.get? b≠none:=fun b l e=>l (bk b e)
 have kz:∀b,¬g.Z b->∀o,s.heap.get? b=some o->h'.get? b=some o:=fun b q o e=>kp b o (fun e=>q (e▸z')) e
 have kf:aQ g s.heap {g with Z:=Z'} h':=⟨fun b f=>⟨f,kz b fun q=>(w.Z b q).2 f⟩,rfl⟩
 refine hq h' tk (fun b o q e=>kz b q o e) bk ⟨fun b o e=>⟨(w.base b o e).1,(kf.F b (w.base b o e).1).2 o (w.base b o e).2⟩,fun b f=>lv b (w.F b f),fun b q=>(hZ' b q).elim (fun q=>⟨lv b (w.Z b q).1,(w.Z b q).2⟩) fun q=>⟨lv b q.1,q.2.1⟩,fun b q=>⟨lv b (w.O b q).1,(w.O b q).2.1,fun q'=>(hZ' b q').elim (w.O b q).2.2 fun e=>e.2.2.2 q⟩,w.oo,
  ⟨let ⟨t,n,e⟩:=w.spot.1;⟨t,n,kp _ _ (Ne.symm ne.1) e⟩,hZ _ w.spot.2.1,fun q=>?_⟩,fun c' ts' e'=>?_⟩
 .rw [Sg.push,es] at q;cases q
 .rw [Sg.push,es] at e'
  cases e'
  have new:∀a,x=.ref a->fR P g s.heap a t->¬g.Z a->a≠dx/\a≠g.sa/\a≠g.sp:=fun a _ _ q=>⟨fun e=>q (e▸z'),fun e=>q (e▸z),fun e=>q (e▸w.spot.2.1)⟩
  refine ⟨dx,_,us++[x],ih',hZ _ z,hZ _ z',ne,⟨fun y hy=>?_,fun j y u q1 q2=>?_⟩,by rw [List.length_append,List.length_append,l];rfl,fun j u v q1 q2 q3=>?_,fun j u v q1 q2 q3=>?_,fun i' j a q1 q2 q3 q4=>?_⟩
  .rw [if_neg fun e:y=name=>hy (e▸mem_of_getElem? hn)];exact k.no y hy
  .have q:j < us.length\/(j=us.length/\u=x):=by
    by_cases q:j < us.length
    .exact .inl q
    .rw [getElem?_append_right (cw q)] at q1
     have:=(ak q1).1
     rw [length_singleton] at this
     rw [lt_one_iff.mp this] at q1
     exact .inr ⟨le_antisymm (Nat.sub_eq_zero_iff_le.mp (lt_one_iff.mp this)) (cw q),(Option.some.inj q1).symm⟩
   rcases q with q | ⟨q,rfl⟩
   .rewrite [if_neg fun e:y=name=>?_]
    .rw [getElem?_append_left q] at q1;exact k.at_ j y u q1 q2
    .subst e
     have:=(List.getElem?_inj (ak q2).1 (CM c)).mp (q2.trans hn.symm)
     exact lt_irrefl _ (Nat.lt_of_lt_of_eq q (l.trans (hl.trans this.symm)))
   .rw [q.trans (l.trans hl),hn] at q2
    cases q2;exact if_pos rfl
  .rcases sg l q1 q2 with ⟨q1,q2⟩ | ⟨q,rfl,rfl⟩
   .exact (sh j u v q1 q2 q3).mono kf
   .rw [q,hl] at q3;exact (h0 q3).mono kf
  .rcases sg l q1 q2 with ⟨q1,q2⟩ | ⟨q,rfl,rfl⟩
   .obtain ⟨a,e,za,na,r⟩:=ow j u v q1 q2 q3
    exact ⟨a,e,hZ a za,na,r.mono kf fun o e=>kp a o na.1 e⟩
   .rw [q,hl] at q3
    obtain ⟨a,e,za,na,r⟩:=h1 q3
    have nb:=new a e r na
    exact ⟨a,e,za,nb,r.mono kf fun o e=>kp a o nb.1 e⟩
  .have get:∀{j:Nat} {u:Value},(us++[x])[j]?=some u->∃v,(ts++[t])[j]?=some v:=fun {j u} q=>by
    have:=(ak q).1
    rw [List.length_append,l] at this
    exact ⟨_,getElem?_eq_getElem (l:=ts++[t]) (by rw [List.length_append];exact this)⟩
   obtain ⟨v1,r1⟩:=get q1
   obtain ⟨v2,r2⟩:=get q2
   rcases sg l q1 r1 with ⟨p1,p2⟩ | ⟨p1,p2,p3⟩
   .rcases sg l q2 r2 with ⟨p3,p4⟩ | ⟨p3,p4,p5⟩
    .exact nn i' j a p1 p3 q3 q4
    .rw [p3,hl] at q4
     obtain ⟨b,e,_,nb,_⟩:=h1 q4
     rw [e] at p4;cases p4
     obtain ⟨b',e',zb,_,_⟩:=ow i' _ v1 p1 p2 q3
     cases e';exact (nb zb).elim
   .rcases sg l q2 r2 with ⟨p4,p5⟩ | ⟨p4,p5,p6⟩
    .rw [p1,hl] at q3
     obtain ⟨b,e,_,nb,_⟩:=h1 q3
     rw [e] at p2;cases p2
     obtain ⟨b',e',zb,_,_⟩:=ow j _ v2 p4 p5 q4
     cases e';exact (nb zb).elim
    .rw [p1,p4]
theorem Ax (h:DC c i V J=true):bX V 0=some .self/\∃ts,J.self=some (c,ts)/\ts.length=i:=by
 obtain ⟨h1,h2⟩:=aj h
 obtain ⟨e0,ts,e1⟩:=rh h1
 rw [e1] at h2
 exact ⟨e0,ts,e1,eq_of_beq_eq_true h2⟩
theorem aR.saG {e:Expr}{pe:PE}{R:RR Value T}(O:bH P c ms)(hn:(cD c)[i]?=some name)(ht:B.tab[0]?=some (some (y,kd)))(hw:∀env,swapsWith e (some (.Attribute (.Name y np) name apos)) pos.line env=pure false)(h:aq P B C e pe R)
  (hR:∀h g h' t x,R h g h' t x->(∀b,g.Z b->True)->∃N:Addr->Prop,(∀a,N a->h.get? a=none/\h'.get? a≠none/\¬g.F a/\¬g.Z a/\¬g.O a)/\(hJ c i=false->Rp P g h' t x)/\(hJ c i=true->∃a,x=.ref a/\N a/\fR P g h' a t)):
  aR P B C fr C (.Assign [.Attribute (.Name y np) name apos] e pos) (uw c i pe):=fun n A env g V J s k Q E X hb hq hr=>by
 refine plainObj_wpAny_Assign_Attribute (h n A env g V J s _ _ E X hb fun x s₁ ga t J1 ec pa w1 rb=>?_) (hw env)
 have X1:=X.post pa w1
 have ha:=fX fun q=>hb (ec.trans q)
 obtain ⟨e0,ts,e2,e3⟩:=Ax ha
 obtain ⟨v,va,q⟩:=X1.env.var 0 _ _ ht e0
 cases q.self
 obtain ⟨N,n1,n2,n3⟩:=hR _ _ _ _ _ rb fun _ _=>trivial
 refine bc X1 ht va (ui (Z':=fun b=>ga.Z b\/N b) O hn w1 e2 e3 (fun _=>.inl) (fun b z=>z.imp_right fun q=>(n1 b q).2) n2 (fun q=>let ⟨a,e,na,r⟩:=n3 q;⟨a,e,.inr na,(n1 a na).2.2.2.1,r⟩) fun h' tk kp bk w'=>?_)
 have pb:aJ g s {ga with Z:=fun b=>ga.Z b\/N b} {s₁ with heap:=h',toks:=tk}:=⟨St.trans pa.st ⟨h',tk,rfl⟩,fun b o e z=>kp b o (fun q=>(pa.Zn b q).elim z (ar e)) (pa.keep b o e z),fun b e=>pa.back b (bk b e),pa.F,pa.Fn,fun b z=>z.elim (pa.Zn b) fun q=>.inr (n1 b q).1,pa.o,pa.sp,pa.sa⟩
 exact hq _ _ V _ (ec.trans (by rw [ha])) pb.toS (X.post pb w')
theorem aR.sa {e:Expr}{pe:PE}(O:bH P c ms)(hn:(cD c)[i]?=some name)(ho:hJ c i=false)(ht:B.tab[0]?=some (some (y,kd)))(hw:∀env,swapsWith e (some (.Attribute (.Name y np) name apos)) pos.line env=pure false)(h:aq P B C e pe (RV P)):
  aR P B C fr C (.Assign [.Attribute (.Name y np) name apos] e pos) (uw c i pe):=
 .saG O hn ht hw h fun _ _ _ _ _ r _=>⟨fun _=>False,fun _ q=>q.elim,fun _=>r,fun q=>by rw [ho] at q;cases q⟩
theorem aR.saN {e:Expr}{pe:PE}(O:bH P c ms)(hn:(cD c)[i]?=some name)(ho:hJ c i=true)(ht:B.tab[0]?=some (some (y,kd)))(hw:∀env,swapsWith e (some (.Attribute (.Name y np) name apos)) pos.line env=pure false)(h:aq P B C e pe (RN P)):
  aR P B C fr C (.Assign [.Attribute (.Name y np) name apos] e pos) (uw c i pe):=
 .saG O hn ht hw h fun _ _ _ _ _ r _=>let ⟨a,e,n,f,z,o,r⟩:=r;⟨fun b=>b=a,fun b q=>by rw [q];exact ⟨n,r.live,f,z,o⟩,(fun q=>by rw [ho] at q;cases q),fun _=>⟨a,e,rfl,r⟩⟩
theorem o4.own (hh:A.handled=none){I l:Addr}{vs:Array Value}{m:Nat}:o4 P A I ts [I] [l] (fun i g h=>h.IsListIter I l i/\h.get? l=some (bA vs m)/\aZ P g h ts vs.toList) where
 self i g s Q E st:=wpAny_pyIter_listiter st.1
 stay i g h g' h' st k ki:=by
  obtain ⟨⟨o,e,r⟩,e',q⟩:=st
  exact ⟨⟨o,ki I mem_cons_self o e,r⟩,ki l (mem_cons_of_mem _ mem_cons_self) _ e',q.mono k⟩
 here i g h st a ha:=by
  obtain ⟨⟨o,e,_⟩,e',_⟩:=st
  rcases au ha with rfl |ha
  .exact ar e
  .rw [aa ha];exact ar e'
 item i t g s Q E hi st hF hq:=by
  obtain ⟨it,e',q⟩:=st
  obtain ⟨u,hu,r⟩:=q.get hi
  have nl:l≠I:=fun q=>by
   obtain ⟨o,e,r,_⟩:=it
   rw [<-q,e'] at e;cases e;exact absurd (Value.type.inj r) (by decide)
  refine wpAny_pyNext_list_item it ⟨_,e',rfl,m,rfl⟩ (by rw [<-Array.getElem?_toList];exact hu) fun h' it' hs=>?_
  have kf:=uH hs.2 (hF I (ay rfl))
  exact hq u h' s.toks (ib hs.2) (r.mono kf) ⟨it',(hs.2 l nl).trans e',q.mono kf⟩
 done g s Q E st hq:=by
  obtain ⟨it,e',q⟩:=st
  exact wpAny_pyNext_list_end hh it ⟨_,e',rfl,m,rfl⟩ (Array.getElem?_eq_none (le_of_eq q.size)) fun h' hs=>hq h' s.toks fun b o e hb=>hs b o (fun q=>hb (ay q)) e
theorem aq.compF {elt target:Expr}{scope:Scope}{xc:Option Str}{pe:PE}(O:bH P c ms)(hn:(cD c)[j]?=some name)(ht:B.tab[0]?=some (some (y,kd)))(K:dF B Bc scope i xc)(hi:C.U.any (Nat.beq i)=true)(hc:bO C i false Ci=true)(hb:kR P (xJ P Bc C Ci target (ba i) (lg xc)))(hel:aq P Bc Ci elt pe (RV P))(hs:∀env x,foldedSetIterable (.Attribute (.Name y np) name apos) env x=pure x):
  aq P B C (.ListComp elt [⟨target,.Attribute (.Name y np) name apos,[],0⟩] scope pos) (qN c j (ba i) pe) (RN P):=fun n A env g V J s k Q E X hbad hq=>by
 unfold qN at hbad hq
 cases e0:o1 (eY c j V J) f8 with
 |none=>rw [e0] at hbad;exact absurd rfl hbad
 |some xs=>
  rw [e0] at hbad hq
  obtain ⟨t,e1,e2⟩:=aB e0
  cases fq e2
  show wpAny P.M A (eval _ env) Q E s
  rw [eval_ListComp]
  refine kj (pi:=fun _ _ J k=>k xs J) (g:=g.bor) (J:=⟨J.spot,Option.none⟩) (k:=fun v J'=>k v ⟨J'.spot,J.self⟩) K (iE hi) (cE hc).1 (fun k' Q' E' Xb _ hq'=>?_) dE.nil .all trivial hel.j hs X.bor hbad fun D L s' g' ys J' m e p w n1 n2 ac hL nL hDL hn=>⟨m,hn,fun h' hsb=>?_⟩
  .refine oe O hn ht X e1 fun a of=>?_
   obtain ⟨vs,n',ea,la,ra⟩:=of.o
   refine wpAny_pyIter_list (s:={s with toks:=s.toks+1}) ⟨_,ea,rfl,n',rfl⟩ ?_
   obtain ⟨p',w',v⟩:=uA (X:=s7 "list_iterator" a) (tk:=s.toks+1) (s₁:={s with toks:=s.toks+1}) Xb.g (.toks g.bor s _)
   obtain ⟨_,_,_,_,za,na,_,_,_⟩:=of
   exact hq' _ g.bor xs _ _ _ [a] _ rfl p' w' (hb.make (o4.own X.room.2.2)) ⟨⟨_,bF _,rfl,rfl⟩,cq s _ _ _ ea,(ra.mono (DA g _)).mono ((aJ.push (s7 "list_iterator" a) 0).k Xb.g)⟩ v (fun b hb=>by rw [aa hb];exact ⟨(X.g.Z a za).2,na,fun q=>(X.g.O a q).2.2 za,fun q=>(X.env.own a q).2.2.1 za⟩) la
  .obtain ⟨p',w'⟩:=tO X.g p w
   have nz:∀{b},s.heap.get? b=Option.none->¬g.Z b:=fun e z=>(X.g.Z _ z).1 e
   obtain ⟨w'',kf⟩:=w'.scrap ⟨nL.1,nz hL,nL.2.2⟩ hsb.2
   exact hq _ _ _ _ ⟨J'.spot,J.self⟩ e (p'.scrap hL hsb.2) w'' (CT.scrap (g:={g' with Z:=g.Z}) ⟨D,rfl,n1,n2.1,nz n1,n2.2.2,fR.mono (t:=.lst ys) (g:=g') (h:=s'.heap) (g':={g' with Z:=g.Z}) ⟨fun _ f=>⟨f,fun _ e=>e⟩,rfl⟩ (fun _ e=>e) ac⟩ kf hDL hsb.2)
theorem DX (w:bC P g h J):fR P g h g.sp (.lst [.int J.spot]):=let ⟨t,n,e⟩:=w.spot.1;⟨_,n,e,(show 1<=lim by decide),_,_,rfl,⟨t,rfl⟩,rfl⟩
theorem qe (h:rd V i=true):bX V i=some .spot:=by
 unfold rd at h
 cases e:bX V i with
 |none=>rw [e] at h;cases h
 |some t=>
  rw [e] at h
  cases t<;>first |rfl |cases h
theorem aq.spot {kk:Nat}{cp:Pos}(hv:k9 C i=true)(ht:B.tab[i]?=some (some (y,kd))):aq P B C (.Subscript (.Name y np) (.Constant (.int 0) kk cp) pos) (pU i) (RV P):=fun n A env g V J s k Q E X hb hq=>by
 have h1:=fX hb
 obtain ⟨u,va,q⟩:=X.env.var i _ _ ht (qe h1)
 obtain rfl:u=.ref g.sp:=jy hv q
 refine Subscript_ (bc X ht va (wpAny_Constant_int (yX (fun _ _=>rfl) A env g J _ _ _ (.lst [.int J.spot]) (.int 0) (.int J.spot) Q E X.rm X.g (.inr ⟨_,rfl,DX X.g⟩) (.inl ⟨_,rfl⟩) rfl fun x s' g' p w r=>hq x s' g' _ J (by unfold pU;rw [h1]) ((aJ.toks g s _).trans p) w r)))
theorem yr {prog:Program}{w:World}{l:Addr}{x v:Value}{t:Tok}{k:Int}(hk:k=0){Q:Unit->Shared->Prop}(hl:IsL s.heap l #[x] n)(hQ:Q () {s with heap:=s.heap.update l (Obj.mapSeq (·.setIfInBounds 0 v))}):wpAny (model prog w) A (setItem (.ref l) (.int k t) v) Q E s:=by
 have hT:s.TypeIs (.ref l) "list":=⟨_,hl,rfl⟩
 unfold setItem
 try with_reducible refine wpAny_holding ?_
 first |refine wpAny_bind (wpAny_pure ?_) |skip
 refine wpAny_bind (wpAny_sequenceKey hT (by decide) ?_)
 refine wpAny_bind (wpAny_callSpecial?_slot (name:=ofString "__setitem__") hT slot_list_setitem (wpAny_call_entry slot_list_setitem hT entry_list_setitem ?_ (args_list_setitem _ _ _)))
 show wpAny _ _ (Builtin.List.listSubscript? (.int k t) >>=_) _ _ s
 refine wpAny_bind (wpAny_listSubscript_int (fitsIndex_of (Int.le_of_eq hk.symm) (hk▸by decide)) ?_)
 subst hk
 show wpAny _ _ ((seqItemAt l 0 >>=fun r=>pure (r.map (0,·))) >>=_) _ _ s
 refine wpAny_bind (wpAny_bind (wpAny_seqItemAt hl rfl (wpAny_pure ?_)))
 show wpAny _ _ (setSeqItemAt l 0 v >>=_) _ _ s
 refine wpAny_bind (wpAny_setSeqItemAt hl rfl ?_)
 first
  |exact wpAny_bind (wpAny_pure (wpAny_pure ⟨.none,rfl,wpAny_pure hQ⟩))
  |exact wpAny_pure ⟨.none,rfl,wpAny_pure hQ⟩
theorem yq {v:Int}(w:bC P g s.heap J)(hs:∀b,b≠g.sp->h'.get? b=s.heap.get? b){t:Tok}{n:Nat}(e:IsL h' g.sp #[.int v t] n)(tk:Nat):aJ g s g {s with heap:=h',toks:=tk}/\bC P g h' ⟨v,J.self⟩:=by
 have zs:=w.spot.2.1
 have kf:aQ g s.heap g h':=⟨fun b f=>⟨f,fun o e=>(hs b fun q=>(w.Z _ zs).2 (q▸f)).trans e⟩,rfl⟩
 have lv:∀b,s.heap.get? b≠none->h'.get? b≠none:=fun b l=>by
  by_cases q:b=g.sp
  .exact q▸ar e
  .rw [hs b q];exact l
 refine ⟨⟨⟨h',tk,rfl⟩,fun b o e z=>(hs b fun q=>z (q▸zs)).trans e,fun b e=>?_,fun _ f=>f,fun _ f=>.inl f,fun _ f=>.inl f,rfl,rfl,rfl⟩,fun b o e=>⟨(w.base b o e).1,(kf.F b (w.base b o e).1).2 o (w.base b o e).2⟩,fun b f=>lv b (w.F b f),fun b z=>⟨lv b (w.Z b z).1,(w.Z b z).2⟩,fun b z=>⟨lv b (w.O b z).1,(w.O b z).2⟩,w.oo,⟨⟨t,n,e⟩,w.spot.2⟩,
  fun c ts e=>(w.self c ts e).mono' kf (fun b n z=>⟨z,fun o e=>(hs b n).trans e⟩) rfl⟩
 by_cases q:s.heap.get? b=none
 .exact q
 .exact (lv b q e).elim
theorem aR.spot {e:Expr}{kk:Nat}{cp ps:Pos}{pe:PE}(hv:k9 C i=true)(ht:B.tab[i]?=some (some (y,kd)))(hw:∀env,swapsWith e (some (.Subscript (.Name y np) (.Constant (.int 0) kk cp) ps)) pos.line env=pure false)(h:aq P B C e pe (RV P)):aR P B C fr C (.Assign [.Subscript (.Name y np) (.Constant (.int 0) kk cp) ps] e pos) (jV i pe):=fun n A env g V J s k Q E X hb hq hr=>by
 refine wpAny_Assign_Subscript (h n A env g V J s _ _ E X hb fun z s₁ ga v J1 ec pa w1 rb=>?_) (hw env)
 have X1:=X.post pa w1
 have hb1:=fun q=>hb (ec.trans q)
 have h1:=fX hb1
 obtain ⟨u,va,q⟩:=X1.env.var i _ _ ht (qe h1)
 obtain rfl:u=.ref ga.sp:=jy hv q
 cases ev:i7 v with
 |none=>simp only [h1,ev,cond_true] at hb1;exact (hb1 trivial).elim
 |some m=>
  cases jo ev
  obtain ⟨t,rfl⟩:=rb
  obtain ⟨t',n',sp⟩:=w1.spot.1
  refine bc X1 ht va (wpAny_Constant_int (yr rfl sp ?_))
  obtain ⟨pS,wS⟩:=yq (s:=s₁) w1 (Heap.SameBut.update s₁.heap ga.sp (Obj.mapSeq (·.setIfInBounds 0 (.int m t)))).2 (IsL.update sp _) _
  exact hq _ _ V _ (ec.trans (by rw [h1];rfl)) (pa.trans pS).toS (X1.post pS wS)
end
section
variable {P:Pg} {B:bG} {C:Ct}
theorem AL {M:Model}{A:Around}{E:Value->Shared->Prop}{s:Shared}{env:Env}{l m r:Expr}{o1 o2:CmpOp}{pos:Pos}{Q:Value->Shared->Prop}(hm:markedEach [o1,o2] [m,r] (evalEach [m,r] env)=[eval m env,eval r env])
  (h:wpAny M A (eval l env) (fun a s₁=>wpAny M A (eval m env) (fun b s₂=>wpAny M A (compareOp o1 a b) (fun c s3=>∃t:Bool,c=.bool t/\(t=true->wpAny M A (eval r env) (fun d s4=>wpAny M A (compareOp o2 b d) Q E s4) E s3)/\(t=false->Q (.bool false) s3)) E s₂) E s₁) E s):
  wpAny M A (eval (.Compare l [o1,o2] [m,r] pos) env) Q E s:=by
 rw [arm_eval_Compare,hm]
 refine wpAny_bind (wpAny_mono h (fun a s₁ hc=>?_) fun _ _ q=>q)
 show wpAny M A (do
  let rv <-holding [a] (eval m env)
  standAt pos
  let c <-holding [a,rv] (compareOp o1 a rv)
  release [a,rv] [c]
  if <-holding [c,rv] (truthy c) then compareChain pos rv [o2] [eval r env] else pure c) Q E s₁
 refine wpAny_bind (wpAny_holding (wpAny_mono hc (fun b s₂ hd=>wpAny_bind (wpAny_standAt (wpAny_bind (wpAny_holding (wpAny_mono hd (fun c s3 he=>?_) fun _ _ q=>q))))) fun _ _ q=>q))
 obtain ⟨t,rfl,h4,h5⟩:=he
 refine wpAny_bind (wpAny_release (wpAny_bind (wpAny_holding (wpAny_truthy_bool ?_))))
 cases t with
 |true=>
  rw [if_pos rfl]
  show wpAny M A (do
   let rv <-holding [b] (eval r env)
   standAt pos
   operate [b,rv] (compareOp o2 b rv)) Q E s3
  exact wpAny_bind (wpAny_holding (wpAny_mono (h4 rfl) (fun d s4 h6=>wpAny_bind (wpAny_standAt (wpAny_operate' h6))) fun _ _ q=>q))
 |false=>rw [if_neg (by simp)];exact wpAny_pure (h5 rfl)
theorem mx {M:Model}{A:Around}{E:Value->Shared->Prop}{s:Shared}{env:Env}{l m r:Expr}{o1 o2:CmpOp}{pos:Pos}{whole:Sem Value}{Q:Bool->Shared->Prop}(hm:markedEach [o1,o2] [m,r] (evalEach [m,r] env)=[eval m env,eval r env])
  (h:wpAny M A (eval l env) (fun a s₁=>wpAny M A (eval m env) (fun b s₂=>wpAny M A (compareOp o1 a b) (fun c s3=>∃t:Bool,c=.bool t/\(t=true->wpAny M A (eval r env) (fun d s4=>wpAny M A (compareOp o2 b d) (fun c s5=>wpAny M A (truthy c) Q E s5) E s4) E s3)/\(t=false->Q false s3)) E s₂) E s₁) E s):
  wpAny M A (isTrue (.Compare l [o1,o2] [m,r] pos) env whole) Q E s:=by
 show wpAny M A (do testChain pos (<-eval l env) [o1,o2] (markedEach [o1,o2] [m,r] (evalEach [m,r] env))) Q E s
 rw [hm]
 refine wpAny_bind (wpAny_mono h (fun a s₁ hc=>?_) fun _ _ q=>q)
 show wpAny M A (do
  let rv <-holding [a] (eval m env)
  standAt pos
  let c <-holding [a,rv] (compareOp o1 a rv)
  release [a,rv] [c]
  if <-holding [c,rv] (truthy c) then testChain pos rv [o2] [eval r env] else pure false) Q E s₁
 refine wpAny_bind (wpAny_holding (wpAny_mono hc (fun b s₂ hd=>wpAny_bind (wpAny_standAt (wpAny_bind (wpAny_holding (wpAny_mono hd (fun c s3 he=>?_) fun _ _ q=>q))))) fun _ _ q=>q))
 obtain ⟨t,rfl,h4,h5⟩:=he
 refine wpAny_bind (wpAny_release (wpAny_bind (wpAny_holding (wpAny_truthy_bool ?_))))
 cases t with
 |true=>
  rw [if_pos rfl]
  show wpAny M A (do
   let rv <-holding [b] (eval r env)
   standAt pos
   let c <-operate [b,rv] (compareOp o2 b rv)
   holding [c] (truthy c)) Q E s3
  exact wpAny_bind (wpAny_holding (wpAny_mono (h4 rfl) (fun d s4 h6=>wpAny_bind (wpAny_standAt (wpAny_bind (wpAny_operate' (wpAny_mono h6 (fun c s5 h7=>wpAny_holding h7) fun _ _ q=>q))))) fun _ _ q=>q))
 |false=>rw [if_neg (by simp)];exact wpAny_pure (h5 rfl)
noncomputable abbrev Fe (P:Pg)(l m r:Expr)(o1 o2:CmpOp):WP Bool:=fun A env Q E s=>wpAny P.M A (eval l env) (fun a s₁=>wpAny P.M A (eval m env) (fun b s₂=>wpAny P.M A (compareOp o1 a b) (fun c s3=>∃t:Bool,c=.bool t/\(t=true->wpAny P.M A (eval r env) (fun d s4=>wpAny P.M A (compareOp o2 b d) (fun v s5=>∃u:Bool,v=.bool u/\Q u s5) E s4) E s3)/\(t=false->Q false s3)) E s₂) E s₁) E s
theorem chain {l m r:Expr}{o1 o2:CmpOp}{pl pm pr:PE}{F G:T->T->Option Bool}(k1:kX P o1 F)(k2:kX P o2 G)(hl:aq P B C l pl (RX P))(hm:aq P B C m pm (RX P))(hr:aq P B C r pr (RX P)):dG P B C (Fe P l m r o1 o2) (md F G pl pm pr) RQ:=
 hl.bind (N:=fun A env a Q E s₁=>wpAny P.M A (eval m env) (fun b s₂=>wpAny P.M A (compareOp o1 a b) (fun c s3=>∃t:Bool,c=.bool t/\(t=true->wpAny P.M A (eval r env) (fun d s4=>wpAny P.M A (compareOp o2 b d) (fun v s5=>∃u:Bool,v=.bool u/\Q u s5) E s4) E s3)/\(t=false->Q false s3)) E s₂) E s₁)
  (F:=fun c V k a J=>pm c V J fun b J=>match F a b with |some true=>pr c V J fun x J=>up (G b x) J k |some false=>k false J |none=>.bad) Fp fun n A env g ga V J s s₁ x t k Q E p X r1 hb hq=>hm n A env ga V J s₁ _ _ E X hb fun y s₂ gb u J2 ec p2 wb r2=>by
  have hb2:=fun q=>hb (ec.trans q)
  have rx:=kW.post X.g p2 r1
  cases ht:F t u with
  |none=>simp only [ht] at hb2;exact (hb2 trivial).elim
  |some c=>
   refine k1 A gb J2 s₂ x y t u c _ _ X.rm wb rx.y (kW.y r2) ht fun tk=>⟨c,rfl,fun q=>?_,fun q=>?_⟩
   .subst q
    simp only [ht] at hb2 ec
    have pt:=aJ.toks gb s₂ tk
    refine hr n A env gb V J2 {s₂ with toks:=tk} _ _ E ((X.post p2 wb).post pt wb) hb2 fun z s3 g3 v J3 ed p3 w3 r3=>?_
    obtain ⟨b,e'⟩:=ch fun q=>hb2 (ed.trans q)
    exact k2 A g3 J3 s3 y z u v b _ _ X.rm w3 (kW.post (s:={s₂ with toks:=tk}) wb p3 r2).y (kW.y r3) e' fun tk'=>⟨b,rfl,hq b _ g3 b J3 (ec.trans (ed.trans (by rw [e'];rfl))) ((p2.trans pt).trans (p3.trans (.toks _ _ _))) w3 rfl⟩
   .subst q
    simp only [ht] at ec
    exact hq false _ gb false J2 ec (p2.trans (.toks _ _ _)) wb rfl
theorem cN.cmp2 {l m r:Expr}{o1 o2:CmpOp}{pos:Pos}{pl pm pr:PE}{F G:T->T->Option Bool}(k1:kX P o1 F)(k2:kX P o2 G)(hM:∀env,markedEach [o1,o2] [m,r] (evalEach [m,r] env)=[eval m env,eval r env])(hl:aq P B C l pl (RX P))(hm:aq P B C m pm (RX P))(hr:aq P B C r pr (RX P)):cN P B C (.Compare l [o1,o2] [m,r] pos) (md F G pl pm pr):=
 (chain k1 k2 hl hm hr).map fun A env Q E s h=>mx (hM env) (wpAny_mono h (fun a s₁ h=>wpAny_mono h (fun b s₂ h=>wpAny_mono h (fun c s3 ⟨t,e,h1,h2⟩=>⟨t,e,fun q=>wpAny_mono (h1 q) (fun d s4 h=>wpAny_mono h (fun v s5 ⟨u,e,h⟩=>by rw [e];exact wpAny_truthy_bool h) fun _ _ q=>q) fun _ _ q=>q,h2⟩) fun _ _ q=>q) fun _ _ q=>q) fun _ _ q=>q)
theorem aq.cmp2 {l m r:Expr}{o1 o2:CmpOp}{pos:Pos}{pl pm pr:PE}{F G:T->T->Option Bool}(k1:kX P o1 F)(k2:kX P o2 G)(hM:∀env,markedEach [o1,o2] [m,r] (evalEach [m,r] env)=[eval m env,eval r env])(hl:aq P B C l pl (RX P))(hm:aq P B C m pm (RX P))(hr:aq P B C r pr (RX P)):aq P B C (.Compare l [o1,o2] [m,r] pos) (pB (md F G pl pm pr)) (RV P):=
 ((chain k1 k2 hl hm hr).bind (N:=fun A env b Q E s=>Q (.bool b) s) (F:=fun _ _ k b J=>k (.bool b) J) mD fun n A env g ga V J s s₁ x t k Q E p X r hb hq=>hq _ s₁ ga _ J rfl (.refl _ _) X.g (by cases r;rfl)).map fun A env Q E s h=>AL (hM env) (wpAny_mono h (fun a s₁ h=>wpAny_mono h (fun b s₂ h=>wpAny_mono h (fun c s3 ⟨t,e,h1,h2⟩=>⟨t,e,fun q=>wpAny_mono (h1 q) (fun d s4 h=>wpAny_mono h (fun v s5 ⟨u,e,h⟩=>by rw [e];exact h) fun _ _ q=>q) fun _ _ q=>q,h2⟩) fun _ _ q=>q) fun _ _ q=>q) fun _ _ q=>q)
end
structure iH where
 i:Nat
 x:Str
 k:NameKind
 p:Pos
noncomputable def iH.e (z:iH):Expr:=.Name z.x z.p
def Df (B:bG)(C:Ct)(zs:List iH):Bool:=zs.all fun z=>(B.tab[z.i]?==some (some (z.x,z.k)))&&((z.k==.local||z.k==.cell)&&bO C z.i false C)
structure iH.ok (B:bG) (C:Ct) (z:iH):Prop where
 t:B.tab[z.i]?=some (some (z.x,z.k))
 k:z.k=.local\/z.k=.cell
 s:bO C z.i false C=true
theorem Ek {B:bG}{C:Ct}{zs:List iH}(h:Df B C zs=true)(z:iH)(hz:z∈zs):z.ok B C:=by
 obtain ⟨h1,h2⟩:=aj (aA h z hz)
 obtain ⟨h2,h3⟩:=aj h2
 exact ⟨eq_of_beq h1,(Bool.or_eq_true_iff.mp h2).imp eq_of_beq eq_of_beq,h3⟩
theorem f7 (env:Env):∀zs:List iH,(assignEach (zs.map iH.e) env).map (·.2)=zs.map (fun z=>assign z.e env)/\(assignEach (zs.map iH.e) env).length=zs.length/\(assignEach (zs.map iH.e) env).findIdx? (·.1)=none
 | []=>⟨rfl,rfl,rfl⟩
 |z::zs=>by
  obtain ⟨h1,h2,h3⟩:=f7 env zs
  have e:assignEach ((z::zs).map iH.e) env=(false,assign z.e env)::assignEach (zs.map iH.e) env:=rfl
  rw [e]
  refine ⟨by rw [map_cons,map_cons,h1],by rw [length_cons,h2];rfl,?_⟩
  rw [findIdx?_cons,h3];rfl
theorem lT:∀{is:List Nat} {ts:List T} {V ρ':aP},ew is ts V=some ρ'->is.length=ts.length
 | [],[],_,_,_=>rfl
 | [],_::_,_,_,e=>by cases e
 |_::_,[],_,_,e=>by cases e
 |_::is,_::ts,_,_,e=>congrArg (·+1) (lT (is:=is) (ts:=ts) e)
section
variable {P:Pg} {B:bG} {C C':Ct} {fr:Bool} {n:Nat} {A:Around} {env:Env} {g g':Gh} {V ρ':aP} {J:Sg} {s s':Shared} {h h':Heap} {E:Value->Shared->Prop}
theorem kL {Q:Unit->Shared->Prop}:∀(zs:List iH) (ts:List T) (us:List Value) (V:aP) (s:Shared),ew (zs.map (·.i)) ts V=some ρ'->(∀z∈zs,z.ok B C)->At P B C n A env g V J s->aZ P g s.heap ts us->(∀s',bV [] (own env) g s g s'->At P B C n A env g ρ' J s'->Q () s')->wpAny P.M A (assignInOrder (zs.map (fun z=>assign z.e env)) us) Q E s
 | [],[],us,V,s,e,hz,X,r,h=>by
  cases r;cases e
  exact assignInOrder_nil (h s (aJ.refl g s).toE X)
 | [],_::_,us,V,s,e,hz,X,r,h=>by cases e
 |z::zs,[],us,V,s,e,hz,X,r,h=>by cases e
 |z::zs,t::ts,us,V,s,e,hz,X,r,h=>by
  obtain ⟨v,vs,rfl,r,rs⟩:=r
  have o:=hz z mem_cons_self
  refine assignInOrder_cons (wpAny_assign_Name (iu X o.s o.t o.k r fun s' p X'=>?_))
  have p:bV [] (own env) g s g s':=p.weak (fun _ h=>h) bQ
  exact kL zs ts vs (V.set z.i (some t)) s' e (fun w hw=>hz w (mem_cons_of_mem _ hw)) X' (rs.mono (p.toS.k X.g fun a ha=>(X.env.own a ha).2.1)) fun s'' p' X''=>h s'' (p.trans p') X''
theorem jm {Q:Unit->Shared->Prop}{zs:List iH}{ts:List T}{us:Array Value}{a:Addr}{m kt:Nat}{pt:Pos}(hz:Df B C zs=true)(e:ew (zs.map (·.i)) ts V=some ρ')(X:At P B C n A env g V J s)(ea:s.heap.get? a=some (dW us m))(rs:aZ P g s.heap ts us.toList)
  (h:∀s',bV [] (own env) g s g s'->At P B C n A env g ρ' J s'->Q () s'):wpAny P.M A (assign (.Tuple (zs.map iH.e) kt pt) env (.ref a)) Q E s:=by
 obtain ⟨h1,h2,h3⟩:=f7 env zs
 refine wpAny_assign_Tuple X.room.2.2 ⟨_,ea,rfl,m,rfl⟩ (by rw [h2,<-length_map (f:=(·.i)),lT e,<-rs.length];rfl) h3 fun h' hk=>?_
 have k:∀b o,s.heap.get? b=some o->h'.get? b=some o:=fun b o e=>hk b o (fun q=>ar e (q▸aN _)) e
 have pa:aJ g s g {s with heap:=h',toks:=s.toks}:=.grow s.toks k g.F (fun _ f=>f) fun _ f=>.inl f
 rw [h1]
 exact kL zs ts _ V _ e (Ek hz) (X.post pa (X.g.grow k g.F (fun _ f=>f) fun _ f=>.inl f)) (rs.mono (pa.k X.g)) fun s' p' X'=>h s' (pa.toE.trans p') X'
theorem qj:∀(xs:List T) (k i:Nat),(im k xs)[i]?=(xs[i]?).map fun v=>T.tup [.int ((k+i:Nat):Int),v]
 | [],_,_=>rfl
 |x::xs,k,0=>rfl
 |x::xs,k,i+1=>by
  have:=qj xs (k+1) i
  rw [Nat.add_right_comm] at this
  exact this
theorem gq:∀(xs:List T) (k:Nat),(im k xs).length=xs.length
 | [],_=>rfl
 |_::xs,k=>congrArg (·+1) (gq xs (k+1))
def AK (P:Pg)(ts:List T)(e it l:Addr)(vs:Array Value)(m k:Nat)(g:Gh)(h:Heap):Prop:=(∃old,IsEnum h e it k old)/\h.IsListIter it l k/\g.F l/\h.get? l=some (bA vs m)/\aZ P g h ts vs.toList
theorem AK.stay {ts:List T}{e it l:Addr}{vs:Array Value}{m k:Nat}(st:AK P ts e it l vs m k g h)(kf:aQ g h g' h')(ki:∀a∈[e,it],∀o,h.get? a=some o->h'.get? a=some o):AK P ts e it l vs m k g' h':=by
 obtain ⟨⟨old,h1⟩,⟨o,h2,h3⟩,f,e',q⟩:=st
 exact ⟨⟨old,ki e mem_cons_self _ h1⟩,⟨o,ki it (mem_cons_of_mem _ mem_cons_self) o h2,h3⟩,(kf.F l f).1,(kf.F l f).2 _ e',q.mono kf⟩
theorem mn.enum (hh:A.handled=none){e it l:Addr}{vs:Array Value}{m:Nat}{ts:List T}{z1 z2:iH}{kt:Nat}{pt:Pos}(hz:Df B C [z1,z2]=true)(hei:e≠it):
  mn P A B C C (.Tuple [z1.e,z2.e] kt pt) (xN z1.i z2.i) own e (im 0 ts) [e,it] [] (AK P ts e it l vs m) where
 sub:=fun _ _ h=>h
 stay:=fun k g h g' h' st kf ki=>st.stay kf ki
 here:=fun k g h st b hb=>by
  obtain ⟨⟨old,g1⟩,⟨o,g2,_⟩,_⟩:=st
  rcases au hb with rfl |hb
  .exact ar g1
  .rw [aa hb];exact ar g2
 self:=fun k g s Q E st h=>by
  obtain ⟨⟨old,g1⟩,_⟩:=st
  exact wpAny_pyIter_enum g1 h
 item:=fun k v n env g V ρ' J s Q E hj X hv st hρ hq=>by
  obtain ⟨⟨old,g1⟩,g2,f,b1,b2⟩:=id st
  rw [qj] at hj
  obtain ⟨x,hx,rfl⟩:=av hj
  obtain ⟨u,hu,r⟩:=b2.get hx
  refine wpAny_pyNext_enum_item g1 g2 ⟨_,b1,rfl,m,rfl⟩ (by rw [<-Array.getElem?_toList];exact hu) hei fun h' ho hit' ht hsz hk=>?_
  refine wpAny_letOwnedTupleGo_enum ho fun hd he2 hs2=>?_
  have hel:s.heap.objs.size≠e:=fun q=>ar g1 (q▸aN _)
  have hk2:∀b o,s.heap.get? b=some o->b∉[e,it]->hd.get? b=some o:=fun b o e' hb=>(hs2.2 b fun q=>hb (q▸mem_cons_self)).trans (hk b o (fun q=>hb (q▸mem_cons_self)) (fun q=>hb (q▸mem_cons_of_mem _ mem_cons_self)) e')
  obtain ⟨pV,X1⟩:=dy X hv hk2 (s.toks+1)
  have lve:hd.get? e≠none:=ar he2
  have lvi:hd.IsListIter it l (k+1):=let ⟨o,w1,w2⟩:=hit';⟨o,(hs2.2 it (Ne.symm hei)).trans w1,w2⟩
  have kf:aQ g s.heap g hd:=⟨fun b f=>⟨f,fun o e=>hk2 b o e fun q=>(hv b q).1 f⟩,rfl⟩
  have pV:=eV pV fun b hb=>by
   rcases au hb with rfl |hb
   .exact lve
   .rw [aa hb];exact let ⟨_,e,_⟩:=lvi;ar e
  have st':AK P ts e it l vs m (k+1) g hd:=⟨⟨_,he2⟩,lvi,f,(kf.F l f).2 _ b1,b2.mono kf⟩
  refine jm (zs:=[z1,z2]) (ts:=[.int ((0+k:Nat):Int),x]) hz hρ X1 ((hs2.2 _ hel).trans ht) ⟨_,_,rfl,⟨s.toks,by rw [zero_add]⟩,_,_,rfl,r.mono kf,rfl⟩ fun s' p' X'=>?_
  exact hq s' ((pV.weak (fun _ h=>h) fun a=>mem_append_left _).trans (p'.weak (fun _ h=>h) fun a=>mem_append_right _)) X' (st'.stay (p'.toS.k X1.g fun a ha=>(X1.env.own a ha).2.1) fun a ha o e=>p'.keep a o e (hv a ha).2.1 (hv a ha).2.2.2)
 done:=fun n env g V J s Q E X hv st hq=>by
  obtain ⟨⟨old,g1⟩,g2,f,b1,b2⟩:=id st
  rw [gq] at g1 g2
  refine wpAny_pyNext_enum_end hh g1 g2 ⟨_,b1,rfl,m,rfl⟩ (Array.getElem?_eq_none (le_of_eq b2.size)) fun h' hk=>?_
  obtain ⟨pV,X1⟩:=dy (h':=h') X hv (fun b o e' hb=>hk b o (fun q=>hb (q▸mem_cons_of_mem _ mem_cons_self)) e') s.toks
  exact hq _ pV X1
theorem f9.enum {x:Expr}{d:PE}{z1 z2:iH}{kt:Nat}{pt p pos:Pos}(hz:Df B C [z1,z2]=true)(hx:B.sc.names.lookup (ofString "enumerate")=some .globalImplicit)(hn:∀env,starEach [x] env=[(false,eval x env)])(h:aq P B C x d (RV P)):
  f9 P B C (.Call (.Name (ofString "enumerate") p) [x] [] pos) (xJ P B C C (.Tuple [z1.e,z2.e] kt pt) (xN z1.i z2.i) own) (qd d):=fun n A env g V J s k Q E X hb hq=>by
 refine Call_Name rfl (X.blt hx (by decide) (by decide) (v:=.type "enumerate") (by decide) (bM (fun _ q=>by cases q) (cf (by rw [hn env];exact fun q hq=>by cases hq with |head=>rfl |tail _ h=>cases h)) (wpAny_items_cons (h n A env g V J s _ _ E X hb fun x s₁ ga t J1 eb pa wa r1=>wpAny_items_nil ?_) (hn env))))
 obtain ⟨ts',e'⟩:=ch fun q=>hb (eb.trans q)
 obtain ⟨ts,e2,e3⟩:=aB e'
 cases fq e2
 obtain ⟨l,rfl,f,vs,m,b1,b3,b2⟩:=r1
 refine call_enumerate_1 b1 fun h' ge gi _ hk=>wpAny_pyIter_enum ge ?_
 have hne:s₁.heap.get? (s₁.heap.objs.size+1)=none:=Heap.get?_none_of_le (le_succ _)
 have p2:aJ ga s₁ ga {s₁ with heap:=h',toks:=s₁.toks}:=.grow s₁.toks hk ga.F (fun _ f=>f) fun _ f=>.inl f
 cases e3
 refine hq _ ga _ J1 _ [_,s₁.heap.objs.size] [] _ (eb.trans (by rw [e'];rfl)) (pa.trans p2) (wa.grow hk ga.F (fun _ f=>f) fun _ f=>.inl f) (mn.enum (l:=l) X.room.2.2 hz (Nat.ne_of_gt (lt_succ_self _))) ⟨⟨_,ge⟩,gi,f,hk _ _ b1,b2.mono (p2.k wa)⟩ (fun b hb=>?_) (fun _ q=>nomatch q) (by rw [gq];exact b3)
 have:s₁.heap.get? b=none:=by
  rcases au hb with rfl |hb
  .exact hne
  .rw [aa hb];exact aN _
 exact ⟨pa.back b this,fun q=>wa.F b q this,fun q=>(wa.Z b q).1 this⟩
theorem o4.str (hh:A.handled=none){I:Addr}{x:Str}{t:Tok}(ha:x.cps.all (· < 128)=true):o4 P A I (x.cps.toList.map fun c=>T.str ⟨#[c]⟩) [I] [] (fun i _ h=>h.IsStrIter I "str_ascii_iterator" x t i) where
 self i g s Q E st:=wpAny_pyIter_striter_ascii st
 stay i g h g' h' st k ki:=let ⟨o,e,r⟩:=st;⟨o,ki I (ay rfl) o e,r⟩
 here i g h st a ha:=by
  obtain ⟨o,e,_⟩:=st
  rw [aa ha];exact ar e
 item i t g s Q E hi st hF hq:=by
  rw [getElem?_map] at hi
  obtain ⟨c,hc',rfl⟩:=av hi
  have hcx:x.cps[i]?=some c:=by rw [<-Array.getElem?_toList];exact hc'
  refine wpAny_pyNext_ascii_item st hcx fun h' hit hs=>?_
  refine hq _ h' _ (ib hs.2) ⟨⟨?_,(show 1<=lim by decide)⟩,_,rfl⟩ hit
  have hlt:c < 128:=by
   have:=Array.all_eq_true_iff_forall_mem.mp ha c (Array.mem_of_getElem? hcx)
   simpa using this
  simp [PyData.strOk]
  lia -abstractProof
 done g s Q E st hq:=wpAny_pyNext_ascii_end hh st (by rw [length_map];exact Array.getElem?_eq_none (le_refl _)) fun h' hs=>hq h' s.toks fun b o e hb=>hs b o (fun q=>hb (ay q)) e
theorem f9.str {e:Expr}{p:PE}{mk:Around->Addr->List T->List Addr->List Addr->(Nat->Gh->Heap->Prop)->Prop}(hb:kR P mk)(h:aq P B C e p (RV P)):f9 P B C e mk (p1 CC p):=fun n A env g V J s k Q E X hbad hq=>
 h n A env g V J s (fun t J=>up (CC t) J k) _ E X hbad fun x s₁ ga t J1 e p w r=>by
  obtain ⟨ts,e'⟩:=ch fun q=>hbad (e.trans q)
  obtain ⟨y,e1,e2⟩:=aB e'
  obtain ⟨ha,e2⟩:=dD e2
  obtain ⟨⟨_,l⟩,u,rfl⟩:=fP.s (.inl r) e1
  refine wpAny_pyIter_ascii ha ?_
  obtain ⟨p',w',v⟩:=uA (X:={cls:=.type "str_ascii_iterator",data:=.fields #[.str y u,.int 0 0]}) (tk:=s₁.toks) w p
  exact hq _ ga ts J1 _ _ [] _ (e.trans (by rw [e'];rfl)) p' w' (e2▸hb.make (o4.str X.room.2.2 ha)) ⟨_,bF _,rfl,rfl⟩ v (fun _ q=>nomatch q) (by rw [<-e2,length_map];exact l)
theorem E0:kX P .In Hz:=fun A g J s x x' t t' b Q E rm w q q' e k=>by
 obtain ⟨y,z,e1,e2,e3⟩:=bz e
 cases e3
 obtain ⟨_,u,rfl⟩:=q.s e1
 obtain ⟨_,v,rfl⟩:=q'.s e2
 exact PySem.P.in_str (k s.toks)
end
end
end Mine
namespace Mine
noncomputable section
open PySem PySem.W PyProof.Rows PySem.SeqAt
theorem gA:entryFor table "dict.update.loop"=some Builtin.«dict.update.loop»:=entryFor_of_tree (by kernel_rfl)
theorem df:plainId "dict.update.loop"=true:=by decide+kernel
theorem xb:typeLookup (.type "list") "keys"=pure none:=by rw [typeLookup_type,builtinLookup_eq_fast];kernel_rfl
section
variable {prog:Program} {w:World} {A:Around} {E:Value->Shared->Prop} {s:Shared}
set_option maxRecDepth 100000 in
theorem xg {a:Addr}{xs:Array Value}{k:Nat}{Q:Option Value->Shared->Prop}(hx:s.heap.get? a=some {cls:=.type "list",dict:=none,data:=.seq xs k,slots:=#[]})(hA:A.handled=none)
  (h:∀h' tk,(∀b o,s.heap.get? b=some o->h'.get? b=some o)->Q none {s with heap:=h',toks:=tk}):wpAny (model prog w) A (getAttr? (.ref a) "keys") Q E s:=by
 obtain ⟨hp,g,d,tk,os⟩:=s
 have hT:∀tk',(⟨hp,g,d,tk',os⟩:Shared).TypeIs (.ref a) "list":=fun _=>⟨_,hx,rfl⟩
 have f1:=sub_AttributeError
 have f3:=F.slot_list_getattribute.lookup
 have f4:=F.slot_list_getattribute.bind (.ref a)
 have f5:=am_list_getattr_none
 unfold getAttr? getAttrBy? getAttrBy
 repeat (any_goals (first |assumption |exact hT _ | ((with_reducible show wpAny _ _ (call (Value.builtin "list.__getattribute__") _ _) _ _ _);refine call_meets F.slot_list_getattribute (hT _) am_entry_list_getattribute (F.args_list_getattribute_2 _ _) (meets_getattribute_miss_list a xs k #[] "keys" _ xb (by decide) (by size_fits)) ⟨hx,hA,fun h' tk' e hx'=>?_⟩) |wp_step))
 obtain ⟨t',u',he⟩:=hx'.there
 show wpAny _ _ (getattributeRaised _ _ _ _ _ _ _) _ _ _
 unfold getattributeRaised
 repeat (any_goals (first |assumption |wp_step))
 exact h _ _ hx'.keeps
theorem uv {a:Addr}{vs:Array Value}{n:Nat}{Q:List Value->Shared->Prop}(hx:s.heap.get? a=some {cls:=.type "tuple",dict:=none,data:=.seq vs n,slots:=#[]})(h:Q vs.toList s):wpAny (model prog w) A (Builtin.Dict.pairItems (.ref a)) Q E s:=by
 have hT:s.TypeIs (.ref a) "tuple":=⟨_,hx,rfl⟩
 unfold Builtin.Dict.pairItems
 refine wpAny_bind (wpAny_typeOf hT ?_)
 rw [if_pos (by decide)]
 refine wpAny_bind (wpAny_seqItems hx rfl (wpAny_pure ?_))
 exact h
end
noncomputable abbrev ou (es:List jv)(xs:List jv):List jv:=es.foldl (fun xs e=>storedH xs e.1 e.2.1 e.2.2) xs
section
variable {prog:Program} {w:World} {A:Around} {s:Shared} {knd:HeapKind prog w Ky}
theorem r9 (xs:List jv)(H:Ky)(a:Addr)(v:Value):(storedH xs H a v).length<=xs.length+1:=by
 unfold storedH;split
 .rw [length_map];lia -abstractProof
 .rw [List.length_append];exact le_refl _
theorem vU {h h':Heap}{H:Ky}{a:Addr}(k:∀b o,h.get? b=some o->h'.get? b=some o)(i:(b7 prog w).is h H a):(b7 prog w).is h' H a:=let ⟨d,e,x⟩:=i;⟨d,e,c8.keeps (fun _ _ _ e=>k _ _ e) d 6 _ x⟩
theorem uh {xs:List jv}{e x:jv}{p:Ky->Addr->Prop}(h:∀x∈xs,p x.1 x.2.1)(he:p e.1 e.2.1)(hx:x∈storedH xs e.1 e.2.1 e.2.2):p x.1 x.2.1:=by
 unfold storedH at hx
 split at hx
 .obtain ⟨y,hy,rfl⟩:=aC hx
  unfold putAt;split<;>exact h y hy
 .rcases ai hx with hx |hx
  .exact h x hx
  .rw [aa hx];exact he
theorem vi {n i k:Nat}(h:n - i=k+1):n - (i+1)=k:=by rw [Nat.sub_add_eq,h];rfl
inductive IL (prog:Program) (w:World) (h:Heap) (o:Option jv) (v:Value):Prop
 |mk (a:Addr) (e:jv) (us:Array Value) (m:Nat) (hv:v=.ref a) (he:o=some e) (hg:h.get? a=some ⟨.type "tuple",none,.seq us m,#[]⟩) (hu:us.toList=[.ref e.2.1,e.2.2]) (hk:(b7 prog w).is h e.1 e.2.1)
theorem xq {R:Result->Shared->Prop}{I:Addr}{fp wr:List Addr}{G:Array GenState->Array GenState->Prop}{n:Nat}{Pp:Nat->Value->Prop}{St:Nat->Shared->Prop}(hu:A.units+50 < cLine)(W:WalksS prog w A.in1 I fp wr G n Pp St)(S:Addr)(hSf:S∉fp)(h₀:Heap)(es:List jv)(hn:es.length=n)(hnl:n<=lim)
  (hval:∀i v,Pp i v->IL prog w h₀ es[i]? v)(hS0:h₀.get? S=none)(hw0:∀b∈wr,h₀.get? b=none):
  ∀(k i:Nat) (s:Shared) (xs:List jv),n - i=k->i<=n->xs.length<=i->St i s->s.heap.DictOfH (b7 prog w) S xs->(∀x∈xs,(b7 prog w).is h₀ x.1 x.2.1)->(∀b o,h₀.get? b=some o->s.heap.get? b=some o)->
   (∀s',Moved (S::wr) G s s'->s'.heap.DictOfH (b7 prog w) S (ou (es.drop i) xs)->R (.ok (.ret .none)) s')->
   codeAny (model prog w) A (.builtin "dict.update.loop" ⟨[.ref S,.ref I,rawInt i,.none],[]⟩) R s:=by
 have hSw:S∉wr:=fun h=>hSf (W.sub _ h)
 have hsub:∀b∈wr,b∈S::wr:=fun b hb=>mem_cons_of_mem _ hb
 have kp:∀{s s':Shared},Moved wr G s s'->(∀b o,h₀.get? b=some o->s.heap.get? b=some o)->∀b o,h₀.get? b=some o->s'.heap.get? b=some o:=fun hm hkp b o e=>hm.heap b o (fun hb=>by rw [hw0 b hb] at e;cases e) (hkp b o e)
 have dm:∀{xs:List jv} {s s':Shared},Moved wr G s s'->(∀b o,h₀.get? b=some o->s.heap.get? b=some o)->(∀x∈xs,(b7 prog w).is h₀ x.1 x.2.1)->s.heap.DictOfH (b7 prog w) S xs->s'.heap.DictOfH (b7 prog w) S xs:=fun hm hkp hx d=>by
  obtain ⟨o,es,ep,h1,h2,h3,h4,h5,h6⟩:=d
  exact ⟨o,es,ep,hm.heap S _ hSw h1,h2,h3,h4,fun x hx'=>vU (kp hm hkp) (hx x hx'),h6⟩
 intro k
 induction k with
 |zero=>
  intro i s xs hk hi hxl hst hS hxs hkp hR
  obtain rfl:i=n:=le_antisymm hi (Nat.le_of_sub_eq_zero hk)
  rw [List.drop_of_length_le (by lia -abstractProof)] at hR
  refine codeAny_builtin gA ?_
  rw [Around.under_plainId df _]
  show wpAny _ A.in1 (pyNext (.ref I) >>=_) _ _ s
  refine wpAny_bind (W.done s _ _ hst fun s' hm=>?_)
  show wpAny _ A.in1 (Builtin.Dict.addKeywords S [] >>=fun _=>ret Value.none) _ _ s'
  refine wpAny_bind (wpAny_pure ?_)
  exact wpAny_pure (hR s' (hm.mono hsub) (dm hm hkp hxs hS))
 |succ k ih=>
  intro i s xs hk hi hxl hst hS hxs hkp hR
  have hlt:i < n:=Nat.lt_of_sub_eq_succ hk
  refine codeAny_builtin gA ?_
  rw [Around.under_plainId df _]
  show wpAny _ A.in1 (pyNext (.ref I) >>=_) _ _ s
  refine wpAny_bind (W.item i s _ _ hlt hst fun v s' hP hst' hm=>?_)
  obtain ⟨a,e,vs,m,rfl,hes,ha,hv,his⟩:=hval i v hP
  have hkp':=kp hm hkp
  have hS':=dm hm hkp hxs hS
  have hdrop:es.drop i=e::es.drop (i+1):=by
   obtain ⟨h1,h2⟩:=ak hes
   rw [List.drop_eq_getElem_cons h1,h2]
  rw [hdrop] at hR
  show wpAny _ A.in1 (holding [Value.ref a] _ >>=_) _ _ s'
  refine wpAny_bind (wpAny_holding (wpAny_bind (wpAny_tryCatch (uv (hkp' a _ ha) ?_))))
  rw [hv]
  have hl:lim<=sizeLine:=by decide
  refine wpAny_holding (wpAny_dictSet_heap (show A.in1.units+6 < cLine by rw [Around.in1_units];lia) (vU hkp' his) hS' (fun h' hS2 hsb=>?_) (by lia -abstractProof))
  refine wpAny_pure ⟨plainId_quiet df _,?_⟩
  have e1:((i:Int)+1)=((i+1:Nat):Int):=rfl
  show codeAny _ A (.builtin "dict.update.loop" ⟨[.ref S,.ref I,rawInt ((i:Int)+1),.none],[]⟩) R _
  rw [e1]
  refine ih (i+1) _ (storedH xs e.1 e.2.1 e.2.2) (vi hk) hlt (le_trans (r9 _ _ _ _) (by lia -abstractProof)) ?_ hS2 (fun x hx=>uh (p:=fun H a=>(b7 prog w).is h₀ H a) hxs his hx) (fun b o e=>?_) fun s'' hm'' hS''=>?_
  .refine W.frame _ s' _ _ hst' (le_add_right _ _) fun b hb o e=>?_
   rw [hsb.2 b (fun h:b=S=>hSf (by rw [<-h];exact hb))];exact e
  .rw [hsb.2 b (fun h:b=S=>by rw [h,hS0] at e;cases e)];exact hkp' b o e
  .refine hR s'' (Moved.trans W.gtrans ((hm.mono hsub).then_heap (le_add_right _ _) fun b o hb e=>?_) hm'') hS''
   rw [hsb.2 b (fun h:b=S=>hb (by rw [h];exact mem_cons_self))];exact e
set_option maxRecDepth 100000 in
theorem gD {E:Value->Shared->Prop}{l:Addr}{items:Array Value}{m:Nat}{es:List jv}{Q:Value->Shared->Prop}(hu:A.units+100 < cLine)(hh:A.handled=none)(hl:s.heap.get? l=some {cls:=.type "list",dict:=none,data:=.seq items m,slots:=#[]})(hn:es.length=items.size)(hnl:items.size<=lim)
  (hval:∀(i:Nat) v,items[i]?=some v->IL prog w s.heap es[i]? v)
  (h:∀(h':Heap) (tk:Nat),h'.DictOfH (b7 prog w) s.heap.objs.size (ou es [])->(∀b o,s.heap.get? b=some o->h'.get? b=some o)->Q (.ref s.heap.objs.size) {s with heap:=h',toks:=tk}):
  wpAny (model prog w) A (call (.type "dict") [.ref l]) Q E s:=by
 refine callType_codes (Q₁:=fun obj s₁=>obj=.ref s.heap.objs.size/\s₁={s with heap:=s.heap.push {cls:=.type "dict",data:=.dict #[]}}) F.kt_called_dict (F.kt_typeCall_dict_1 _) F.entry_dict_init (kt_code_dict_new _ ⟨rfl,rfl⟩) ?_
 rintro obj s₁ ⟨rfl,rfl⟩
 have hnew:(s.heap.push {cls:=.type "dict",data:=.dict #[]}).DictOfH (b7 prog w) s.heap.objs.size []:=Heap.DictOfH.new s.heap
 have hl':(s.heap.push {cls:=.type "dict",data:=.dict #[]}).get? l=some {cls:=.type "list",dict:=none,data:=.seq items m,slots:=#[]}:=Heap.get?_push_of_some _ hl
 have hlT:Shared.TypeIs {s with heap:=s.heap.push {cls:=.type "dict",data:=.dict #[]}} (.ref l) "list":=⟨_,hl',rfl⟩
 refine ⟨hnew.typeIs,F.args_dict_init_2 _ _,?_⟩
 unfold Builtin.«dict.__init__»
 refine wpAny_bind ?_
 unfold Builtin.Dict.selfAndRest
 refine wpAny_bind (wpAny_notOrdered_dict hnew.typeIs ?_)
 show wpAny _ _ (pure (s.heap.objs.size,[Value.ref l])) _ _ _
 refine wpAny_pure ?_
 show wpAny _ _ (Builtin.Dict.updateFrom "dict.__init__" s.heap.objs.size (.ref l) [] .none) _ _ _
 unfold Builtin.Dict.updateFrom
 refine wpAny_bind (wpAny_typeOf hlT ?_)
 rw [if_pos (by decide)]
 refine wpAny_bind (xg hl' (by simp [hh]) fun h1 tk1 hk1=>?_)
 simp only [Option.isNone_none,if_true]
 refine wpAny_bind (wpAny_rule ?_)
 have hl1:h1.get? l=some {cls:=.type "list",dict:=none,data:=.seq items m,slots:=#[]}:=hk1 _ _ hl'
 have isl:Heap.IsList h1 l items:=⟨_,hl1,rfl,m,rfl⟩
 refine wpAny_bind (wpAny_pyIter_list isl ?_)
 refine wpAny_pure ⟨plainId_quiet df _,?_⟩
 have hlS:l < s.heap.objs.size:=Heap.lt_size hl
 have hD1:h1.get? s.heap.objs.size≠none:=by
  obtain ⟨o,_,_,e,_⟩:=hnew
  rw [hk1 _ _ e];exact fun q=>by cases q
 have hSs:s.heap.objs.size < h1.objs.size:=by
  cases e:h1.get? s.heap.objs.size with
  |none=>exact absurd e hD1
  |some o=>exact Heap.lt_size e
 have hS0:s.heap.get? s.heap.objs.size=none:=aN _
 have k1:∀b o,s.heap.get? b=some o->h1.get? b=some o:=fun b o e=>hk1 b o (Heap.get?_push_of_some _ e)
 have hI0:s.heap.get? h1.objs.size=none:=by
  cases q:s.heap.get? h1.objs.size with
  |none=>rfl
  |some o=>have:=k1 _ _ q;rw [aN] at this;cases this
 have hd1:h1.DictOfH (b7 prog w) s.heap.objs.size []:=by
  obtain ⟨o,es,ep,g1,g2,g3,g4,g5,g6⟩:=hnew
  exact ⟨o,es,ep,hk1 _ _ g1,g2,g3,g4,fun x hx=>(by cases hx),g6⟩
 refine xq (by show A.units+1+50 < cLine;lia) ((Walks.list (by simp [hh]) _ l (ne_of_lt (lt_trans hlS hSs)) items).toS) s.heap.objs.size ?_ s.heap es hn hnl hval hS0 (fun b hb=>by rw [aa hb];exact hI0) (items.size - 0) 0 _ [] (by lia -abstractProof) (zero_le _) (zero_le _) ?_ ?_ (fun x hx=>by cases hx) (fun b o e=>Heap.get?_push_of_some _ (k1 b o e)) fun s' hm hS'=>?_
 .simp only [mem_cons,not_mem_nil,or_false,not_or]
  exact ⟨ne_of_lt hSs,Nat.ne_of_gt hlS⟩
 .exact ⟨⟨_,Heap.get?_push_size _ rfl,rfl,rfl⟩,(isl.push _)⟩
 .obtain ⟨o,es,ep,g1,g2,g3,g4,g5,g6⟩:=hd1
  exact ⟨o,es,ep,Heap.get?_push_of_some _ g1,g2,g3,g4,fun x hx=>(by cases hx),g6⟩
 .obtain ⟨h',g',d',tk',os'⟩:=s'
  have eg:g'=s.gens:=hm.gens
  have ed:d'=s.drawn:=hm.drawn
  have eo:os'=s.os:=hm.os
  subst eg;subst ed;subst eo
  refine ⟨rfl,h h' tk' (by simpa using hS') fun b o e=>?_⟩
  refine hm.heap b o (fun hb=>?_) (Heap.get?_push_of_some _ (k1 b o e))
  rcases au hb with rfl |hb
  .rw [hS0] at e;cases e
  .rw [aa hb,hI0] at e;cases e
end
section
variable {P:Pg} {B:bG} {C:Ct} {g:Gh} {h:Heap}
theorem qy {xs:List jv}{H:Ky}{a:Addr}{v:Value}(nd:(xs.map (·.1)).Nodup):((storedH xs H a v).map (·.1)).Nodup:=by
 unfold storedH
 split
 .rw [keys_map_putAt];exact nd
 .rename_i hn
  rw [map_append,nodup_append]
  refine ⟨nd,by simp,fun x hx y hy e=>hn ?_⟩
  rw [List.map_singleton,mem_singleton] at hy
  subst hy;subst e
  rw [oP]
  cases q:q8 (xs.map (·.1)) x with
  |none=>
   have:=List.findIdx?_eq_none_iff.mp q x hx
   rw [decide_eq_true rfl] at this;cases this
  |some i=>
   have:=vP q
   rw [getElem?_map] at this
   cases hx':xs[i]? with
   |none=>rw [hx'] at this;cases this
   |some z=>rw [bind_some,hx'];rfl
theorem Bo {α:Type}{i:Option Nat}{k v:α}{ks vs:List α}:(nG i k v ks vs).1.length<=ks.length+1:=by
 cases i with
 |none=>rw [nG,List.length_append];exact le_refl _
 |some j=>exact le_succ _
structure EF (P:Pg) (g:Gh) (h:Heap) (nv:Nat) (xs:List Value) (nk:Nat) (zs:List jv) (p:List T×List T) (es:List jv):Prop where
 len:es.length=nv
 at_:∀(i:Nat) v,xs[i]?=some v->IL P.prog P.w h es[i]? v
 ky:fW p.1=some ((ou es zs).map (·.1))
 rk:aZ P g h p.1 ((ou es zs).map fun y=>Value.ref y.2.1)
 rv:aZ P g h p.2 ((ou es zs).map (·.2.2))
 le:p.1.length<=nk+nv
theorem qk:∀(vs:List T) (xs:List Value) (ks ws:List T) (zs:List jv) (p:List T×List T),aZ P g h vs xs->oq vs ks ws=some p->fW ks=some (zs.map (·.1))->(zs.map (·.1)).Nodup->aZ P g h ks (zs.map fun y=>Value.ref y.2.1)->aZ P g h ws (zs.map (·.2.2))->
  ∃es:List jv,EF P g h vs.length xs ks.length zs p es
 | [],xs,ks,ws,zs,p,r,e,hk,nd,rk,rw'=>by
  cases r;cases e
  exact ⟨[],rfl,fun i v q=>(by cases q),hk,rk,rw',le_refl _⟩
 |x::vs,_,ks,ws,zs,p,⟨v0,xs,e0,q,r⟩,e,hk,nd,rk,rw'=>by
  subst e0
  obtain ⟨ps,e1,e2⟩:=aB (show o1 (oQ x) _=some p from e)
  cases jn e1
  match ps,e2,q with
  | [k,v],e2,q=>
   obtain ⟨i,hd,e3⟩:=aB (show o1 (kU ks k) _=some p from e2)
   obtain ⟨H,hky⟩:=lG hd
   obtain ⟨t,rfl,_,us,m,g1,_,u1,l1,hus,q1,u2,l2,e4,q2,e5⟩:=q
   cases e5;subst e4
   obtain ⟨ad,rfl,his,_⟩:=n7 hky (.inl q1)
   obtain ⟨p1,p2,p3⟩:=lS (v:=v) (z:=u2) hk nd hd hky rk rw' q1 q2
   obtain ⟨es,h1,h2,h3,h4,h5,h6⟩:=qk vs _ _ _ (storedH zs H ad u2) p r e3 p1 (qy nd) p2 p3
   refine ⟨(H,ad,u2)::es,congrArg (·+1) h1,fun j w hw=>?_,h3,h4,h5,?_⟩
   .cases j with
    |zero=>cases hw;exact ⟨t,_,us,m,rfl,rfl,g1,hus,his⟩
    |succ j=>exact h2 j w hw
   .rw [length_cons,add_comm vs.length,<-add_assoc];exact le_trans h6 (add_le_add_right Bo _)
theorem aq.dictOf {e:Expr}{p:PE}{np pos:Pos}(hx:B.sc.names.lookup (ofString "dict")=some .globalImplicit)(hn:∀env,starEach [e] env=[(false,eval e env)])(h:aq P B C e p (RX P)):aq P B C (.Call (.Name (ofString "dict") np) [e] [] pos) (p1 tf p) (RN P):=fun n A env g V J s k Q E X hb hq=>
 aq.b1 HC (fun A env g J s x t y Q E rm w q e hq=>by
  obtain ⟨xs,e1,e2⟩:=aB e
  obtain ⟨p,e3,e4⟩:=aB e2
  cases e4
  obtain ⟨l,rfl,vs,n,a1,a3,a2⟩:=q.ls e1
  obtain ⟨es,h1,h2,h3,h4,h5,h6⟩:=qk xs vs.toList [] [] [] p a2 e3 rfl .nil rfl rfl
  have hz:=a2.size
  have hsn:=qA X.good w
  refine gD (es:=es) (lt_of_le_of_lt (add_le_add_left (by decide) _) rm.units) rm.handled a1 (by rw [h1];exact hz.symm) (by rw [hz];exact a3) (fun i v hv=>h2 i v (by rw [Array.getElem?_toList];exact hv)) fun h' tk dd hk=>?_
  obtain ⟨n1,n2,n3⟩:=dM w
  have pa:aJ g s g {s with heap:=h',toks:=tk}:=.grow tk hk g.F (fun _ f=>f) fun _ f=>.inl f
  exact hq _ _ g pa (w.grow hk g.F (fun _ f=>f) fun _ f=>.inl f) ⟨_,rfl,aN _,n1,n2,n3,Hc.back hsn dd h3 (h4.mono (pa.k w)) (h5.mono (pa.k w)) (le_trans h6 (le_trans (le_of_eq (zero_add _)) a3))⟩)
  (fun _ q=>by cases q) hx (by decide) (by decide) (by decide) hn h n A env g V J s k Q E X hb hq
end
end
end Mine
namespace Mine
noncomputable section
open PySem PySem.W PyProof.Rows
structure IK (h:Heap) (mg:Str->Option Value) (nm:Str) (sc:Scope) (bd:List Stmt) (ps:List Str) (a:Addr) (fd:FuncData):Prop where
 ns:mg nm=some (.ref a)
 obj:∃o,h.get? a=some o/\o.data=.func fd
 code:h.CodeRec fd.code fd.qualname
 name:fd.name=nm
 sc:fd.scope=sc
 bd:fd.body=.stmts bd
 cl:fd.closure=[]
 gl:fd.globals=mainGlobals
 bt:fd.builtins=builtinsNs
 bind:∀vals:List Value,vals.length=ps.length->bindArgs fd ⟨vals,[]⟩=pure (ps.zip vals)
def v6 (q:Program)(nm:Str):Option (Scope×List Stmt×Arguments):=((recsOf q).find? fun d=>d.name==nm).map fun d=>(d.scope,d.body,d.params)
theorem Cp {q:Program}{loose:List Str}{mean:ExcName->Option Value}{mg mb:Str->Option Value}{h:Heap}(T:Top q loose mean mg mb h){nm:Str}{sc:Scope}{bd:List Stmt}{pa:Arguments}(ps:List Str)(hr:v6 q nm=some (sc,bd,pa))
  (hb:∀(pm cd doc:Value) (vals:List Value),vals.length=ps.length->bindArgs (Calls.docDef nm pa bd sc pm cd doc) ⟨vals,[]⟩=pure (ps.zip vals)):∃a fd,IK h mg nm sc bd ps a fd:=by
 unfold v6 at hr
 obtain ⟨d,hd,e⟩:=av hr
 have hn:d.name=nm:=beq_iff_eq.mp (find?_some (p:=fun d:DefRec=>d.name==nm) hd)
 obtain ⟨a,o,pm,cd,doc,h1,h2,h3,h4⟩:=T.fn d (List.mem_of_find?_eq_some hd)
 simp only [Prod.mk.injEq] at e
 obtain ⟨rfl,rfl,rfl⟩:=e
 subst hn
 exact ⟨a,_,h1,⟨o,h2,h3⟩,h4,rfl,rfl,rfl,rfl,rfl,rfl,hb pm cd doc⟩
def vZ (q:Program)(loose:List Str)(x:Str):Bool:=!startupNames.contains x&&!loose.contains x&&!((recsOf q).map (·.name)).contains x&&!((litsOf q).map (·.1)).contains x&&!((clssOf q loose).map (·.name)).contains x
theorem Cl {q:Program}{loose:List Str}{mean:ExcName->Option Value}{mg mb:Str->Option Value}{h:Heap}(T:Top q loose mean mg mb h){x:Str}(hx:vZ q loose x=true):mg x=none:=by
 simp only [vZ,and_eq_true,not_eq_true',List.contains_eq_mem,decide_eq_false_iff_not] at hx
 obtain ⟨⟨⟨⟨h1,h2⟩,h3⟩,h4⟩,h5⟩:=hx
 exact T.free x h1 h2 h3 h4 h5
theorem zU {c:ClaimW}{cl:Str->Option Addr}{mean:ExcName->Option Value}{args:List WData}{s₁:Shared}{h:Heap}{tk:Nat}(hr:∀cls,c.raises args cls=false)(hp:c.post args (.bool true) args=true)(hb:AllBare s₁.gens)
  (hk:∀a o,s₁.heap.get? a=some o->h.get? a=some o):GoodWG c cl mean args s₁ (.ok (.ret (.bool true))) {s₁ with heap:=h,toks:=tk}:=
 ⟨.inl ⟨_,_,[],rfl,hr,ReadsW.bool true,hp,fun _=>⟨List.nodup_nil,fun _ hm=>(nomatch hm)⟩⟩,.of_keep hk,rfl,hb⟩
theorem Ea {Z:Nat->Option gE}{p:Nat->Addr->FuncData->Prop}(h:∀f F,Z f=some F->∃a d,p f a d){f0:Nat}{F0:gE}(h₀:Z f0=some F0):∃(A:Nat->Addr) (D:Nat->FuncData),∀f F,Z f=some F->p f (A f) (D f):=by
 obtain ⟨a0,d0,_⟩:=h f0 F0 h₀
 have h':∀f,∃x:Addr×FuncData,∀F,Z f=some F->p f x.1 x.2:=fun f=>by
  cases e:Z f with
  |none=>exact ⟨(a0,d0),fun F q=>by cases q⟩
  |some F=>
   obtain ⟨a,d,k⟩:=h f F e
   exact ⟨(a,d),fun _ _=>k⟩
 exact ⟨fun f=>(Classical.choose (h' f)).1,fun f=>(Classical.choose (h' f)).2,fun f=>Classical.choose_spec (h' f)⟩
noncomputable def JG (mg:Str->Option Value)(x:Str):Addr:=match mg x with
 |some (.ref a)=>a
 |_=>0
structure oY (h:Heap) (mg mN:Str->Option Value) (gl:Bool) (nm:Str) (sc:Scope) (bd:List Stmt) (ps:List Str) (a:Addr) (fd:FuncData):Prop where
 ns:gl=true->mg nm=some (.ref a)
 me:gl=false->mN nm=some (.ref a)
 obj:∃o,h.get? a=some o/\o.data=.func fd/\(gl=false->o.cls=.type "function")
 code:h.CodeRec fd.code fd.qualname
 name:fd.name=nm
 sc:fd.scope=sc
 bd:fd.body=.stmts bd
 cl:fd.closure=[]
 gs:fd.globals=mainGlobals
 bt:fd.builtins=builtinsNs
 bind:∀vals:List Value,vals.length=ps.length->bindArgs fd ⟨vals,[]⟩=pure (ps.zip vals)
theorem oY.asMeth {h:Heap}{mg mN:Str->Option Value}{gl:Bool}{nm:Str}{sc:Scope}{bd:List Stmt}{ps:List Str}{a:Addr}{fd:FuncData}(x:oY h mg mN gl nm sc bd ps a fd)(hg:gl=false):(∃o,h.get? a=some o/\o.cls=.type "function")/\mN nm=some (.ref a):=by
 obtain ⟨o,h1,_,h3⟩:=x.obj
 exact ⟨⟨o,h1,h3 hg⟩,x.me hg⟩
theorem Cq {q:Program}{loose:List Str}{mean:ExcName->Option Value}{mg mb mN:Str->Option Value}{h:Heap}(T:Top q loose mean mg mb h){nm:Str}{sc:Scope}{bd:List Stmt}{pa:Arguments}(ps:List Str)(hr:v6 q nm=some (sc,bd,pa))
  (hb:∀(pm cd doc:Value) (vals:List Value),vals.length=ps.length->bindArgs (Calls.docDef nm pa bd sc pm cd doc) ⟨vals,[]⟩=pure (ps.zip vals)):∃a fd,oY h mg mN true nm sc bd ps a fd:=by
 obtain ⟨a,fd,x⟩:=Cp T ps hr hb
 obtain ⟨o,h1,h2⟩:=x.obj
 exact ⟨a,fd,(fun _=>x.ns),(fun e=>nomatch e),⟨o,h1,h2,(fun e=>nomatch e)⟩,x.code,x.name,x.sc,x.bd,x.cl,x.gl,x.bt,x.bind⟩
def oA (q:Program)(loose:List Str)(x:Str):Option ClsRec:=(plainsOf q loose).find? fun c=>c.name==x
noncomputable def zh (c:ClsRec)(nm:Str):Option (Scope×List Stmt×Arguments):=(c.meths.find? fun m=>m.name==nm).map fun m=>(m.scope,m.body,m.params)
theorem BE {h:Heap}{c:ClsRec}{C N:Addr}{mg mN:Str->Option Value}(A:PlainAt h c.withCmp C N mN){nm:Str}{sc:Scope}{bd:List Stmt}{pa:Arguments}(ps:List Str)(hr:zh c nm=some (sc,bd,pa))
  (hb:∀(qual:Str) (pm cd doc:Value) (vals:List Value),vals.length=ps.length->bindArgs (methDef nm qual pa bd sc pm cd doc) ⟨vals,[]⟩=pure (ps.zip vals)):∃a fd,oY h mg mN false nm sc bd ps a fd:=by
 unfold zh at hr
 obtain ⟨m,hm,e⟩:=av hr
 have hn:m.name=nm:=beq_iff_eq.mp (find?_some (p:=fun m:MethRec=>m.name==nm) hm)
 obtain ⟨f,o,pm,cd,doc,h1,h2,h3,h4,h5⟩:=A.meths m (List.mem_of_find?_eq_some hm)
 simp only [Prod.mk.injEq] at e
 obtain ⟨rfl,rfl,rfl⟩:=e
 subst hn
 exact ⟨f,_,(fun e=>by cases e),(fun _=>h1),⟨o,h2,h4,fun _=>h3⟩,h5,rfl,rfl,rfl,rfl,rfl,rfl,hb _ pm cd doc⟩
theorem E2 {q:Program}{loose:List Str}{mg:Str->Option Value}{h:Heap}{x:Str}(T:TopE q loose mg h)(hx:(oA q loose x).isSome=true):∃c C N mN,oA q loose x=some c/\mg x=some (.ref C)/\PlainAt h c.withCmp C N mN:=by
 obtain ⟨c,hc⟩:=aE hx
 have hn:c.name=x:=beq_iff_eq.mp (find?_some (p:=fun c:ClsRec=>c.name==x) hc)
 obtain ⟨C,N,mN,h1,h2⟩:=T c (List.mem_of_find?_eq_some hc)
 exact ⟨c,C,N,mN,hc,hn▸h1,h2⟩
theorem wZ {P:Pg}{c:ClsRec}{C N:Addr}{mN:Str->Option Value}{k:Nat}{ms:List (Str×Nat)}(A:PlainAt P.h₀ c.withCmp C N mN)(hC:P.cls k=C)(ha:(cD k).all (c.statics.contains ·)=true)(ho:∀x∈cD k,typeLookup (.type "object") x=pure none)
  (hm:∀p∈ms,(∃o,P.h₀.get? (P.fnA p.2)=some o/\o.cls=.type "function")/\mN p.1=some (.ref (P.fnA p.2)))(hy:∀p∈ms,∃y,typeLookup (.type "object") p.1=pure y):bH P k ms:=
 ⟨N,mN,hC▸A.cls,A.quiet _ (mem_append_left _ (.tail _ (.head _))),A.quiet _ (mem_append_left _ (.tail _ (.tail _ (.head _)))),A.quiet _ (mem_append_left _ (.head _)),fun x hx=>⟨A.quiet _ (mem_append_right _ (mem_append_left _ (List.contains_iff_mem.mp (aA ha x hx)))),ho x hx⟩,fun p hp=>⟨(hm p hp).2,hy p hp,(hm p hp).1⟩⟩
theorem Ch {q:Program}{loose:List Str}{mean:ExcName->Option Value}{P:Pg}(T:Top q loose mean P.mg P.mb P.h₀)(hn:jk.all (vZ q loose)=true)
  (hf:∀f F,P.Ψ f=some F->∃mN nm sc bd ps,oY P.h₀ P.mg mN (P.gl f) nm sc bd ps (P.fnA f) (P.fd f)):t7 P where
 g:=T.g
 b:=T.b
 nolimit:=T.nolimit
 fn:=fun f F h=>by
  obtain ⟨mN,nm,sc,bd,ps,x⟩:=hf f F h
  obtain ⟨o,e,d,_⟩:=x.obj
  exact ⟨o,e,d,fun g=>by rw [x.name];exact x.ns g,x.code,x.cl,x.gs,x.bt⟩
 blt:=fun x hx=>⟨Cl T (aA hn x hx),T.builtins x fun q=>by rw [q] at hx;revert hx;decide⟩
def HB (sc:Scope)(tab:List (Option (Str×NameKind)))(ps:List Str)(U:List Nat)(np:Nat):Bool:=
 bG.ok ⟨sc,tab⟩&&((List.range ps.length).all (fun i=>match ps[i]?,tab[i]? with
  |some x,some (some (y,k))=>x==y&&(k==.local||k==.cell)
  |_,_=>false)&&(tab.all (fun e=>match e with |some (_,k)=>!(k==.free) |none=>true)&&(decide (((cellsFrom 0 sc.names []).map (·.1)).Nodup)&&(!sc.isCoroutine&&(!sc.isGenerator&&(Nat.beq ps.length np&&U.all (Nat.ble np)))))))
theorem zY {P:Pg}{f np:Nat}{mN:Str->Option Value}{gl:Bool}{nm:Str}{sc:Scope}{bd:List Stmt}{ps:List Str}{tab:List (Option (Str×NameKind))}{U:List Nat}(x:oY P.h₀ P.mg mN gl nm sc bd ps (P.fnA f) (P.fd f))(h:HB sc tab ps U np=true):Hb P f np tab ps bd U:=by
 obtain ⟨h1,h⟩:=aj h
 obtain ⟨h2,h⟩:=aj h
 obtain ⟨h3,h⟩:=aj h
 obtain ⟨h4,h⟩:=aj h
 obtain ⟨h5,h⟩:=aj h
 obtain ⟨h6,h⟩:=aj h
 obtain ⟨h7,h8⟩:=aj h
 have h7:=eq_of_beq_eq_true h7
 have hs:=x.sc
 refine ⟨x.bd,hs▸h1,h7,fun i y hy=>?_,fun i y ht=>?_,fun vals hv=>x.bind vals (by rw [h7];exact hv),hs▸of_decide_eq_true h4,⟨hs▸(not_eq_true' _).mp h5,hs▸(not_eq_true' _).mp h6⟩,fun i hi=>le_of_ble_eq_true (aA h8 i hi)⟩
 .have:=aA h2 i (bJ (ak hy).1)
  rw [hy] at this
  cases ht:tab[i]? with
  |none=>rw [ht] at this;cases this
  |some e=>
   rw [ht] at this
   cases e with
   |none=>cases this
   |some p=>
    obtain ⟨z,k⟩:=p
    simp only [and_eq_true,or_eq_true,beq_iff_eq] at this
    obtain ⟨rfl,hk⟩:=this
    exact ⟨k,rfl,hk⟩
 .have:=aA h3 _ (mem_of_getElem? ht)
  cases this
theorem Co {P:Pg}{f:Nat}{F:gE}{mN:Str->Option Value}{gl:Bool}{nm:Str}{sc:Scope}{bd:List Stmt}{ps:List Str}{tab:List (Option (Str×NameKind))}{U:List Nat}{C':Ct}(x:oY P.h₀ P.mg mN gl nm sc bd ps (P.fnA f) (P.fd f))(h:HB sc tab ps U F.np=true)(tu:(!A3 f||(yg ⟨sc,tab⟩&&!iN f))=true)(sim:fu P ⟨sc,tab⟩ ⟨[],U,rR f⟩ (iN f) C' bd F.body):xM P f F:=
 ⟨tab,ps,bd,U,C',zY x h,fun q=>by rw [x.sc];rw [q] at tu;exact let ⟨a,b⟩:=aj tu;⟨a,by cases e:iN f with |false=>rfl |true=>rw [e] at b;cases b⟩,by rw [x.sc];exact sim⟩
theorem iC {q:Program}{loose:List Str}{mean:ExcName->Option Value}{mg mb:Str->Option Value}{h:Heap}{x:Str}{n:Int}{P:Pg}(T:Top q loose mean mg mb h)(hs:valOf q x=some (.int n)):∃u,mg x=some u/\∀g h,Rp P g h (.int n) u:=by
 obtain ⟨v,h1,h2⟩:=T.const x _ hs
 refine ⟨v,h1,fun g h=>?_⟩
 cases h2 h
 exact ⟨_,rfl⟩
theorem xt {q:Program}{loose:List Str}{mean:ExcName->Option Value}{mg mb:Str->Option Value}{h:Heap}{x:Str}{n:Str}{P:Pg}(T:Top q loose mean mg mb h)(hs:valOf q x=some (.str n))(hn:n.length<=lim/\PyData.strOk n=true):∃u,mg x=some u/\∀g h,Rp P g h (.str n) u:=by
 obtain ⟨v,h1,h2⟩:=T.const x _ hs
 refine ⟨v,h1,fun g h=>?_⟩
 cases h2 h
 exact ⟨⟨hn.2,hn.1⟩,_,rfl⟩
theorem zN:∀{vs:List Value} {ns:List Int},IntsAre vs ns->qp ns vs
 |_,_,.nil=>rfl
 |_,_,.cons n t r=>⟨t,_,rfl,zN r⟩
noncomputable abbrev g0 (h:Heap):Gh:=⟨fun a=>h.get? a≠none,fun _=>False,fun _=>none,0,0⟩
noncomputable abbrev g1 (h:Heap)(a:Addr):Gh:=⟨fun a=>h.get? a≠none,fun b=>b=a,fun _=>none,a,0⟩
theorem DY {P:Pg}{h he:Heap}{s0:Int}{tk:Nat}(hs:P.h₀=h)(keep:∀a o,h.get? a=some o->he.get? a=some o)(w2:∀a o,he.get? a=some o->(he.push (bA #[.int s0 tk] 0)).get? a=some o):bC P (g1 h he.objs.size) (he.push (bA #[.int s0 tk] 0)) ⟨s0,none⟩:=
 have bk:=cJ keep
 have pS:=bF (h:=he) (bA #[.int s0 tk] 0)
 ⟨fun a o e=>have e:h.get? a=some o:=hs▸e;⟨ar e,w2 a o (keep a o e)⟩,fun a f e=>f (bk a (cJ w2 a e)),fun a z=>by rw [show a=_ from z];exact ⟨ar pS,fun f=>f (bk _ (aN _))⟩,(fun a q=>let ⟨_,q⟩:=q;nomatch q),(fun _ _ _ q=>nomatch q),⟨⟨tk,0,pS⟩,rfl,fun _ _ z=>z⟩,fun _ _ q=>nomatch q⟩
theorem DZ {P:Pg}{B:bG}{U:List Nat}{env:Env}{h he hh:Heap}{ns:List Int}{m:Nat}(w2:∀a o,he.get? a=some o->hh.get? a=some o)(E1:cB P B ⟨[],U,false⟩ env (g0 h) (frame [.scr ns] m) he):cB P B ⟨[],U,false⟩ env (g1 h he.objs.size) (frame [.scr ns] m) hh:=
 {E1 with
  ns:=let ⟨m,n⟩:=E1.ns;⟨m,n.at (w2 _)⟩
  cell:=fun i y k ht hk=>let ⟨c,u,h1,o,e,d⟩:=E1.cell i y k ht hk;⟨c,u,h1,o,w2 _ _ e,d⟩
  own:=fun a ha=>⟨fun e=>(E1.own a ha).1 (cJ w2 a e),(E1.own a ha).2.1,fun z=>(E1.own a ha).1 (by rw [show a=_ from z];exact aN _),fun ⟨_,q⟩=>nomatch q⟩
  var:=fun i y t ht hv=>by
   obtain ⟨u,v,q⟩:=E1.var i y t ht hv
   refine ⟨u,v.move fun a _=>w2 a,?_⟩
   cases i with
   |zero=>cases iA hv;exact .inl (q.elim (fun r=>r) fun r=>nomatch r.1)
   |succ i=>cases iA hv}
def Db (Q:Value->Shared->Prop)(r:Result)(s':Shared):Prop:=match r with |.ok (.ret v)=>Q v s' |_=>False
theorem yM {Q:Value->Shared->Prop}:∀{r:Result} {s':Shared},Db Q r s'->match r with |.ok (.ret x)=>Q x s' |.ok _=>False |.error _=>False
 |.ok (.ret _),_,q=>q
 |.ok .next,_,q=>q
 |.ok .brk,_,q=>q
 |.ok .cont,_,q=>q
 |.error _,_,q=>q
theorem zz {P:Pg}(G:t7 P)(hF:∀f F,P.Ψ f=some F->xM P f F){A:Around}{n L m:Nat}{F:gE}{tab:List (Option (Str×NameKind))}{ps:List Str}{bd:List Stmt}{U:List Nat}{C':Ct}{y:Str}{k:NameKind}{s0:Int}{kk:Nat}{q1 q2 q3 q4:Pos}{p:PS}{l:Addr}{vs:List Value}{ns:List Int}{J:Sg}{s:Shared}
  (hL:P.Ψ L=some F)(K:Hb P L 1 tab ps (.Assign [.Name y q1] (.List [.Constant (.int s0) kk q2] q3) q4::bd) U)(ht:tab[1]?=some (some (y,k)))(hk:k=.local\/k=.cell)(hw:r7 (.List [.Constant (.int s0) kk q2] q3) y q1 q4.line (P.fd L).scope=false)(hc:bO ⟨[],U,false⟩ 1 false ⟨[],U,false⟩=true)(sim:fu P ⟨(P.fd L).scope,tab⟩ ⟨[],U,false⟩ false C' bd p)
  (hs:P.h₀=s.heap)(room:oW A (n+1))(hl:s.heap.IsList l vs.toArray)(hi:IntsAre vs ns)(hn:ns.length<=63)(hp:p (P.cx n) (frame [.scr ns,.spot] m) ⟨s0,none⟩ (fun _ J=>.ret .none J)=.ret (.bool true) J):
  wpAny P.M A (PySem.call (.ref (P.fnA L)) [.ref l]) (fun v s'=>v=.bool true/\∃h' tk,s'={s with heap:=h',toks:=tk}/\∀a o,s.heap.get? a=some o->h'.get? a=some o) (fun _ _=>False) s:=by
 have hlen:=hi.length
 refine wpAny_call (codeAny_mono (R:=Db fun v s'=>v=.bool true/\∃h' tk,s'={s with heap:=h',toks:=tk}/\∀a o,s.heap.get? a=some o->h'.get? a=some o) (Dt (ns:=m+1) (m:=false) (g:=g0 s.heap) (ts:=[.scr ns]) G hL K (lt_of_le_of_lt (le_trans (le_add_right _ _) (le_add_right _ _)) room.1) (fun a o e=>hs▸e) (fun _ h=>h) (fun _ h=>h.elim)
  (show aZ P (g0 s.heap) s.heap [.scr ns] [.ref l] from ⟨_,_,rfl,⟨l,_,rfl,by rw [hs];exact hl,by rw [size_toArray];have:lim=1000000:=rfl;lia -abstractProof,zN hi⟩,rfl⟩) rfl fun s₁ env E' same keep hW E1=>?_) fun r s' q=>?_)
 .refine wpAny_execs_cons (wpAny_Assign_Name (wpAny_List (wpAny_items_cons (wpAny_Constant_int (wpAny_items_nil ⟨(show 1<=sizeLine by decide),?_⟩)) rfl)) (by rw [gN E1.sc,hw]))
  have w2:∀a o,s₁.heap.get? a=some o->(s₁.heap.push (bA #[.int s0 s₁.toks] 0)).get? a=some o:=cq s₁ _
  have X:At P ⟨(P.fd L).scope,tab⟩ ⟨[],U,false⟩ n (A.deeper env) env _ (frame [.scr ns] (m+1)) ⟨s0,none⟩ {s₁ with heap:=s₁.heap.push (bA #[.int s0 s₁.toks] 0),toks:=s₁.toks+1}:=⟨G,uV G hF n,room.deeper _,DZ w2 E1,DY hs keep w2⟩
  refine iu (t:=.spot) X hc ht hk rfl fun s3 p3 X3=>sim n _ _ _ (frame [.scr ns,.spot] m) ⟨s0,none⟩ s3 (fun _ J=>.ret .none J) _ _ X3 (by rw [hp];exact fun q=>by cases q) (fun s' g' j' J' e p X'=>?_) fun x s' g' t J' e p w' r'=>?_
  .rw [hp] at e;cases e
  .rw [hp] at e;cases e
   obtain ⟨hj,t4,e4⟩:=St.trans (St.trans same p3.st) p.st
   exact ⟨r'.1,hj,t4,e4,fun a o e=>by have:=(w'.base a o (hs▸e)).2;rw [e4] at this;exact this⟩
 .exact yM q
end
end Mine
namespace Mine
noncomputable section
open PySem PyProof.Rows PySem.SeqAt
section
variable {P:Pg} {B Bc:bG} {C Ci:Ct} {fr:Bool} {c i:Nat} {y name:Str} {k:NameKind} {np apos cpos pos p:Pos} {e:Expr} {pe:PE} {ms:List (Str×Nat)}
theorem bindL (hc:bO C i false Ci=true)(ht:Bc.tab[i]?=some (some (y,.local))):kR P (xJ P Bc C Ci (.Name y p) (ba i) (lg none)):=kR.one hc ht (.inl rfl)
theorem bindC (hc:bO C i false Ci=true)(ht:Bc.tab[i]?=some (some (y,.cell))):kR P (xJ P Bc C Ci (.Name y p) (ba i) (lg (some y))):=kR.one hc ht (.inr rfl)
theorem aR.app (hv:bi C i=true)(ht:B.tab[i]?=some (some (y,k)))(hline:(apos.endLine==cpos.line)=true)(hbase:∀env,attributeBase (.Name y np) (ofString "append") env (eval (.Name y np) env)=eval (.Name y np) env)(htrees:∀env,backTo cpos (starEach [e] env)=[(false,eval e env)])
  (hw:∀env,swapsWith (.Call (.Attribute (.Name y np) (ofString "append") apos) [e] [] cpos) none pos.line env=pure false)(h:aq P B C e pe (RV P)):aR P B C fr C (.Expr (.Call (.Attribute (.Name y np) (ofString "append") apos) [e] [] cpos) pos) (iI i dL pe):=
 aR.mut (R:=RV P) j7 hv ht (fun _ _ _ _ _ r=>r) iD hbase hline htrees hw h
theorem aR.ext (hv:bi C i=true)(ht:B.tab[i]?=some (some (y,k)))(hline:(apos.endLine==cpos.line)=true)(hbase:∀env,attributeBase (.Name y np) (ofString "extend") env (eval (.Name y np) env)=eval (.Name y np) env)(htrees:∀env,backTo cpos (starEach [e] env)=[(false,eval e env)])
  (hw:∀env,swapsWith (.Call (.Attribute (.Name y np) (ofString "extend") apos) [e] [] cpos) none pos.line env=pure false)(h:aq P B C e pe (RX P)):aR P B C fr C (.Expr (.Call (.Attribute (.Name y np) (ofString "extend") apos) [e] [] cpos) pos) (iI i iO pe):=
 aR.mut (R:=RX P) zT hv ht (fun _ _ _ _ _ r=>r) xo hbase hline htrees hw h
theorem aq.lenF (O:bH P c ms)(hn:(cD c)[i]?=some name)(ht:B.tab[0]?=some (some (y,k)))(hx:B.sc.names.lookup (ofString "len")=some .globalImplicit)(hn':∀env,starEach [.Attribute (.Name y np) name apos] env=[(false,eval (.Attribute (.Name y np) name apos) env)]):aq P B C (.Call (.Name (ofString "len") p) [.Attribute (.Name y np) name apos] [] pos) (p1 br (qM c i)) (RV P):=
 aq.b1Y mD zo (fun _ q=>by cases q) hx (by decide) (by decide) (by decide) hn' (aq.fld O hn ht)
end
section
variable {P:Pg} {B:bG} {C C':Ct} {fr:Bool} {n i j:Nat} {A:Around} {env:Env} {g g':Gh} {V:aP} {J:Sg} {s s':Shared} {h h':Heap} {y y':Str} {k k':NameKind} {np apos cpos pos:Pos}
theorem zS:AX .list (ofString "pop") "list.pop":=⟨F.slot_list_pop,F.type_list_pop⟩
inductive IJ (P:Pg) (g:Gh) (h:Heap) (xs:List T) (vs:Array Value) (t:T):Prop
 |mk (u:Value) (e:vs[vs.size - 1]?=some u) (r:Rp P g h t u) (rs:aZ P g h xs.dropLast (vs.eraseIdxIfInBounds (vs.size - 1)).toList) (l:xs.dropLast.length<=xs.length)
theorem wT {xs:List T}{vs:Array Value}{t:T}(r:aZ P g h xs vs.toList)(e:xs.getLast?=some t):IJ P g h xs vs t:=by
 have hz:=r.size
 rw [List.getLast?_eq_getElem?,<-hz] at e
 obtain ⟨u,hu,q⟩:=r.get e
 rw [Array.getElem?_toList] at hu
 have h1:vs.size - 1 < vs.size:=Nat.lt_of_lt_of_eq (ak e).1 hz.symm
 refine ⟨u,hu,q,?_,by rw [List.length_dropLast];lia⟩
 have e1:vs.eraseIdxIfInBounds (vs.size - 1)=vs.eraseIdx (vs.size - 1) h1:=by rw [Array.eraseIdxIfInBounds,dif_pos h1]
 rw [e1,Array.toList_eraseIdx,List.eraseIdx_eq_take_drop_succ,List.dropLast_eq_take,hz,List.drop_of_length_le (by rw [Array.length_toList,hz];exact Nat.le_succ_of_pred_le (le_refl _)),append_nil]
 exact r.take _
theorem aR.pop {zs:List iH}{kt:Nat}{pt:Pos}(hz:Df B C zs=true)(hv:bi C j=true)(ht:B.tab[j]?=some (some (y,k)))(hs:∀env,swapsWithSole [.Tuple (zs.map iH.e) kt pt] (.Call (.Attribute (.Name y np) (ofString "pop") apos) [] [] cpos) pos.line env=pure false)(hw:∀env,swappedStores [.Tuple (zs.map iH.e) kt pt] (.Call (.Attribute (.Name y np) (ofString "pop") apos) [] [] cpos) env=pure none)
  (hbase:∀env,attributeBase (.Name y np) (ofString "pop") env (eval (.Name y np) env)=eval (.Name y np) env)(hline:(apos.endLine==cpos.line)=true):aR P B C fr C (.Assign [.Tuple (zs.map iH.e) kt pt] (.Call (.Attribute (.Name y np) (ofString "pop") apos) [] [] cpos) pos) (yQ j (zs.map (·.i))):=fun n A env g V J s kk Q E X hb hq hr=>by
 obtain ⟨ρ',e⟩:=ch hb
 obtain ⟨x,e0,e1⟩:=aB e
 obtain ⟨xs,e2,e3⟩:=aB e1
 obtain ⟨t,e4,e5⟩:=aB e3
 obtain ⟨ts,e6,e7⟩:=aB e5
 cases fq e2
 cases jn e6
 obtain ⟨u,va,q⟩:=X.env.var j _ _ ht e0
 unfold bE at q
 rw [hv] at q
 obtain ⟨a,rfl,oi,vs,m,a1,a3,a2⟩:=q
 obtain ⟨u,hu,ru,rs,l⟩:=wT a2 e4
 refine Assign_Tuple (wpAny_Call_method0_late (hbase env) hline (bc X ht va ⟨_,_,MK.plain .list,zS.slot,zS.ty,⟨_,a1,rfl⟩,fun b e=>⟨_,Value.ref.inj e▸a1,rfl⟩,PySem.P.pop_list a1 hu ?_ (bj (by rw [a2.size];exact a3))⟩)) (hs env) (hw env)
 obtain ⟨pS,X'⟩:=jW (y:=.lst xs.dropLast) X hv (by rw [e0];exact fun q=>by cases q) oi va (Heap.SameBut.update s.heap a (Obj.mapSeq fun v=>v.eraseIdxIfInBounds (vs.size - 1))).2 (fun kf=>⟨_,_,IsL.update a1 (fun v=>v.eraseIdxIfInBounds (vs.size - 1)),le_trans l a3,rs.mono kf⟩) s.toks
 have kf:aQ g s.heap g (s.heap.update a (Obj.mapSeq fun v=>v.eraseIdxIfInBounds (vs.size - 1))):=pS.k X.g fun b hb=>(X.env.own b hb).2.1
 obtain ⟨b,rfl,f,us,m',b1,_,rb⟩:=Rp.mono kf ru
 exact jm hz e7 X' b1 rb fun s' p' X''=>hq s' g ρ' J (by unfold yQ;rw [e];rfl) (pS.trans p'.toS) X''
theorem aR.pop0 {px cp:Pos}{kk:Nat}(hv:bi C j=true)(ht:B.tab[j]?=some (some (y,k)))(hc:bO C i false C=true)(ht':B.tab[i]?=some (some (y',k')))(hk:k'=.local\/k'=.cell)(hw:r7 (.Call (.Attribute (.Name y np) (ofString "pop") apos) [.Constant (.int 0) kk cp] [] cpos) y' px pos.line B.sc=false)
  (hbase:∀env,attributeBase (.Name y np) (ofString "pop") env (eval (.Name y np) env)=eval (.Name y np) env)(hline:(apos.endLine==cpos.line)=true)(htrees:∀env,backTo cpos (starEach [.Constant (.int 0) kk cp] env)=[(false,eval (.Constant (.int 0) kk cp) env)]):
  aR P B C fr C (.Assign [.Name y' px] (.Call (.Attribute (.Name y np) (ofString "pop") apos) [.Constant (.int 0) kk cp] [] cpos) pos) (pL j i):=fun n A env g V J s kk Q E X hb hq hr=>by
 obtain ⟨ρ',e⟩:=ch hb
 obtain ⟨x,e0,e1⟩:=aB e
 obtain ⟨xs,e2,e3⟩:=aB e1
 obtain ⟨t,e4,e5⟩:=aB e3
 cases fq e2
 cases e5
 obtain ⟨u,va,q⟩:=X.env.var j _ _ ht e0
 unfold bE at q
 rw [hv] at q
 obtain ⟨a,rfl,oi,vs,m,a1,a3,a2⟩:=q
 cases xs with
 |nil=>cases e4
 |cons x xs=>
  cases e4
  obtain ⟨z,us,hus,rz,ru⟩:=id a2
  have h0:0 < vs.size:=by rw [a2.size];exact Nat.zero_lt_succ _
  have hz0:vs[0]?=some z:=by rw [<-Array.getElem?_toList,hus];rfl
  have hup:(vs.eraseIdxIfInBounds 0).toList=us:=by
   have e1:vs.eraseIdxIfInBounds 0=vs.eraseIdx 0 h0:=by rw [Array.eraseIdxIfInBounds,dif_pos h0]
   rw [e1,Array.toList_eraseIdx,hus];rfl
  refine wpAny_Assign_Name (lz zS hbase hline htrees (bc X ht va ⟨uL (K:=.list) a1 rfl rfl,wpAny_Constant_int (call_meets F.slot_list_pop ⟨_,a1,rfl⟩ F.entry_list_pop (F.args_list_pop_2 _ _) (PySem.MeetsSeq.list_pop_at a vs m 0 _ 0 z (by decide) ?_ hz0 (bj (by rw [a2.size];exact a3))) ⟨a1,?_⟩)⟩)) (by rw [gN X.env.sc,hw])
  .have h1:(0:Int) < vs.size:=bN h0
   show (if (decide ((0:Int)<=0)&&decide ((0:Int) < vs.size))=true then some (0:Int).toNat else none)=some 0
   rw [decide_eq_true h1];rfl
  .obtain ⟨pS,X'⟩:=jW (y:=.lst xs) X hv (by rw [e0];exact fun q=>by cases q) oi va (Heap.SameBut.update s.heap a (Obj.mapSeq fun v=>v.eraseIdxIfInBounds 0)).2 (fun kf=>⟨_,_,IsL.update a1 (fun v=>v.eraseIdxIfInBounds 0),le_of_succ_le a3,by rw [hup];exact ru.mono kf⟩) (s.toks+1)
   have kf:aQ g s.heap g (s.heap.update a (Obj.mapSeq fun v=>v.eraseIdxIfInBounds 0)):=pS.k X.g fun b hb=>(X.env.own b hb).2.1
   exact iu X' hc ht' hk (Rp.mono kf rz) fun s' p' X''=>hq s' g _ J (by unfold pL;rw [e];rfl) (pS.trans (p'.toS.weak bQ)) X''
end
noncomputable def vB {α:Type}(lo hi st:Option Int)(xs:List α):List α:=
 (sliceRange (sliceBounds lo hi st xs.length).1 (sliceBounds lo hi st xs.length).2.1 (sliceBounds lo hi st xs.length).2.2).filterMap (xs[·]?)
section
variable {P:Pg} {B:bG} {C:Ct} {A:Around} {g:Gh} {h:Heap}
theorem wW (items:Array Value)(lo hi st:Option Int):slicePick items lo hi st=(vB lo hi st items.toList).toArray:=by
 simp [slicePick,vB]
theorem sw {α:Type}(xs:List α):∀m,m<=xs.length->(List.range m).filterMap (fun k=>xs[xs.length - 1 - k]?)=xs.reverse.take m
 | 0,_=>rfl
 |m+1,h=>by
  rw [List.range_succ,List.filterMap_append,sw xs m (le_of_succ_le h),List.take_add_one,List.getElem?_reverse (by lia -abstractProof)]
  have:∀f:Nat->Option α,List.filterMap f [m]=(f m).toList:=fun f=>by rw [List.filterMap_cons];cases f m<;>rfl
  rw [this]
theorem yS {α:Type}(xs:List α):vB none none (some (-1)) xs=xs.reverse:=by
 unfold vB
 have e:sliceRange (sliceBounds none none (some (-1)) xs.length).1 (sliceBounds none none (some (-1)) xs.length).2.1 (sliceBounds none none (some (-1)) xs.length).2.2=(List.range xs.length).map fun k=>xs.length - 1 - k:=by
  show sliceRange ((xs.length:Int) - 1) (-1) (-1)=_
  unfold sliceRange
  rw [if_neg (by decide)]
  have:((if (xs.length:Int) - 1 > -1 then ((xs.length:Int) - 1 - -1 - -1 - 1) / -(-1) else 0)).toNat=xs.length:=by
   rw [show -(-1:Int)=1 from rfl,ediv_one,show (xs.length:Int) - 1 - -1 - -1 - 1=xs.length by lia]
   rcases Nat.eq_zero_or_pos xs.length with q |q
   .rw [q];rfl
   .rw [if_pos (show (xs.length:Int) - 1 > -1 by lia)];rfl
  simp only [this]
  refine map_congr_left fun k hk=>?_
  have:=bh hk
  lia -abstractProof
 rw [e,List.filterMap_map]
 exact (sw xs xs.length (le_refl _)).trans (by rw [<-length_reverse,take_length])
theorem aZ.reverse {ts:List T}{vs:List Value}(r:aZ P g h ts vs):aZ P g h ts.reverse vs.reverse:=aZ.of (by rw [length_reverse,length_reverse];exact r.length) fun i v t h1 h2=>by
 have l2:=(ak h2).1
 rw [length_reverse] at l2
 rw [List.getElem?_reverse (r.length.symm▸l2),r.length] at h1
 rw [List.getElem?_reverse l2] at h2
 obtain ⟨v',e,q⟩:=r.get h2
 rw [h1] at e;cases e;exact q
theorem aq.rev {a:Expr}{pa:PE}{kc:Nat}{pc pu ps pos:Pos}(ha:aq P B C a pa (RX P)):aq P B C (.Subscript a (.Slice Option.none Option.none (some (.UnaryOp .USub (.Constant (.int 1) kc pc) pu)) ps) pos) (p1 uo pa) (RV P):=
 (ha.bind (N:=fun A env x Q E s=>wpAny P.M A (eval (.Slice Option.none Option.none (some (.UnaryOp .USub (.Constant (.int 1) kc pc) pu)) ps) env) (fun y s₂=>wpAny P.M A (subscriptTail a (.Slice Option.none Option.none (some (.UnaryOp .USub (.Constant (.int 1) kc pc) pu)) ps) x y) Q E s₂) E s) (F:=fun _ _ k t J=>up (uo t) J k) (R':=RV P) mD
  fun n A env g g1 V J s s₁ x t k Q E p X r hb hq=>by
   obtain ⟨u,e⟩:=ch hb
   obtain ⟨xs,e1,e2⟩:=aB e
   cases e2
   rw [arm_eval_Slice]
   refine wpAny_bind (wpAny_pure (wpAny_bind (wpAny_holding (wpAny_pure (wpAny_bind (wpAny_holding ?_))))))
   refine aq.neg (dG.vx aq.int) n A env g1 V J s₁ (fun t J=>.ret t J) _ _ X (fun q=>by cases q) fun v s₂ g2 t2 J2 ed pd w2 r2=>?_
   cases ed
   obtain ⟨tk,rfl⟩:=r2
   refine wpAny_newObj_type ?_ (by show (3:Nat)<=sizeLine+2;decide)
   have p3:aJ g2 s₂ g2 {s₂ with heap:=s₂.heap.push {cls:=.type "slice",data:=.fields #[.none,.none,.int (-1) tk]},toks:=s₂.toks}:=.push _ _
   obtain ⟨l,rfl,vs,m,b1,b3,b2⟩:=(kW.post w2 p3 (kW.post X.g pd r)).y.ls e1
   refine tail_any ⟨_,b1,rfl⟩ slot_list_getitem.lookup (wpAny_getItem_list_slice (lo:=Option.none) (hi:=Option.none) (st:=some (-1)) ⟨_,b1,rfl,m,rfl⟩ (Heap.IsSliceOf.new s₂.heap _ _ _) .none .none (.int _ _) (by decide) ?_ (bj (b2.size▸b3))) rfl
   rw [wW,yS]
   exact j6 (tk:=s₂.toks) (s:={s₂ with heap:=s₂.heap.push {cls:=.type "slice",data:=.fields #[.none,.none,.int (-1) tk]},toks:=s₂.toks}) (w2.push _) b2.reverse (by rw [length_reverse];exact b3) fun u s' g' p w r=>hq u s' g' _ J (by rw [e];rfl) ((pd.trans p3).trans p) w r).map fun _ _ _ _ _=>Subscript_
theorem AY {z C D:Addr}{fp wr:List Addr}{n:Nat}{bs cs:Nat->Bool}{Pt:Nat->Array Value->Prop}{St:Nat->Heap->Prop}{Mid:Nat->Addr->Heap->Prop}{cenv:Env}{x1 x2:Str}{p1 p2 pt:Pos}{kt:Nat}{iter elt:Expr}{scope:Scope}{pos:Pos}{f:Bool->Bool->Bool}
  (W:WalksT P.prog P.w A z fp wr n Pt St Mid)(hPt:∀i v,Pt i v->v=#[.bool (bs i),.bool (cs i)])(hh:A.handled=none)(hC:cenv.locals=C)(hkd:cenv.scope.kind=.function)(hk1:cenv.kindOf x1=some .local)(hk2:cenv.kindOf x2=some .local)(hx:x1≠x2)
  (hCf:C∉fp)(hDf:D∉fp)(hDC:D≠C)(hn:n<=lim)
  (helt:∀s m b c (Q:Value->Shared->Prop) (E:Value->Shared->Prop),s.heap.Ns C m->m x1=some (.bool b)->m x2=some (.bool c)->Q (.bool (f b c)) s->wpAny P.M A (eval elt cenv) Q E s):
  ∀(k i:Nat) (s:Shared) (acc:Array Value) (cnt:Nat) (m:Str->Option Value) (R:Result->Shared->Prop),n - i=k->i<=n->St i s.heap->s.heap.Ns C m->IsL s.heap D acc cnt->acc.size=i->
   (∀h' tk acc' cnt' m',(∀b o,b∉wr->b≠C->b≠D->s.heap.get? b=some o->h'.get? b=some o)->h'.Ns C m'->IsL h' D acc' cnt'->acc'.toList=acc.toList++(range' i (n - i)).map (fun j=>Value.bool (f (bs j) (cs j)))->R (.ok .next) {s with heap:=h',toks:=tk})->
   codeAny P.M A (.compLoop (.ListComp elt [⟨.Tuple [.Name x1 p1,.Name x2 p2] kt pt,iter,[],0⟩] scope pos) 0 (.ref z) (.ref D) cenv) R s:=by
 have hp:(cenv.scope.kind==.class||(cenv.scope.kind==.module&&cenv.locals !=cenv.globals))=false:=by rw [hkd];rfl
 have hCw:C∉wr:=fun q=>hCf (W.sub C q)
 have hDw:D∉wr:=fun q=>hDf (W.sub D q)
 intro k
 induction k with
 |zero=>
  intro i s acc cnt m R hk hi hst hns hD hacc hR
  obtain rfl:i=n:=le_antisymm hi (Nat.le_of_sub_eq_zero hk)
  refine eQ (W.done s _ _ hst fun h' tk hkp=>?_)
  refine hR h' tk acc cnt m (fun b o hb _ _ e=>hkp b o hb e) (hns.at' fun o e=>hkp C o hCw e) (hkp D _ hDw hD) (by simp)
 |succ k ih=>
  intro i s acc cnt m R hk hi hst hns hD hacc hR
  have hlt:i < n:=Nat.lt_of_sub_eq_succ hk
  refine eQ (W.item i s _ _ hlt hst fun T vals hc tk1 hP hT hTup hM ka=>?_)
  obtain rfl:=hPt i vals hP
  refine W.go _ _ _ i T _ _ _ hM fun hd hst2 kb=>?_
  have hTw:T∉wr:=W.apart _ _ _ hM
  have hTup2:hd.IsTuple T #[.bool (bs i),.bool (cs i)]:=hTup.at fun o e=>kb T o hTw e
  refine wpAny_assign_Tuple hh hTup2 rfl rfl fun he k3=>?_
  have k3':∀b o,hd.get? b=some o->he.get? b=some o:=fun b o e=>k3 b o (fun q=>by rw [q] at e;exact absurd (Heap.lt_size e) (lt_irrefl _)) e
  have hn3:he.Ns C m:=hns.at' fun o e=>k3' C o (kb C o hCw (ka C o hCw e))
  show wpAny P.M A (holding _ (assign (.Name x1 p1) cenv (.bool (bs i))) >>=fun _=>holding _ (assign (.Name x2 p2) cenv (.bool (cs i))) >>=fun _=>pure ()) _ _ _
  subst hC
  refine wpAny_bind (wpAny_holding (wpAny_assign_Name (wpAny_storeName_local hk1 hn3 (fun hf hn4 hs4=>?_) hp)))
  refine wpAny_bind (wpAny_holding (wpAny_assign_Name (wpAny_storeName_local hk2 hn4 (fun hg hn5 hs5=>?_) hp)))
  have kk:∀b o,b∉wr->b≠cenv.locals->s.heap.get? b=some o->hg.get? b=some o:=fun b o hb hbC e=>(hs5.2 b hbC).trans ((hs4.2 b hbC).trans (k3' b o (kb b o hb (ka b o hb e))))
  have hD5:IsL hg D acc cnt:=kk D _ hDw hDC hD
  have hst5:St (i+1) hg:=W.frame _ _ _ hst2 fun b hb o e=>by
   have hbC:b≠cenv.locals:=fun q=>hCf (q▸hb)
   exact (hs5.2 b hbC).trans ((hs4.2 b hbC).trans (k3' b o e))
  refine wpAny_pure (wpAny_tests_nil ?_)
  rw [if_pos rfl]
  refine helt _ _ (bs i) (cs i) _ _ hn5 (by simp [hx]) (by simp) ?_
  refine eL hD5 ?_ (bj (by lia -abstractProof))
  have hs6:Heap.SameBut D hg (hg.update D (Obj.mapSeq fun a=>a.push (.bool (f (bs i) (cs i))))):=Heap.SameBut.update ..
  refine ih (i+1) _ _ _ _ R (vi hk) hlt (W.frame _ _ _ hst5 fun b hb o e=>(hs6.2 b fun q=>hDf (q▸hb)).trans e) (hn5.sameBut hs6 (Ne.symm hDC)) (IsL.update hD5 _) (by simp [hacc]) fun h' tk acc' cnt' m' kf hn' hD' hacc'=>?_
  refine hR h' tk acc' cnt' m' (fun b o hb hbC hbD e=>kf b o hb hbC hbD ((hs6.2 b hbD).trans (kk b o hb hbC e))) hn' hD' ?_
  rw [hacc',Array.toList_push,List.append_assoc]
  congr 1
  have:n - i=(n - (i+1))+1:=by rw [hk,vi hk]
  rw [this,range'_succ];rfl
theorem wv (f:Bool->Bool->Bool)(bs cs:List Bool):(range' 0 (min bs.length cs.length)).map (fun j=>Value.bool (f (bs[j]?.getD false) (cs[j]?.getD false)))=(zipWith f bs cs).map Value.bool:=by
 apply List.ext_getElem
 .simp
 .intro i h1 h2
  simp at h1 h2
  have l1:i < bs.length:=by lia
  have l2:i < cs.length:=by lia
  simp [getElem?_eq_getElem l1,getElem?_eq_getElem l2]
def qq (P:Pg)(scope:Scope)(x1 x2:Str)(elt:Expr)(f:Bool->Bool->Bool):Prop:=
 ∀(A:Around) (env:Env) s m b c (Q:Value->Shared->Prop) (E:Value->Shared->Prop),env.scope.kind=.function->env.kindOf x1=some .local->env.kindOf x2=some .local->s.heap.Ns env.locals m->m x1=some (.bool b)->m x2=some (.bool c)->Q (.bool (f b c)) s->wpAny P.M A (eval elt env) Q E s
theorem qq.and {scope:Scope}{x1 x2:Str}{p q r:Pos}(h1:(x1==("__debug__":Str))=false)(h2:(x2==("__debug__":Str))=false):qq P scope x1 x2 (.BoolOp .And [.Name x1 p,.Name x2 q] r) (·&&·):=fun A env s m b c Q E hk k1 k2 hn e1 e2 h=>by
 refine wpAny_And2 (wpAny_Name (wpAny_loadName_local hk k1 hn e1 (wpAny_truthy_bool ?_)) h1)
 cases b with
 |true=>exact wpAny_Name (wpAny_loadName_local hk k2 hn e2 h) h2
 |false=>exact h
theorem qq.or {scope:Scope}{x1 x2:Str}{p q r:Pos}(h1:(x1==("__debug__":Str))=false)(h2:(x2==("__debug__":Str))=false):qq P scope x1 x2 (.BoolOp .Or [.Name x1 p,.Name x2 q] r) (·||·):=fun A env s m b c Q E hk k1 k2 hn e1 e2 h=>by
 refine wpAny_Or2 (wpAny_Name (wpAny_loadName_local hk k1 hn e1 (wpAny_truthy_bool ?_)) h1)
 cases b with
 |true=>exact h
 |false=>exact wpAny_Name (wpAny_loadName_local hk k2 hn e2 h) h2
theorem jj:∀{xs:List T} {vs:List Value} {bs:List Bool},aZ P g h xs vs->ip xs=some bs->vs=bs.map Value.bool
 | [],_,_,r,e=>by cases r;cases e;rfl
 |t::xs,_,_,⟨v,vs,e0,q,r⟩,e=>by
  obtain ⟨b,bs,e1,e2,e3⟩:=bz e
  cases e3
  rw [e0,jj r e2,fP.b (.inl q) e1];rfl
theorem ql:∀(bs:List Bool),aZ P g h (bs.map T.bool) (bs.map Value.bool)
 | []=>rfl
 |b::r=>aZ.cons rfl (ql r)
inductive G4 (P:Pg) (h:Heap) (f:Bool->Bool->Bool) (t:T) (u v:Value):Prop
 |mk (l1 l2:Addr) (vs ws:Array Value) (nv nw:Nat) (bs cs:List Bool) (h0:u=.ref l1) (h1:v=.ref l2) (h2:h.get? l1=some (bA vs nv)) (h3:h.get? l2=some (bA ws nw)) (h4:vs=(bs.map Value.bool).toArray) (h5:ws=(cs.map Value.bool).toArray) (h6:bs.length<=lim) (h7:t=.lst ((zipWith f bs cs).map T.bool))
theorem ww {a b t:T}{u v:Value}{f:Bool->Bool->Bool}(ra:fP P g h a u)(rb:fP P g h b v)(e:qr f a b=some t):G4 P h f t u v:=by
 obtain ⟨xs,ys,e1,e2,e3⟩:=bz e
 obtain ⟨bs,cs,e4,e5,e6⟩:=bz e3
 cases e6
 obtain ⟨l1,rfl,vs,nv,a1,a3,a2⟩:=ra.ls e1
 obtain ⟨l2,rfl,ws,nw,b1,b3,b2⟩:=rb.ls e2
 have hv:=jj a2 e4
 refine ⟨l1,l2,vs,ws,nv,nw,bs,cs,rfl,rfl,a1,b1,by rw [<-hv],by rw [<-jj b2 e5],?_,rfl⟩
 have:=a2.length
 rw [hv,length_map] at this
 rw [this];exact a3
theorem aq.zip {e1 e2 elt:Expr}{d1 d2:PE}{x1 x2:Str}{p1 p2 pt p cp:Pos}{kt:Nat}{scope:Scope}{pos:Pos}{f:Bool->Bool->Bool}(hel:qq P scope x1 x2 elt f)(hkind:scope.kind=.function)(hnames:∀x∈scope.names,x.2=.local->scope.names.lookup x.1=some .local)(hnocell:∀x∈scope.names,x.2≠.cell)
  (hnofree:∀x∈scope.names,x.2≠.free)(hx1:scope.names.lookup x1=some .local)(hx2:scope.names.lookup x2=some .local)(hx:x1≠x2)(hz:B.sc.names.lookup (ofString "zip")=some .globalImplicit)(hn1:∀env,starEach [e1,e2] env=(false,eval e1 env)::starEach [e2] env)(hn2:∀env,starEach [e2] env=[(false,eval e2 env)])(h1:aq P B C e1 d1 (RX P))(h2:aq P B C e2 d2 (RX P)):
  aq P B C (.ListComp elt [⟨.Tuple [.Name x1 p1,.Name x2 p2] kt pt,.Call (.Name (ofString "zip") p) [e1,e2] [] cp,[],0⟩] scope pos) (Mine.p2 (qr f) d1 d2) (RV P):=fun n A env g V J s k Q E X hb hq=>by
 show wpAny P.M A (eval _ env) Q E s
 rw [eval_ListComp]
 refine wpAny_comprehension_free (use:=Option.none) rfl (fun _=>rfl) (jf (env:=env) fun y hy=>absurd rfl (hnofree _ hy)) hkind hnames ?_
 refine Call_Name rfl (X.blt hz (by decide) (by decide) (v:=.type "zip") (by decide) ?_)
 refine bM (fun _ q=>by cases q) (cf fun q hq=>?_) (wpAny_items_cons (h1 n A env g V J s _ _ E X hb fun u s₁ g1 a J1 ea pb w1 r1=>wpAny_items_cons (h2 n A env g1 V J1 s₁ _ _ E (X.post pb w1) (fun q=>hb (ea.trans q)) fun v s₂ g2 b J2 ed pd w2 r2=>wpAny_items_nil ?_) (hn2 env)) (hn1 env))
 .rw [hn1 env,hn2 env] at hq
  cases hq with
  |head=>rfl
  |tail _ h=>cases h with
   |head=>rfl
   |tail _ h=>cases h
 obtain ⟨tz,ez⟩:=ch fun q=>hb (ea.trans (ed.trans q))
 have p12:=pb.trans pd
 obtain ⟨l1,l2,vs,ws,nv,nw,bs,cs,rfl,rfl,a1,b1,hvs,hws,lz1,rfl⟩:=ww (kW.post w1 pd r1).y (kW.y r2) ez
 have fin:∀s' g' x,aJ g2 s₂ g' s'->bC P g' s'.heap J2->Rp P g' s'.heap (.lst ((zipWith f bs cs).map T.bool)) x->Q x s':=fun s' g' x p w r=>hq x s' g' _ J2 (ea.trans (ed.trans (by rw [ez];rfl))) (p12.trans p) w r
 have lx:vs.size=bs.length:=by rw [hvs];simp
 have ly:ws.size=cs.length:=by rw [hws];simp
 have lt1:=Heap.lt_size a1
 have lt2:=Heap.lt_size b1
 refine call_zip_2 ⟨_,a1,rfl,nv,rfl⟩ ⟨_,b1,rfl,nw,rfl⟩ fun he z1 z2 z3 z4 z5 z6 z7=>?_
 refine wpAny_pyIter_zip z1 ?_
 refine wpAny_newList ?_
 have fr:∀{a:Addr},s₂.heap.objs.size<=a->s₂.heap.get? a=Option.none:=fun {a} ha=>by
  cases e:s₂.heap.get? a with
  |none=>rfl
  |some o=>exact absurd (Heap.lt_size e) (not_lt.mpr ha)
 have hD4:=Heap.get?_push_size he (o:={cls:=.type "list",data:=.seq ([]:List Value).toArray}) rfl
 refine wpAny_newFunctionEnv hnocell (by intro y hy;simp at hy) (fun hg hn5 hsb5=>?_) hkind
 dsimp only at hn5 hsb5 ⊢
 generalize hH4:he.push {cls:=.type "list",data:=.seq ([]:List Value).toArray}=hf at hn5 hsb5 hD4 ⊢
 have hDn:s₂.heap.get? he.objs.size=Option.none:=fr (by rw [z6];exact le_add_right _ _)
 have hC4:hf.get? hf.objs.size=Option.none:=aN _
 have k34:∀a o,he.get? a=some o->hf.get? a=some o:=fun a o e=>by rw [<-hH4];exact Heap.get?_push_of_some _ e
 have k45:∀a o,hf.get? a=some o->hg.get? a=some o:=fun a o e=>(hsb5.2 a fun q=>by rw [q,hC4] at e;cases e).trans (Heap.get?_push_of_some _ e)
 have hCn:s₂.heap.get? hf.objs.size=Option.none:=by
  cases e:s₂.heap.get? hf.objs.size with
  |none=>rfl
  |some o=>rw [k34 _ _ (z7 _ _ e)] at hC4;cases hC4
 have hDC:he.objs.size≠hf.objs.size:=fun q=>by rw [q] at hD4;rw [hC4] at hD4;cases hD4
 have Wk:=WalksT.zip2 (prog:=P.prog) (w:=P.w) (A:=A) X.room.2.2 _ _ _ _ _ l1 l2 (zipApart_new lt1 lt2) vs ws
 have st3:_/\_:=(⟨z1,z2,⟨_,_,z3⟩,z4,z5,⟨_,z7 _ _ a1,rfl,nv,rfl⟩,⟨_,z7 _ _ b1,rfl,nw,rfl⟩⟩:IsZip he _ _ _ Value.none/\IsPair he _ _ _/\(∃a b,IsPair he _ a b)/\he.IsListIter _ l1 0/\he.IsListIter _ l2 0/\he.IsList l1 vs/\he.IsList l2 ws)
 have st5:=Wk.frame 0 he hg st3 fun b _ o e=>k45 b o (k34 b o e)
 have live:∀b∈[s₂.heap.objs.size+4,s₂.heap.objs.size+2,s₂.heap.objs.size+3,s₂.heap.objs.size,s₂.heap.objs.size+1,l1,l2],∃o,he.get? b=some o:=fun b hb=>by
  simp only [mem_cons,not_mem_nil,or_false] at hb
  rcases hb with rfl |rfl |rfl |rfl |rfl |rfl |rfl
  .exact ⟨_,z1⟩
  .exact ⟨_,z2⟩
  .exact ⟨_,z3⟩
  .exact let ⟨o,e,_⟩:=z4;⟨o,e⟩
  .exact let ⟨o,e,_⟩:=z5;⟨o,e⟩
  .exact ⟨_,z7 _ _ a1⟩
  .exact ⟨_,z7 _ _ b1⟩
 have ck1:(compEnvC scope (eH env scope.names []) hf.objs.size env).kindOf x1=some .local:=lookup_relabel_local hx1
 have ck2:(compEnvC scope (eH env scope.names []) hf.objs.size env).kindOf x2=some .local:=lookup_relabel_local hx2
 have loop:codeAny P.M A (.compLoop (.ListComp elt [⟨.Tuple [.Name x1 p1,.Name x2 p2] kt pt,.Call (.Name (ofString "zip") p) [e1,e2] [] cp,[],0⟩] scope pos) 0 (.ref (s₂.heap.objs.size+4)) (.ref he.objs.size) (compEnvC scope (eH env scope.names []) hf.objs.size env))
   (compPost P.M A E Option.none Q (.ref he.objs.size) hf.objs.size) {s₂ with heap:=hg,toks:=s₂.toks+([]:List (Str×Value)).length}:=by
  refine AY (f:=f) (bs:=fun i=>bs[i]?.getD false) (cs:=fun i=>cs[i]?.getD false) Wk (fun i v hv=>?_) X.room.2.2 (C:=hf.objs.size) rfl hkind ck1 ck2 hx (fun q=>?_) (fun q=>?_) hDC (by rw [lx,ly];lia)
   (fun s m b c Q E hns m1 m2 hq=>hel A (compEnvC scope (eH env scope.names []) hf.objs.size env) s m b c Q E hkind ck1 ck2 hns m1 m2 hq) _ 0 _ #[] _ _ _ rfl (zero_le _) st5 hn5 (k45 _ _ hD4) rfl fun hj tk acc' cnt' m' kf hn' hD' hacc'=>?_
  .obtain ⟨x,y,ex,ey,rfl⟩:=hv
   rw [hvs] at ex
   rw [hws] at ey
   simp only [List.getElem?_toArray,getElem?_map,Option.map_eq_some_iff] at ex ey
   obtain ⟨b,eb,rfl⟩:=ex
   obtain ⟨c,ec,rfl⟩:=ey
   rw [eb,ec];rfl
  .obtain ⟨o,e⟩:=live _ q
   rw [k34 _ _ e] at hC4;cases hC4
  .obtain ⟨o,e⟩:=live _ q
   rw [aN] at e;cases e
  .refine ⟨m',hn',fun hl hs7=>?_⟩
   have hall:∀a o,s₂.heap.get? a=some o->hl.get? a=some o:=fun a o e=>by
    have hlt:=Heap.lt_size e
    have haC:a≠hf.objs.size:=fun q=>by rw [q,hCn] at e;cases e
    refine (hs7.2 a haC).trans (kf a o (fun q=>?_) haC (fun q=>by rw [q,hDn] at e;cases e) (k45 a o (k34 a o (z7 a o e))))
    simp only [mem_cons,not_mem_nil,or_false] at q
    rcases q with rfl |rfl |rfl |rfl
    .rw [fr (le_add_right _ _)] at e;cases e
    .rw [fr (le_add_right _ _)] at e;cases e
    .rw [fr (le_refl _)] at e;cases e
    .rw [fr (le_add_right _ _)] at e;cases e
   have hzl:(zipWith f bs cs).length<=lim:=by rw [List.length_zipWith];lia
   have hD7:IsL hl he.objs.size acc' cnt':=(hs7.2 _ hDC).trans hD'
   have hacc:acc'.toList=(zipWith f bs cs).map Value.bool:=by
    rw [hacc',lx,ly,Nat.sub_zero]
    exact wv f bs cs
   have p7:aJ g2 s₂ {g2 with F:=fun y=>g2.F y\/y=he.objs.size} {s₂ with heap:=hl,toks:=tk}:=.grow tk hall _ (fun _ f=>.inl f) fun a f=>f.imp_right fun e:a=he.objs.size=>e▸hDn
   exact fin _ _ _ p7 (w2.grow hall _ (fun _ f=>.inl f) fun a f=>f.imp_right fun e:a=he.objs.size=>e▸⟨hDn,ar hD7⟩) ⟨_,rfl,.inr rfl,acc',cnt',hD7,by rw [length_map];exact hzl,by rw [hacc];exact ql _⟩
 exact codeAny_compStart_list loop (wpAny_pyIter_zip (k45 _ _ (k34 _ _ z1)) loop)
noncomputable def HM (scope:Scope)(x1 x2:Str):Bool:=scope.kind==.function&&(scope.names.all (fun x=>!(x.2==.local)||scope.names.lookup x.1==some .local)&&(scope.names.all (fun x=>!(x.2==.cell)&&!(x.2==.free))&&((scope.names.lookup x1==some .local)&&((scope.names.lookup x2==some .local)&&!(x1==x2)))))
theorem aq.zipC {e1 e2 elt:Expr}{d1 d2:PE}{x1 x2:Str}{p1 p2 pt p cp:Pos}{kt:Nat}{scope:Scope}{pos:Pos}{f:Bool->Bool->Bool}(hel:qq P scope x1 x2 elt f)(hb:HM scope x1 x2=true)(hz:B.sc.names.lookup (ofString "zip")=some .globalImplicit)
  (hn1:∀env,starEach [e1,e2] env=(false,eval e1 env)::starEach [e2] env)(hn2:∀env,starEach [e2] env=[(false,eval e2 env)])(h1:aq P B C e1 d1 (RX P))(h2:aq P B C e2 d2 (RX P)):
  aq P B C (.ListComp elt [⟨.Tuple [.Name x1 p1,.Name x2 p2] kt pt,.Call (.Name (ofString "zip") p) [e1,e2] [] cp,[],0⟩] scope pos) (Mine.p2 (qr f) d1 d2) (RV P):=by
 obtain ⟨b1,hb⟩:=aj hb
 obtain ⟨b2,hb⟩:=aj hb
 obtain ⟨b3,hb⟩:=aj hb
 obtain ⟨b4,hb⟩:=aj hb
 obtain ⟨b5,b6⟩:=aj hb
 have b3:=fun x hx=>aj (aA b3 x hx)
 refine aq.zip hel (eq_of_beq b1) (fun x hx e=>?_) (fun x hx e=>?_) (fun x hx e=>?_) (eq_of_beq b4) (eq_of_beq b5) (fun e=>?_) hz hn1 hn2 h1 h2
 .have:=aA b2 x hx
  rw [e] at this;exact eq_of_beq this
 .have:=(b3 x hx).1
  rw [e] at this;cases this
 .have:=(b3 x hx).2
  rw [e] at this;cases this
 .rw [e,beq_self_eq_true] at b6;cases b6
end
end
end Mine
namespace Mine
noncomputable section
open PySem PySem.W PyProof.Rows PySem.SeqAt
noncomputable def qi {α Z:Type}(f:α->Z->Option Z):List α->Z->Option Z
 | [],b=>some b
 |x::r,b=>o1 (f x b) (qi f r)
def H7 (ks:List T)(kn o:T)(ds:List (List T)):Option (List (List T)):=o1 (kU ks o) fun i=>o1 i fun j=>o1 ds[j]? fun l=>bif bS (l.length+1) then some (ds.set j (l++[kn])) else none
theorem qc (ks:List T)(kn:T):∀(os:List T) (ds:List (List T)),lA ks kn os ds=qi (H7 ks kn) os ds
 | [],_=>rfl
 |o::os,ds=>by
  show o1 (kU ks o) _=o1 (o1 (kU ks o) _) _
  cases kU ks o with
  |none=>rfl
  |some i=>cases i with
   |none=>rfl
   |some j=>
    show o1 ds[j]? _=o1 (o1 ds[j]? _) _
    cases ds[j]? with
    |none=>rfl
    |some l=>
     show (bif bS (l.length+1) then _ else _)=o1 (bif bS (l.length+1) then _ else _) _
     cases bS (l.length+1) with
     |false=>rfl
     |true=>exact qc ks kn os _
def IQ (ks:List T)(th kn:T)(ds:List (List T)):Option (List (List T)):=o1 (idxD th kn) fun l=>o1 (f8 l) fun os=>lA ks kn os ds
theorem qa (ks:List T)(th:T):∀(ns:List T) (ds:List (List T)),sU ks th ns ds=qi (IQ ks th) ns ds
 | [],_=>rfl
 |n::ns,ds=>by
  show o1 (idxD th n) _=o1 (o1 (idxD th n) _) _
  cases idxD th n with
  |none=>rfl
  |some l=>
   show o1 (f8 l) _=o1 (o1 (f8 l) _) _
   cases f8 l with
   |none=>rfl
   |some os=>
    show o1 (lA ks n os ds) _=o1 (lA ks n os ds) _
    cases lA ks n os ds with
    |none=>rfl
    |some d=>exact qa ks th ns d
inductive xK (P:Pg) (env:Env) (g:Gh) (h:Heap) (a:Addr) (as:List Addr) (ks:List T) (ds:List (List T)):Prop
 |mk (q:(a==sysModules)=false) (o:Obj) (es:List DictEntry) (e:h.get? a=some o) (d:I6 P.w ks o es) (r:aZ P g h ks (es.map (·.key))) (v:es.map (·.val)=as.map Value.ref)
  (nd:as.Nodup) (na:a∉as) (lm:ju g env (a::as)) (l:as.length=ds.length) (c:∀(i:Nat) (x:Addr) (ts:List T),as[i]?=some x->ds[i]?=some ts->fR P g h x (.lst ts))
section
variable {P:Pg} {B:bG} {C:Ct} {n i:Nat} {A:Around} {env:Env} {g g':Gh} {V:aP} {J:Sg} {s s':Shared} {h h':Heap} {a:Addr} {as:List Addr} {ks:List T} {ds:List (List T)} {y:Str} {k:NameKind}
theorem xK.keep (L:xK P env g h a as ks ds)(kf:aQ g h g' h')(kv:∀b∈a::as,∀o,h.get? b=some o->h'.get? b=some o)(lm:ju g' env (a::as)):xK P env g' h' a as ks ds:=by
 obtain ⟨q,o,es,e,d,r,v,nd,na,_,l,c⟩:=L
 exact ⟨q,o,es,kv a mem_cons_self _ e,d,r.mono kf,v,nd,na,lm,l,fun i x ts h1 h2=>(c i x ts h1 h2).mono kf (kv x (mem_cons_of_mem _ (mem_of_getElem? h1)))⟩
theorem xK.vol (L:xK P env g h a as ks ds):ju g env (a::as):=let ⟨_,_,_,_,_,_,_,_,_,lm,_,_⟩:=L;lm
theorem xK.live (L:xK P env g h a as ks ds):∀b∈a::as,h.get? b≠none:=fun b hb=>by
 obtain ⟨q,o,es,e,d,r,v,nd,na,lm,l,c⟩:=L
 rcases au hb with rfl |hb
 .exact ar e
 .obtain ⟨i,hi⟩:=getElem?_of_mem hb
  have:i < ds.length:=l▸(ak hi).1
  exact (c i b _ hi (getElem?_eq_getElem this)).live
structure dq (P:Pg) (B:bG) (C:Ct) (n:Nat) (A:Around) (env:Env) (J:Sg) (a:Addr) (as:List Addr) (ks:List T) (g:Gh) (V:aP) (s:Shared) (ds:List (List T)):Prop where
 X:At P B C n A env g V J s
 va:cQ B env s.heap 1 (.ref a)
 L:xK P env g s.heap a as ks ds
theorem dq.post (Y:dq P B C n A env J a as ks g V s ds)(p:aJ g s g' s')(w:bC P g' s'.heap J):dq P B C n A env J a as ks g' V s' ds:=
 have v:=Y.L.vol.p Y.L.live p
 ⟨Y.X.post p w,Y.va.move fun b hb o e=>p.keep b o e (Y.X.env.own b hb).2.2.1,Y.L.keep (p.k Y.X.g) v.2 v.1⟩
theorem HX {W vol:List Addr}(v:ju g env vol)(l:∀a∈vol,s.heap.get? a≠none)(hW:∀a∈vol,a∉W)(p:aW [] W g s g' s'):ju g' env vol/\∀a∈vol,∀o,s.heap.get? a=some o->s'.heap.get? a=some o:=
 ⟨fun a ha=>let ⟨f,z,o,w⟩:=v a ha;⟨fun q=>(p.Fn a q).elim f fun q=>q.elim o (l a ha),fun q=>(p.Zn a q).elim z (l a ha),fun q=>(p.On a q).elim o (l a ha),w⟩,fun a ha o e=>let ⟨_,z,q,_⟩:=v a ha;p.keep a o e z q (hW a ha)⟩
theorem dq.turn {I:Addr}(Y:dq P B C n A env J a as ks g V s ds)(hv:ju g env [I])(hI:I∉a::as)(hkp:∀b o,s.heap.get? b=some o->b∉[I]->h'.get? b=some o)(tk:Nat):bV [I] [I] g s g {s with heap:=h',toks:=tk}/\dq P B C n A env J a as ks g V {s with heap:=h',toks:=tk} ds:=by
 obtain ⟨pV,X'⟩:=dy Y.X hv hkp tk
 have iv:=hv I (ay rfl)
 exact ⟨pV,X',Y.va.move fun b hb o e=>hkp b o e fun q=>iv.2.2.2 (aa q▸hb),Y.L.keep (pV.toS.k Y.X.g fun b hb=>(hv b hb).1) (fun b hb o e=>hkp b o e fun q=>hI (aa q▸hb)) Y.L.vol⟩
theorem dq.store {t:T}{u:Value}{Q:Unit->Shared->Prop}{E:Value->Shared->Prop}(Y:dq P B C n A env J a as ks g V s ds)(hc:bO C i false C=true)(ht:B.tab[i]?=some (some (y,k)))(hk:k=.local\/k=.cell)(h1:1≠i)(r:Rp P g s.heap t u)
  (hq:∀s',bV [] (own env) g s g s'->dq P B C n A env J a as ks g (V.set i (some t)) s' ds->Q () s'):wpAny P.M A (storeName env y u) Q E s:=by
 obtain ⟨hs,ho⟩:=cE hc
 have X2:At P B C n A env g (V.set i none) J s:=⟨Y.X.good,Y.X.call,Y.X.room,Y.X.env.forget hs (.refl g i) fun a ha=>(Y.X.env.own a ha).2.2.2,Y.X.g⟩
 refine jF X2 hs.nu ht hk (by unfold bE;rw [ho];exact .inl r) fun s' p X' hot=>?_
 have p:bV [] (own env) g s g s':=p.weak (fun _ h=>h) bQ
 rw [set_set] at X'
 have v:=Y.L.vol.post Y.L.live p.toS
 exact hq s' p ⟨X',hot 1 _ h1 Y.va,Y.L.keep (p.toS.k Y.X.g fun a ha=>(Y.X.env.own a ha).2.1) v.2 v.1⟩
theorem aW.mono {VVV W W':List Addr}(p:aW VVV W g s g' s')(hw:∀a∈W,a∈W'):aW VVV W' g s g' s':={p with keep:=fun a o e z q n=>p.keep a o e z q fun x=>n (hw a x)}
theorem EU {body:List Stmt}{p:Pos}{f:T->List (List T)->Option (List (List T))}{K:aP->Prop}{I l:Addr}{ts:List T}{vs:Array Value}{m:Nat}{R:Result->Shared->Prop}(hc:bO C i false C=true)(ht:B.tab[i]?=some (some (y,k)))(hk:k=.local\/k=.cell)(h1:1≠i)(hK:∀V t,K V->K (V.set i (some t))/\bX (V.set i (some t)) i=some t)
  (hb:∀t g V s ds ds1 (Q:Flow->Shared->Prop) (E:Value->Shared->Prop),f t ds=some ds1->dq P B C n A env J a as ks g V s ds->K V->bX V i=some t->(∀s' g' ρ',aW [] (as++own env) g s g' s'->dq P B C n A env J a as ks g' ρ' s' ds1->K ρ'->Q .next s')->wpAny P.M A (execs body env) Q E s)(hI:I∉a::as):
  ∀(rest:List T) (j:Nat) (g:Gh) (V:aP) (s:Shared) (ds ds':List (List T)),j<=ts.length->ts.drop j=rest->dq P B C n A env J a as ks g V s ds->K V->ju g env [I]->(s.heap.IsListIter I l j/\g.F l/\s.heap.get? l=some (bA vs m)/\aZ P g s.heap ts vs.toList)->qi f rest ds=some ds'->
   (∀s' g' ρ',aW [I] (I::(as++own env)) g s g' s'->dq P B C n A env J a as ks g' ρ' s' ds'->K ρ'->R (.ok .next) s')->codeAny P.M A (.forLoop (.Name y p) (.ref I) body [] env) R s:=by
 intro rest
 induction rest with
 |nil=>
  intro j g V s ds ds' hle hd Y kr hv st e hq
  cases e
  obtain rfl:j=ts.length:=le_antisymm hle (List.drop_eq_nil_iff.mp hd)
  refine fY ((o4.list (P:=P) Y.X.room.2.2).done g s _ _ st fun h' tk hkp=>?_)
  obtain ⟨pV,Y'⟩:=Y.turn hv hI hkp tk
  exact hq _ g V (pV.toS.mono fun b hb=>mem_cons.mpr (.inl (aa hb))) Y' kr
 |cons t rest ih=>
  intro j g V s ds ds' hle hd Y kr hv st e hq
  obtain ⟨ds1,e1,e2⟩:=aB (show o1 (f t ds) (qi f rest)=some ds' from e)
  have hiv:ts[j]?=some t:=by rw [<-List.head?_drop,hd];rfl
  have hj:j < ts.length:=(ak hiv).1
  have hd':ts.drop (j+1)=rest:=by rw [<-List.tail_drop,hd];rfl
  refine fY ((o4.list (P:=P) Y.X.room.2.2).item j t g s _ _ hiv st (fun b hb=>(hv b hb).1) fun u h' tk hkp r st'=>?_)
  obtain ⟨pV,Y'⟩:=Y.turn hv hI hkp tk
  have lI:∀b∈[I],h'.get? b≠none:=fun b hb=>by rw [aa hb];exact let ⟨_,e,_⟩:=st'.1;ar e
  have pV:=eV pV lI
  refine wpAny_pure (wpAny_assign_Name (Y'.store hc ht hk h1 r fun s3 p3 Y3=>hb t g _ s3 ds ds1 _ _ e1 Y3 (hK V t kr).1 (hK V t kr).2 fun s4 g4 V4 p4 Y4 k4=>?_))
  have st3:=(o4.list (P:=P) Y.X.room.2.2).stay _ _ _ _ _ st' (p3.toS.k Y'.X.g fun a ha=>(Y'.X.env.own a ha).2.1) (hv.post (s:={s with heap:=h',toks:=tk}) lI p3.toS).2
  have lI3:∀b∈[I],s3.heap.get? b≠none:=fun b hb=>by rw [aa hb];exact let ⟨_,e,_⟩:=st3.1;ar e
  have iv:=hv I (ay rfl)
  obtain ⟨hv4,kp4⟩:=HX hv lI3 (fun b hb q=>by
   rw [aa hb] at q
   exact (ai q).elim (fun q=>hI (mem_cons_of_mem _ q)) iv.2.2.2) p4
  have st4:=(o4.list (P:=P) Y.X.room.2.2).stay _ _ _ _ _ st3 (p4.k Y3.X.g fun b hb=>(ai hb).elim (fun q=>(Y3.L.vol b (mem_cons_of_mem _ q)).1) fun q=>(Y3.X.env.own b q).2.1) kp4
  have p04:aW [] (I::(as++own env)) g s g4 s4:=(pV.toS.mono fun b hb=>mem_cons.mpr (.inl (aa hb))).trans ((p3.toS.mono fun b hb=>mem_cons_of_mem _ (mem_append_right _ hb)).trans (p4.mono fun b hb=>mem_cons_of_mem _ hb))
  exact ih (j+1) g4 V4 s4 ds1 ds' hj hd' Y4 k4 hv4 st4 e2 fun s' g' ρ' p' Y' k'=>hq s' g' ρ' (p04.trans p') Y' k'
end
section
variable {P:Pg} {B:bG} {C:Ct} {n i:Nat} {A:Around} {env:Env} {g g' ga:Gh} {V:aP} {J:Sg} {s s' s₁:Shared} {h h':Heap} {a:Addr} {as:List Addr} {ks:List T} {ds ds1:List (List T)} {ms:List (Str×Nat)}
theorem qP {v:Option T}:∀{V:aP} {i j:Nat},j≠i->bX (V.set i v) j=bX V j
 | [],_,_,_=>rfl
 |_::_,0,0,h=>(h rfl).elim
 |_::_,0,_+1,_=>rfl
 |_::_,_+1,0,_=>rfl
 |_::V,i+1,j+1,h=>qP (V:=V) fun e=>h (congrArg (·+1) e)
theorem uy {v:Option T}:∀{V:aP} {i:Nat},i < V.length->bX (V.set i v) i=v
 | [],_,h=>(not_lt_zero _ h).elim
 |_::_,0,_=>rfl
 |_::V,i+1,h=>uy (V:=V) (Nat.lt_of_succ_lt_succ h)
theorem aW.drop {I:Addr}{W:List Addr}(p:aJ g s ga s₁)(hI:s.heap.get? I=none)(q:aW [I] (I::W) ga s₁ g' s'):aW [] W g s g' s' where
 st:=St.trans p.st q.st
 keep a o e z o' w:=q.keep a o (p.keep a o e z) (fun x=>(p.Zn a x).elim z (ar e)) (fun ⟨i,x⟩=>o' ⟨i,p.o▸x⟩) fun x=>(au x).elim (fun x=>ar e (x▸hI)) w
 back a _ e:=by
  by_cases x:a=I
  .exact x▸hI
  .exact p.back a (q.back a (fun y=>x (aa y)) e)
 F a f:=q.F a (p.F a f)
 Fn a f:=(q.Fn a f).elim (fun f=>(p.Fn a f).imp_right .inr) fun x=>.inr (x.imp (fun ⟨i,x⟩=>⟨i,p.o▸x⟩) (p.back a))
 Zn a f:=(q.Zn a f).elim (p.Zn a) fun x=>.inr (p.back a x)
 On a f:=(q.On a f).imp (fun ⟨i,x⟩=>⟨i,p.o▸x⟩) (p.back a)
 sp:=q.sp.trans p.sp
 sa:=q.sa.trans p.sa
theorem zr {fo ot kn':Str}{k1 k2 k3:NameKind}{p1 p2 p3 sp ap cp pos:Pos}{kn o:T}{Q:Flow->Shared->Prop}{E:Value->Shared->Prop}(ht1:B.tab[1]?=some (some (fo,k1)))(ht2:B.tab[2]?=some (some (kn',k2)))(ht3:B.tab[3]?=some (some (ot,k3)))(hv2:k9 C 2=true)(hv3:k9 C 3=true)
  (hbase:∀env,attributeBase (.Subscript (.Name fo p1) (.Name ot p2) sp) (ofString "append") env (eval (.Subscript (.Name fo p1) (.Name ot p2) sp) env)=eval (.Subscript (.Name fo p1) (.Name ot p2) sp) env)(hline:(ap.endLine==cp.line)=true)(htrees:∀env,backTo cp (starEach [.Name kn' p3] env)=[(false,eval (.Name kn' p3) env)])
  (hw:∀env,swapsWith (.Call (.Attribute (.Subscript (.Name fo p1) (.Name ot p2) sp) (ofString "append") ap) [.Name kn' p3] [] cp) none pos.line env=pure false)
  (Y:dq P B C n A env J a as ks g V s ds)(e2:bX V 2=some kn)(e3:bX V 3=some o)(est:H7 ks kn o ds=some ds1)(hq:∀s',aW [] (as++own env) g s g s'->dq P B C n A env J a as ks g V s' ds1->Q .next s'):
  wpAny P.M A (exec (.Expr (.Call (.Attribute (.Subscript (.Name fo p1) (.Name ot p2) sp) (ofString "append") ap) [.Name kn' p3] [] cp) pos) env) Q E s:=by
 obtain ⟨i,f1,f2⟩:=aB est
 obtain ⟨j,rfl,f3⟩:=aB f2
 obtain ⟨l,f4,f5⟩:=aB f3
 obtain ⟨hf,rfl⟩:=dD f5
 have X:=Y.X
 obtain ⟨u3,v3,q3⟩:=X.env.var 3 _ o ht3 e3
 obtain ⟨u2,v2,q2⟩:=X.env.var 2 _ kn ht2 e2
 have r3:=jy hv3 q3
 have r2:=jy hv2 q2
 obtain ⟨H,hk⟩:=lG f1
 obtain ⟨ad,rfl,hi,_⟩:=n7 hk (.inl r3)
 obtain ⟨q,ob,es,e,d,r,v,nd,na,lm,ll,c⟩:=id Y.L
 obtain ⟨κs,c1,c2,c3⟩:=d.k
 obtain ⟨ep,dd⟩:=d.d
 obtain ⟨xs,g1,g2,g3⟩:=v8 es ks κs r c1 c2
 have dh:s.heap.DictOfH (b7 P.prog P.w) a xs:=⟨ob,_,ep,e,d.x,dd,g1,g3,by rw [g2];exact c3⟩
 have ff:=kJ (by rw [g2];exact c1) f1 hk
 obtain ⟨z,hz,hz'⟩:=m4 ff
 rw [g1,map_map] at v
 have vj:(as.map Value.ref)[j]?=some z.2.2:=by rw [<-v,getElem?_map,hz];rfl
 rw [getElem?_map] at vj
 obtain ⟨x,hx,hxv⟩:=av vj
 have cl:=c j x l hx f4
 have xm:x∈as:=mem_of_getElem? hx
 rw [exec_Expr env _ pos (by simp [interactive,X.fn]) (hw env)]
 refine wpAny_bind (wpAny_standAt (wpAny_bind (lz j7 hbase hline htrees (Subscript_ (bc X ht1 Y.va (bc X ht3 v3 (tail_any dh.typeIs slot_dict_getitem.lookup (wpAny_getItem_heap (vv X.rm.units) hi dh (p:=z.2) (by rw [oP,ff,bind_some,hz];rfl) ?_) rfl)))))))
 rw [<-hxv]
 refine ⟨sX (t:=.lst l) (.inr ⟨x,rfl,cl⟩) rfl,bc (X.post (.toks g s _) X.g:At P B C n A env g V J {s with toks:=s.toks+(b7 P.prog P.w).draws H}) ht2 v2 ?_⟩
 refine iD A g J _ x u2 (.lst l) kn (.lst (l++[kn])) _ _ X.rm X.g cl r2 (by show (bif bS (l.length+1) then some _ else Option.none)=_;rw [hf];rfl) fun h' tk hs hy=>wpAny_dropValue ?_
 have vx:ju g env [x]:=fun b hb=>aa hb▸lm x (mem_cons_of_mem _ xm)
 have kk:∀b o,s.heap.get? b=some o->b∉[x]->h'.get? b=some o:=fun b o e hb=>(hs b fun q=>hb (ay q)).trans e
 obtain ⟨pV,X'⟩:=dy X vx kk tk
 have kf:aQ g s.heap g h':=pV.toS.k X.g fun b hb=>(vx b hb).1
 have rx:=hy kf
 have pV:=eV pV fun b hb=>by rw [aa hb];exact rx.live
 refine hq _ (pV.toS.mono fun b hb=>mem_append_left _ (aa hb▸xm)) ⟨X',Y.va.move fun b hb o e=>kk b o e fun q=>(lm x (mem_cons_of_mem _ xm)).2.2.2 (aa q▸hb),q,ob,es,kk a ob e fun q=>na (aa q▸xm),d,r.mono kf,by rw [g1,map_map];exact v,nd,na,lm,by rw [length_set];exact ll,fun i b ts h1 h2=>?_⟩
 by_cases ij:i=j
 .subst ij
  rw [hx] at h1;cases h1
  rw [List.getElem?_set_self (ak f4).1] at h2;cases h2
  exact rx
 .rw [List.getElem?_set_ne (Ne.symm ij)] at h2
  refine (c i b ts h1 h2).mono kf fun o e=>kk b o e fun q=>ij ?_
  rw [aa q] at h1
  exact (List.getElem?_inj (ak h1).1 nd).mp (h1.trans hx.symm)
theorem vO {iter:Expr}{pi:PE}{body:List Stmt}{y:Str}{k:NameKind}{tp pos:Pos}{f:T->List (List T)->Option (List (List T))}{K:aP->Prop}{ts:List T}{Q:Flow->Shared->Prop}{E:Value->Shared->Prop}(hfs:∀env x,foldedSetIterable iter env x=pure x)(hi:aq P B C iter pi (RV P))(hc:bO C i false C=true)(ht:B.tab[i]?=some (some (y,k)))(hk:k=.local\/k=.cell)(h1:1≠i)(hK:∀V t,K V->K (V.set i (some t))/\bX (V.set i (some t)) i=some t)
  (hb:∀t g V s ds ds1 (Q:Flow->Shared->Prop) (E:Value->Shared->Prop),f t ds=some ds1->dq P B C n A env J a as ks g V s ds->K V->bX V i=some t->(∀s' g' ρ',aW [] (as++own env) g s g' s'->dq P B C n A env J a as ks g' ρ' s' ds1->K ρ'->Q .next s')->wpAny P.M A (execs body env) Q E s)
  (Y:dq P B C n A env J a as ks g V s ds)(kr:K V)(hp:pi (P.cx n) V J (fun t J=>.ret t J)=.ret (.lst ts) J)(e:qi f ts ds=some ds1)(hq:∀s' g' ρ',aW [] (as++own env) g s g' s'->dq P B C n A env J a as ks g' ρ' s' ds1->K ρ'->Q .next s'):
  wpAny P.M A (exec (.For (.Name y tp) iter body [] pos) env) Q E s:=by
 refine wpAny_For (hi n A env g V J s (fun t J=>.ret t J) _ _ Y.X (by rw [hp];exact fun q=>by cases q) fun x s₁ ga t J1 e1 p w r=>?_) (hfs env)
 rw [hp] at e1;cases e1
 obtain ⟨l,rfl,fl,vs,m,b1,b3,b2⟩:=r
 refine wpAny_pyIter_list ⟨_,b1,rfl,m,rfl⟩ ?_
 obtain ⟨p',w',v⟩:=uA (X:=s7 "list_iterator" l) (tk:=s₁.toks) w p
 have Y1:=Y.post p w
 have pp:aJ ga s₁ ga {s₁ with heap:=s₁.heap.push (s7 "list_iterator" l),toks:=s₁.toks}:=.push _ _
 have Y2:=Y1.post pp w'
 have hI:=v s₁.heap.objs.size (ay rfl)
 refine EU hc ht hk h1 hK hb (fun q=>Y1.L.live _ q (aN _)) ts 0 ga V _ ds ds1 (zero_le _) rfl Y2 kr (fun b hb=>?_) ⟨⟨_,bF _,rfl,rfl⟩,fl,cq s₁ _ _ _ b1,b2.mono (pp.k w)⟩ e fun s' g' ρ' q Y' k'=>hq s' g' ρ' (aW.drop p' hI.1 q) Y' k'
 rw [aa hb]
 exact ⟨hI.2.1,hI.2.2,fun ⟨j,q⟩=>(Y.X.g.O _ ⟨j,p.o▸q⟩).1 hI.1,fun q=>(Y.X.env.own _ q).1 hI.1⟩
end
structure AV (h₀ h:Heap) (items:Array Value) (ps:List (Addr×Addr)):Prop where
 nw:∀p∈ps,h₀.get? p.1=none/\h₀.get? p.2=none
 nd:(ps.map (·.2)).Nodup
 at_:∀(i:Nat) (p:Addr×Addr),ps[i]?=some p->∃v m,items[i]?=some v/\h.get? p.1=some (dW #[v,.ref p.2] m)/\h.get? p.2=some (bA #[] 0)
theorem AV.keep {h₀ h h':Heap}{items:Array Value}{ps:List (Addr×Addr)}(q:AV h₀ h items ps)(k:∀p∈ps,(∀o,h.get? p.1=some o->h'.get? p.1=some o)/\∀o,h.get? p.2=some o->h'.get? p.2=some o):AV h₀ h' items ps:=
 ⟨q.nw,q.nd,fun i p e=>let ⟨v,m,h1,h2,h3⟩:=q.at_ i p e;⟨v,m,h1,(k p (mem_of_getElem? e)).1 _ h2,(k p (mem_of_getElem? e)).2 _ h3⟩⟩
theorem AV.live {h₀ h:Heap}{items:Array Value}{ps:List (Addr×Addr)}(q:AV h₀ h items ps):∀p∈ps,(∃m v,h.get? p.1=some (dW v m))/\h.get? p.2=some (bA #[] 0):=fun p hp=>by
 obtain ⟨i,hi⟩:=getElem?_of_mem hp
 obtain ⟨v,m,_,h2,h3⟩:=q.at_ i p hi
 exact ⟨⟨m,_,h2⟩,h3⟩
section
variable {P:Pg} {A:Around}
theorem BU {I D l:Addr}{c:Nat}{cenv:Env}{x:Str}{px p1 p2 pt pos:Pos}{kt:Nat}{iter:Expr}{scope:Scope}{items:Array Value}{h₀:Heap}(hh:A.handled=none)(hkd:cenv.scope.kind=.function)(hkn:cenv.kindOf x=some .local)(hd:(x==("__debug__":Str))=false)(hz:items.size<=lim)
  (lI:h₀.get? I≠none)(lD:h₀.get? D≠none)(lL:h₀.get? cenv.locals≠none)(nID:I≠D)(nIL:I≠cenv.locals)(nDL:D≠cenv.locals)(hl:h₀.get? l=some (bA items c))(nl:l≠I/\l≠D/\l≠cenv.locals):
  ∀(k i:Nat) (s:Shared) (acc:Array Value) (cnt:Nat) (m:Str->Option Value) (ps:List (Addr×Addr)) (R:Result->Shared->Prop),items.size - i=k->i<=items.size->(∀b o,b≠I->b≠D->b≠cenv.locals->h₀.get? b=some o->s.heap.get? b=some o)->s.heap.IsListIter I l i->s.heap.Ns cenv.locals m->s.heap.get? D=some (bA acc cnt)->acc.toList=ps.map (fun p=>Value.ref p.1)->ps.length=i->AV h₀ s.heap items ps->
   (∀h' tk acc' cnt' m' ps',(∀b o,b≠I->b≠D->b≠cenv.locals->h₀.get? b=some o->h'.get? b=some o)->h'.Ns cenv.locals m'->h'.get? D=some (bA acc' cnt')->acc'.toList=ps'.map (fun p=>Value.ref p.1)->ps'.length=items.size->AV h₀ h' items ps'->R (.ok .next) {s with heap:=h',toks:=tk})->
   codeAny P.M A (.compLoop (.ListComp (.Tuple [.Name x p1,.List [] p2] kt pt) [⟨.Name x px,iter,[],0⟩] scope pos) 0 (.ref I) (.ref D) cenv) R s:=by
 have hp:(cenv.scope.kind==.class||(cenv.scope.kind==.module&&cenv.locals !=cenv.globals))=false:=by rw [hkd];rfl
 have out:∀{b:Addr},h₀.get? b=none->b≠I/\b≠D/\b≠cenv.locals:=fun e=>⟨fun q=>lI (q▸e),fun q=>lD (q▸e),fun q=>lL (q▸e)⟩
 intro k
 induction k with
 |zero=>
  intro i s acc cnt m ps R hk hi kp it hn hD' ea el pr hR
  obtain rfl:i=items.size:=le_antisymm hi (Nat.le_of_sub_eq_zero hk)
  refine eQ (wpAny_pyNext_list_end hh it ⟨_,kp _ _ nl.1 nl.2.1 nl.2.2 hl,rfl,c,rfl⟩ (Array.getElem?_eq_none (le_refl _)) fun h' hs=>?_)
  exact hR h' s.toks acc cnt m ps (fun b o n1 n2 n3 e=>hs b o n1 (kp b o n1 n2 n3 e)) (hn.at fun o e=>hs _ o (Ne.symm nIL) e) (hs D _ (Ne.symm nID) hD') ea el (pr.keep fun p hp=>⟨fun o e=>hs _ o (out (pr.nw p hp).1).1 e,fun o e=>hs _ o (out (pr.nw p hp).2).1 e⟩)
 |succ k ih=>
  intro i s acc cnt m ps R hk hi kp it hn hD' ea el pr hR
  have hlt:i < items.size:=Nat.lt_of_sub_eq_succ hk
  refine eQ (wpAny_pyNext_list_item it ⟨_,kp _ _ nl.1 nl.2.1 nl.2.2 hl,rfl,c,rfl⟩ (Array.getElem?_eq_getElem hlt) fun ha it1 hs1=>?_)
  have hn1:ha.Ns cenv.locals m:=hn.at fun o e=>(hs1.2 _ (Ne.symm nIL)).trans e
  refine wpAny_pure (wpAny_assign_Name (wpAny_storeName_local hkn hn1 (fun hc hn2 hs2=>wpAny_tests_nil ?_) hp))
  rw [if_pos rfl]
  refine (wpAny_Tuple (wpAny_items_cons (wpAny_Name (wpAny_loadName_local hkd hkn hn2 (if_pos rfl) (wpAny_items_cons (wpAny_List (wpAny_items_nil ⟨zero_le _,wpAny_items_nil ⟨(show 2<=sizeLine by decide),?_⟩⟩)) rfl)) hd) rfl))
  have k2:∀b o,b≠I->b≠cenv.locals->s.heap.get? b=some o->hc.get? b=some o:=fun b o n1 n2 e=>(hs2.2 b n2).trans ((hs1.2 b n1).trans e)
  have k4:∀b o,hc.get? b=some o->((hc.push (bA #[] 0)).push (dW #[items[i],.ref hc.objs.size] 0)).get? b=some o:=fun b o e=>Heap.get?_push_of_some _ (Heap.get?_push_of_some _ e)
  have n2:hc.get? hc.objs.size=none:=aN _
  have n3:(hc.push (bA #[] 0)).get? (hc.push (bA #[] 0)).objs.size=none:=aN _
  have d2:∀{b:Addr},hc.get? b=none->h₀.get? b=none:=fun {b} e=>by
   cases q:h₀.get? b with
   |none=>rfl
   |some o=>
    by_cases b1:b=I
    .exact (let ⟨_,z,_⟩:=it1;ar ((hs2.2 I nIL).trans z) (b1▸e)).elim
    .by_cases b2:b=cenv.locals
     .exact (let ⟨_,_,_,z,_⟩:=hn2;ar z (b2▸e)).elim
     .by_cases b3:b=D
      .exact (ar (k2 D _ (Ne.symm nID) nDL hD') (b3▸e)).elim
      .exact (ar (k2 b o b1 b2 (kp b o b1 b3 b2 q)) e).elim
  have d3:hc.get? (hc.push (bA #[] 0)).objs.size=none:=cJ (fun b o e=>Heap.get?_push_of_some _ e) _ n3
  have pr2:AV h₀ hc items ps:=pr.keep fun p hp=>⟨fun o e=>k2 _ o (out (pr.nw p hp).1).1 (out (pr.nw p hp).1).2.2 e,fun o e=>k2 _ o (out (pr.nw p hp).2).1 (out (pr.nw p hp).2).2.2 e⟩
  refine eL (k4 _ _ (k2 D _ (Ne.symm nID) nDL hD')) ?_ (bj (by have:=congrArg List.length ea;rw [length_map,el,Array.length_toList] at this;rw [this];exact le_trans (le_of_lt hlt) hz))
  have hs5:=Heap.SameBut.update ((hc.push (bA #[] 0)).push (dW #[items[i],.ref hc.objs.size] 0)) D (Obj.mapSeq fun a=>a.push (.ref (hc.push (bA #[] 0)).objs.size))
  have t1:((hc.push (bA #[] 0)).push (dW #[items[i],.ref hc.objs.size] 0)).get? (hc.push (bA #[] 0)).objs.size=some (dW #[items[i],.ref hc.objs.size] 0):=bF _
  have t2:((hc.push (bA #[] 0)).push (dW #[items[i],.ref hc.objs.size] 0)).get? hc.objs.size=some (bA #[] 0):=Heap.get?_push_of_some _ (bF _)
  have o1:=out (d2 d3)
  have o2:=out (d2 n2)
  refine ih (i+1) _ _ _ _ (ps++[((hc.push (bA #[] 0)).objs.size,hc.objs.size)]) R (vi hk) hlt (fun b o n1 n2 n3 e=>(hs5.2 b n2).trans (k4 b o (k2 b o n1 n3 (kp b o n1 n2 n3 e)))) (let ⟨o,z,r⟩:=it1;⟨o,(hs5.2 I nID).trans (k4 I o ((hs2.2 I nIL).trans z)),r⟩) (hn2.at fun o e=>(hs5.2 _ (Ne.symm nDL)).trans (k4 _ o e)) (IsL.update (k4 _ _ (k2 D _ (Ne.symm nID) nDL hD')) _) (by rw [Array.toList_push,ea,map_append];rfl) (by rw [List.length_append,el];rfl) ⟨fun p hp=>?_,?_,fun j p e=>?_⟩ fun h' tk acc' cnt' m' ps'=>hR h' tk acc' cnt' m' ps'
  .rcases ai hp with hp |hp
   .exact pr.nw p hp
   .rw [aa hp];exact ⟨d2 d3,d2 n2⟩
  .rw [map_append,nodup_append]
   refine ⟨pr.nd,pairwise_singleton _ _,fun b hb b' hb' q=>?_⟩
   obtain ⟨p,hp,rfl⟩:=aC hb
   rw [aa (show b'∈[hc.objs.size] from hb')] at q
   have:=(pr2.live p hp).2
   rw [q,n2] at this;cases this
  .by_cases q:j < ps.length
   .rw [getElem?_append_left q] at e
    have hp:=mem_of_getElem? e
    obtain ⟨v,m,h1,h2,h3⟩:=pr2.at_ j p e
    exact ⟨v,m,h1,(hs5.2 _ (out (pr.nw p hp).1).2.1).trans (k4 _ _ h2),(hs5.2 _ (out (pr.nw p hp).2).2.1).trans (k4 _ _ h3)⟩
   .rw [getElem?_append_right (cw q)] at e
    have:=(ak e).1
    rw [length_singleton] at this
    rw [lt_one_iff.mp this] at e
    cases e
    exact ⟨items[i],0,by rw [(le_antisymm (Nat.sub_eq_zero_iff_le.mp (lt_one_iff.mp this)) (cw q)).trans el];exact Array.getElem?_eq_getElem hlt,(hs5.2 _ o1.2.1).trans t1,(hs5.2 _ o2.2.1).trans t2⟩
end
section
variable {P:Pg} {B:bG} {C:Ct} {n i:Nat} {A:Around} {env:Env} {g g' g1:Gh} {V:aP} {J:Sg} {s s' s₁:Shared} {h h':Heap} {a:Addr} {as:List Addr} {ks:List T} {ds ds1:List (List T)} {ms:List (Str×Nat)}
inductive LA (P:Pg) (h:Heap) (o:Option jv) (a:Addr):Prop
 |mk (e:jv) (us:Array Value) (m:Nat) (he:o=some e) (hg:h.get? a=some (dW us m)) (hu:us.toList=[.ref e.2.1,e.2.2]) (hk:(b7 P.prog P.w).is h e.1 e.2.1)
structure LE (P:Pg) (h:Heap) (vs:List Value) (κs:List Ky) (ps:List (Addr×Addr)) (es:List jv):Prop where
 k:es.map (·.1)=κs
 v:es.map (·.2.2)=ps.map (fun p=>Value.ref p.2)
 e:vs=es.map (fun y=>Value.ref y.2.1)
 a:∀(i:Nat) p,ps[i]?=some p->LA P h es[i]? p.1
theorem sS:∀(ks:List T) (vs:List Value) (κs:List Ky) (ps:List (Addr×Addr)),aZ P g h ks vs->fW ks=some κs->ps.length=vs.length->(∀(i:Nat) p v,ps[i]?=some p->vs[i]?=some v->∃m,h.get? p.1=some (dW #[v,.ref p.2] m))->
  ∃es:List jv,LE P h vs κs ps es
 | [],vs,κs,ps,r,e,l,_=>by
  cases r;cases e
  cases length_eq_zero_iff.mp l
  exact ⟨[],rfl,rfl,rfl,fun i p q=>by cases q⟩
 |t::ks,_,κs,ps,⟨v,vs,e0,q,r⟩,e,l,c=>by
  subst e0
  obtain ⟨H,Hs',e1,e2,e3⟩:=bz (show o2 (zC t) (fW ks) _=some κs from e)
  cases e3
  cases ps with
  |nil=>cases l
  |cons p ps=>
   obtain ⟨ad,rfl,hi,_⟩:=n7 e1 (.inl q)
   obtain ⟨m,hm⟩:=c 0 p _ rfl rfl
   obtain ⟨es,h1,h2,h3,h4⟩:=sS ks vs Hs' ps r e2 (Nat.succ.inj l) fun i p v q1 q2=>c (i+1) p v q1 q2
   refine ⟨(H,ad,.ref p.2)::es,by rw [map_cons,h1],by rw [map_cons,h2];rfl,by rw [map_cons,<-h3],fun j p' hj=>?_⟩
   cases j with
   |zero=>cases hj;exact ⟨_,_,m,rfl,hm,rfl,hi⟩
   |succ j=>exact h4 j p' hj
theorem qh:∀{ks us:List T},fg ks us=true->∃κs,fW ks=some κs
 | [],_,_=>⟨[],rfl⟩
 |k::ks,us,e=>by
  rw [od] at e
  match q:kU us k with
  |some none=>
   rw [q] at e
   obtain ⟨H,hk⟩:=lG q
   obtain ⟨κs,h⟩:=qh (ks:=ks) e
   exact ⟨H::κs,by show o2 (zC k) (fW ks) _=_;rw [hk,h];rfl⟩
  |some (some _)=>rw [q] at e;cases e
  |none=>rw [q] at e;cases e
theorem om:∀(ks us:List T) (xs es:List jv),fg ks us=true->fW us=some (xs.map (·.1))->fW ks=some (es.map (·.1))->ou es xs=xs++es
 | [],us,xs,es,_,_,e=>by
  cases es with
  |nil=>rw [append_nil];rfl
  |cons=>cases e
 |k::ks,us,xs,es,hf,hu,e=>by
  obtain ⟨H,κs,e1,e2,e3⟩:=bz (show o2 (zC k) (fW ks) _=some (es.map (·.1)) from e)
  cases es with
  |nil=>cases e3
  |cons x es=>
   have e3:=Option.some.inj e3
   obtain ⟨rfl,e4⟩:=List.cons.inj e3
   rw [od] at hf
   match q:kU us k with
   |some none=>
    rw [q] at hf
    have at0:atKey xs x.1=none:=by rw [oP,kJ hu q e1];rfl
    have st:storedH xs x.1 x.2.1 x.2.2=xs++[x]:=storedH_new at0 _ _
    have:=om ks (us++[k]) (xs++[x]) es hf (by rw [map_append];exact uN hu e1) (by rw [e2,e4])
    show ou es (storedH xs x.1 x.2.1 x.2.2)=_
    rw [st,this,List.append_assoc];rfl
   |some (some _)=>rw [q] at hf;cases hf
   |none=>rw [q] at hf;cases hf
theorem xK.new {acc items:Array Value}{cnt:Nat}{D:Addr}{ps:List (Addr×Addr)}{Q:Value->Shared->Prop}{E:Value->Shared->Prop}(G:t7 P)(rm:Rm A)(w:bC P g s₁.heap J)(r:aZ P g s₁.heap ks items.toList)(hl:ks.length<=lim)(hf:fg ks []=true)(hD:s₁.heap.get? D=some (bA acc cnt))(ea:acc.toList=ps.map fun p=>Value.ref p.1)(el:ps.length=items.size)(pr:AV h s₁.heap items ps)
  (hn:∀p∈ps,¬g.F p.2/\¬g.Z p.2)(ho:∀b,h.get? b=none->¬g.O b/\b∉own env)(hw:∀b∈own env,s₁.heap.get? b≠none)
  (hq:∀S s',aJ g s₁ g s'->bC P g s'.heap J->xK P env g s'.heap S (ps.map (·.2)) ks (ks.map fun _=>[])->s₁.heap.get? S=none->Q (.ref S) s'):wpAny P.M A (call (.type "dict") [.ref D]) Q E s₁:=by
 obtain ⟨κs,hk⟩:=qh hf
 obtain ⟨es,h1,h2,h3,h4⟩:=sS ks _ κs ps r hk (by rw [el];rfl) fun i p v q1 q2=>by
  obtain ⟨v',m,z1,z2,_⟩:=pr.at_ i p q1
  rw [Array.getElem?_toList,z1] at q2
  cases q2;exact ⟨m,z2⟩
 have hz:acc.size=ps.length:=by have:=congrArg List.length ea;rw [length_map] at this;exact this
 have le:es.length=ps.length:=by have:=congrArg List.length h2;rw [length_map,length_map] at this;exact this
 have li:=r.length
 refine gD (es:=es) (by have:=rm.units;lia -abstractProof) rm.handled hD (by rw [le,hz]) (by rw [hz,el];rw [Array.length_toList] at li;rw [li];exact hl) (fun i v hv=>?_) fun h' tk dd kp=>?_
 .rw [<-Array.getElem?_toList,ea,getElem?_map] at hv
  obtain ⟨p,hp,rfl⟩:=av hv
  obtain ⟨e,us,m,z1,z2,z3,z4⟩:=h4 i p hp
  exact ⟨p.1,e,us,m,rfl,z1,z2,z3,z4⟩
 have ef:=om ks [] [] es hf rfl (by rw [h1];exact hk)
 rw [List.nil_append] at ef
 rw [ef] at dd
 obtain ⟨o,es',ep,e,x,d,q1,q3,q4⟩:=dd
 have pp:aJ g s₁ g {s₁ with heap:=h',toks:=tk}:=.grow tk kp g.F (fun _ f=>f) fun _ f=>.inl f
 have dn:=aN s₁.heap
 have lps:∀b∈ps.map (·.2),s₁.heap.get? b=some (bA #[] 0)/\h.get? b=none/\¬g.F b/\¬g.Z b:=fun b hb=>by
  obtain ⟨p,hp,rfl⟩:=aC hb
  exact ⟨(pr.live p hp).2,(pr.nw p hp).2,hn p hp⟩
 refine hq _ _ pp (w.grow kp g.F (fun _ f=>f) fun _ f=>.inl f) ⟨qA G w,o,es'.toList,e,⟨x,⟨ep,d⟩,⟨κs,hk,?_,?_⟩,hl⟩,?_,?_,pr.nd,fun q=>?_,fun b hb=>?_,?_,fun i b ts b1 b2=>?_⟩ dn
 .rw [q1,map_map,<-h1,map_map];rfl
 .rw [<-h1];exact q4
 .rw [q1,map_map]
  show aZ P g h' ks (es.map fun y=>Value.ref y.2.1)
  rw [<-h3];exact r.mono (pp.k w)
 .rw [q1,map_map,map_map]
  exact h2
 .have:=(lps _ q).1
  rw [dn] at this;cases this
 .rcases au hb with rfl |hb
  .obtain ⟨z1,z2,z3⟩:=dM w
   exact ⟨z1,z2,z3,fun q=>hw _ q dn⟩
  .obtain ⟨_,z1,z2,z3⟩:=lps b hb
   exact ⟨z2,z3,(ho b z1).1,(ho b z1).2⟩
 .rw [length_map,length_map,el];rw [Array.length_toList] at li;exact li
 .rw [getElem?_map] at b2
  obtain ⟨_,_,rfl⟩:=av b2
  exact ⟨#[],0,kp _ _ (lps b (mem_of_getElem? b1)).1,zero_le _,rfl⟩
end
noncomputable def IT (scope:Scope)(x:Str):Bool:=scope.kind==.function&&(scope.names.all (fun x=>!(x.2==.local)||scope.names.lookup x.1==some .local)&&(scope.names.all (fun x=>!(x.2==.cell)&&!(x.2==.free))&&((scope.names.lookup x==some .local)&&!(x==("__debug__":Str)))))
section
variable {P:Pg} {B:bG} {C C':Ct} {n i:Nat} {A:Around} {env:Env} {g g' g1:Gh} {V:aP} {J:Sg} {s s' s₁:Shared} {h h':Heap} {a:Addr} {as:List Addr} {ks:List T} {ds ds1:List (List T)} {ms:List (Str×Nat)}
theorem tU {c j:Nat}{w t:T}(e0:bX V 0=some w)(hk:o3 c j w=some t):p1 (o3 c j) (pV 0) (P.cx n) V J (fun t J=>.ret t J)=.ret t J:=by
 show up (bX V 0) J (fun a J=>up (o3 c j a) J fun t J=>.ret t J)=_
 rw [e0]
 show up (o3 c j w) J _=_
 rw [hk];rfl
theorem zt {x wn:Str}{k0:NameKind}{px p1 p2 pt ap np pos:Pos}{kt:Nat}{scope:Scope}{w:T}{Q:Value->Shared->Prop}{E:Value->Shared->Prop}(O:bH P 10 ms)(hB:IT scope x=true)(hv0:k9 C 0=true)(ht0:B.tab[0]?=some (some (wn,k0)))(X:At P B C n A env g V J s)(e0:bX V 0=some w)(hk:o3 10 4 w=some (.lst ks))
  (hq:∀D acc cnt items ps s' g',aJ g s g' s'->bC P g' s'.heap J->aZ P g' s'.heap ks (items:Array Value).toList->ks.length<=lim->s'.heap.get? D=some (bA acc cnt)->acc.toList=ps.map (fun p:Addr×Addr=>Value.ref p.1)->ps.length=items.size->AV s.heap s'.heap items ps->(∀p∈ps,¬g'.F p.2/\¬g'.Z p.2)->Q (.ref D) s'):
  wpAny P.M A (eval (.ListComp (.Tuple [.Name x p1,.List [] p2] kt pt) [⟨.Name x px,.Attribute (.Name wn np) (ofString "knots") ap,[],0⟩] scope pos) env) Q E s:=by
 obtain ⟨b1,hB⟩:=aj hB
 obtain ⟨b2,hB⟩:=aj hB
 obtain ⟨b3,hB⟩:=aj hB
 obtain ⟨b4,b5⟩:=aj hB
 have b3:=fun y hy=>aj (aA b3 y hy)
 have hkind:scope.kind=.function:=eq_of_beq b1
 have hx:scope.names.lookup x=some .local:=eq_of_beq b4
 rw [eval_ListComp]
 refine wpAny_comprehension_free (use:=none) rfl (fun _=>rfl) (jf (env:=env) fun y hy=>?_) hkind (fun y hy e=>?_) ?_
 .have:=(b3 _ hy).2;cases this
 .have:=aA b2 y hy
  rw [e] at this;exact eq_of_beq this
 have hp:=tU (P:=P) (n:=n) (J:=J) e0 hk
 refine aq.attr O rfl (fun _=>rfl) (fun _ _=>rfl) (aq.var hv0 ht0) n A env g V J s (fun t J=>.ret t J) _ _ X (by rw [hp];exact fun q=>by cases q) fun u s₁ g1 t J1 e1 pa w1 r1=>?_
 rw [hp] at e1;cases e1
 obtain ⟨l,rfl,fl,items,c,c1,c3,c2⟩:=r1
 refine wpAny_pyIter_list ⟨_,c1,rfl,c,rfl⟩ (wpAny_newList (wpAny_newFunctionEnv (fun y hy e=>?_) (fun y hy=>by cases hy) (fun h5 hn5 hsb5=>?_) hkind))
 .have:=(b3 y hy).1;rw [e] at this;cases this
 dsimp only at hn5 hsb5 ⊢
 have nI:s₁.heap.get? s₁.heap.objs.size=none:=aN _
 have tI:=bF (h:=s₁.heap) (s7 "list_iterator" l)
 have k3:∀b o,s₁.heap.get? b=some o->(s₁.heap.push (s7 "list_iterator" l)).get? b=some o:=cq s₁ _
 show codeAny _ _ _ _ _
 generalize s₁.heap.push (s7 "list_iterator" l)=h3 at *
 have nD:h3.get? h3.objs.size=none:=aN _
 have tD:=bF (h:=h3) (bA #[] 0)
 have k4:∀b o,h3.get? b=some o->(h3.push (bA #[] 0)).get? b=some o:=fun b o e=>Heap.get?_push_of_some _ e
 have hsb5:Heap.SameBut (h3.push (bA #[] 0)).objs.size ((h3.push (bA #[] 0)).push {cls:=.type "dict",data:=.dict #[]}) h5:=hsb5
 have hn5:h5.Ns (h3.push (bA #[] 0)).objs.size (fun _=>none):=hn5
 have nL:(h3.push (bA #[] 0)).get? (h3.push (bA #[] 0)).objs.size=none:=aN _
 generalize h3.push (bA #[] 0)=h4 at *
 have k5:∀b o,h4.get? b=some o->h5.get? b=some o:=fun b o e=>(hsb5.2 b fun q=>ar e (q▸nL)).trans (Heap.get?_push_of_some _ e)
 generalize h4.objs.size=L at *
 generalize h3.objs.size=D at *
 generalize s₁.heap.objs.size=I at *
 have eI:=k5 _ _ (k4 _ _ tI)
 have eD:=k5 _ _ tD
 have k1:∀b o,s₁.heap.get? b=some o->h5.get? b=some o:=fun b o e=>k5 b o (k4 b o (k3 b o e))
 have nID:I≠D:=fun q=>ar tI (q▸nD)
 have nIL:I≠L:=fun q=>ar (k4 _ _ tI) (q▸nL)
 have nDL:D≠L:=fun q=>ar tD (q▸nL)
 have nD1:s₁.heap.get? D=none:=cJ k3 _ nD
 have nL1:s₁.heap.get? L=none:=cJ k3 _ (cJ k4 _ nL)
 have ne1:∀{b:Addr} {o:Obj},s₁.heap.get? b=some o->b≠I/\b≠D/\b≠L:=fun e=>⟨fun q=>ar e (q▸nI),fun q=>ar e (q▸nD1),fun q=>ar e (q▸nL1)⟩
 have lL:h5.get? L≠none:=let ⟨_,_,_,z,_⟩:=hn5;ar z
 have hkn:(compEnvC scope (eH env scope.names []) L env).kindOf x=some .local:=lookup_relabel_local hx
 have loop:codeAny P.M A (.compLoop (.ListComp (.Tuple [.Name x p1,.List [] p2] kt pt) [⟨.Name x px,.Attribute (.Name wn np) (ofString "knots") ap,[],0⟩] scope pos) 0 (.ref I) (.ref D) (compEnvC scope (eH env scope.names []) L env)) (compPost P.M A E none Q (.ref D) L) {s₁ with heap:=h5,toks:=s₁.toks+([]:List (Str×Value)).length}:=by
  refine BU (h₀:=h5) X.room.2.2 hkind hkn ((not_eq_true' _).mp b5) (by have:=c2.length;rw [Array.length_toList] at this;rw [this];exact c3) (ar eI) (ar eD) lL nID nIL nDL (k1 _ _ c1) (ne1 c1) _ 0 _ #[] 0 _ [] _ rfl (zero_le _) (fun b o _ _ _ e=>e) ⟨_,eI,rfl,rfl⟩ hn5 eD rfl rfl ⟨(fun p hp=>by cases hp),.nil,fun i p e=>by cases e⟩ fun h' tk acc' cnt' m' ps' kp hn' hD' ea el pr=>⟨m',hn',fun h7 hs7=>?_⟩
  have k7:∀b o,s₁.heap.get? b=some o->h7.get? b=some o:=fun b o e=>(hs7.2 b (ne1 e).2.2).trans (kp b o (ne1 e).1 (ne1 e).2.1 (ne1 e).2.2 (k1 b o e))
  have p7:aJ g1 s₁ g1 {s₁ with heap:=h7,toks:=tk}:=.grow tk k7 g1.F (fun _ f=>f) fun _ f=>.inl f
  have d1:∀{b:Addr},h5.get? b=none->s₁.heap.get? b=none:=fun e=>cJ k1 _ e
  refine hq D acc' cnt' items ps' _ g1 (pa.trans p7) (w1.grow k7 g1.F (fun _ f=>f) fun _ f=>.inl f) (c2.mono (p7.k w1)) c3 ((hs7.2 D nDL).trans hD') ea el ⟨fun p hp=>⟨pa.back _ (d1 (pr.nw p hp).1),pa.back _ (d1 (pr.nw p hp).2)⟩,pr.nd,fun i p e=>?_⟩ fun p hp=>⟨fun f=>w1.F _ f (d1 (pr.nw p hp).2),fun z=>(w1.Z _ z).1 (d1 (pr.nw p hp).2)⟩
  have hp:=mem_of_getElem? e
  obtain ⟨v,m,q1,q2,q3⟩:=pr.at_ i p e
  exact ⟨v,m,q1,(hs7.2 _ fun q=>lL (q▸(pr.nw p hp).1)).trans q2,(hs7.2 _ fun q=>lL (q▸(pr.nw p hp).2)).trans q3⟩
 exact codeAny_compStart_list loop (wpAny_pyIter_listiter ⟨_,eI,rfl,rfl⟩ loop)
theorem At.one {w:T}(X:At P B C n A env g V J s)(e0:bX V 0=some w)(h0:0∉C.U):At P B C n A env g [some w,none,none,none] J s:=
 have k:∀{i:Nat} {t:T},bX [some w,none,none,none] i=some t->i=0/\t=w:=fun {i t} e=>by
  match i,e with
  | 0,e=>cases e;exact ⟨rfl,rfl⟩
  | 1,e=>cases e
  | 2,e=>cases e
  | 3,e=>cases e
  |_+4,e=>cases e
 ⟨X.good,X.call,X.room,{X.env with
  var:=fun i y t ht hv=>let ⟨h1,h2⟩:=k hv;X.env.var i y t ht (by rw [h1,h2];exact e0)
  un:=fun i hi=>by
   cases e:bX [some w,none,none,none] i with
   |none=>rfl
   |some t=>exact (h0 ((k e).1▸hi)).elim},X.g⟩
theorem bC.freezeL {l:List Addr}(w:bC P g h J)(hl:∀b∈l,h.get? b≠none/\¬g.Z b/\¬g.O b):bC P {g with F:=fun y=>g.F y\/y∈l} h J:=by
 have kf:aQ g h {g with F:=fun y=>g.F y\/y∈l} h:=⟨fun b f=>⟨.inl f,fun _ e=>e⟩,rfl⟩
 exact ⟨fun b o e=>⟨.inl (w.base b o e).1,(w.base b o e).2⟩,fun b f=>f.elim (w.F b) fun q=>(hl b q).1,fun b q=>⟨(w.Z b q).1,fun f=>f.elim (w.Z b q).2 fun e=>(hl b e).2.1 q⟩,
  fun b q=>⟨(w.O b q).1,fun f=>f.elim (w.O b q).2.1 fun e=>(hl b e).2.2 q,(w.O b q).2.2⟩,w.oo,w.spot,fun c ts e=>(w.self c ts e).mono kf (fun _ q=>⟨q,fun _ e=>e⟩) rfl⟩
theorem xK.rp (L:xK P env g h a as ks ds):Rp P {g with F:=fun y=>g.F y\/y∈a::as} h (.dct ks (ds.map .lst)) (.ref a):=by
 have kf:aQ g h {g with F:=fun y=>g.F y\/y∈a::as} h:=⟨fun b f=>⟨.inl f,fun _ e=>e⟩,rfl⟩
 obtain ⟨q,o,es,e,d,r,v,nd,na,lm,l,c⟩:=L
 refine ⟨a,rfl,.inr mem_cons_self,rN.mk q o es e d (r.mono kf) ?_⟩
 rw [v]
 refine aZ.of (by rw [length_map,length_map];exact l) fun i u t h1 h2=>?_
 rw [getElem?_map] at h1 h2
 obtain ⟨x,hx,rfl⟩:=av h1
 obtain ⟨ts,ht,rfl⟩:=av h2
 exact ((c i x ts hx ht).mono kf fun _ e=>e).rp (.inr (mem_cons_of_mem _ (mem_of_getElem? hx)))
theorem Ey {wn fo kn' ot x:Str}{k0 k1 k2 k3:NameKind}{q1 q2 q3 q4 px p1 p2 pt ap np cpos tp np2 ap2 fpos tp2 np3 ap3 sp3 kp3 fpos2 f1 f2 f3 fs fa fc fe rp rr:Pos}{kt:Nat}{scope:Scope}(O:bH P 10 ms)(hB:IT scope x=true)(h0:C.U.all (fun i=>Nat.ble 1 i)=true)(hv:(k9 C 0&&(k9 C 2&&k9 C 3))=true)(hc:(bO C 1 false C&&(bO C 2 false C&&bO C 3 false C))=true)
  (ht0:B.tab[0]?=some (some (wn,k0)))(ht1:B.tab[1]?=some (some (fo,k1)))(ht2:B.tab[2]?=some (some (kn',k2)))(ht3:B.tab[3]?=some (some (ot,k3)))(hk1:k1=.local\/k1=.cell)(hk2:k2=.local\/k2=.cell)(hk3:k3=.local\/k3=.cell)
  (hx:B.sc.names.lookup (ofString "dict")=some .globalImplicit)(hw1:r7 (.Call (.Name (ofString "dict") q2) [.ListComp (.Tuple [.Name x p1,.List [] p2] kt pt) [⟨.Name x px,.Attribute (.Name wn np) (ofString "knots") ap,[],0⟩] scope cpos] [] q3) fo q1 q4.line B.sc=false)
  (hbase:∀env,attributeBase (.Subscript (.Name fo f1) (.Name ot f2) fs) (ofString "append") env (eval (.Subscript (.Name fo f1) (.Name ot f2) fs) env)=eval (.Subscript (.Name fo f1) (.Name ot f2) fs) env)(hline:(fa.endLine==fc.line)=true)
  (hw:∀env,swapsWith (.Call (.Attribute (.Subscript (.Name fo f1) (.Name ot f2) fs) (ofString "append") fa) [.Name kn' f3] [] fc) none fe.line env=pure false):
  fu P B C false C' [.Assign [.Name fo q1] (.Call (.Name (ofString "dict") q2) [.ListComp (.Tuple [.Name x p1,.List [] p2] kt pt) [⟨.Name x px,.Attribute (.Name wn np) (ofString "knots") ap,[],0⟩] scope cpos] [] q3) q4,
   .For (.Name kn' tp) (.Attribute (.Name wn np2) (ofString "knots") ap2) [.For (.Name ot tp2) (.Subscript (.Attribute (.Name wn np3) (ofString "threads") ap3) (.Name kn' kp3) sp3) [.Expr (.Call (.Attribute (.Subscript (.Name fo f1) (.Name ot f2) fs) (ofString "append") fa) [.Name kn' f3] [] fc) fe] [] fpos2] [] fpos,
   .Return (some (.Name fo rp)) rr] xZ:=fun n A env g V J s k Q E X hb hq hr=>by
 obtain ⟨hv0,hv⟩:=aj hv
 obtain ⟨hv2,hv3⟩:=aj hv
 obtain ⟨hc1,hc⟩:=aj hc
 obtain ⟨hc2,hc3⟩:=aj hc
 unfold xZ at hb hr
 cases e0:bX V 0 with
 |none=>rw [e0] at hb;exact absurd rfl hb
 |some w=>
  cases el:zu w with
  |none=>simp only [e0,el] at hb;exact absurd rfl hb
  |some t=>
   simp only [e0,el] at hr
   obtain ⟨kl,a1,a2⟩:=aB el
   obtain ⟨ks,a3,a4⟩:=aB a2
   obtain ⟨th,a5,a6⟩:=aB a4
   obtain ⟨a7,a8⟩:=rI a6
   obtain ⟨ds,a9,a10⟩:=aB a8
   cases a10
   cases fq a3
   obtain ⟨_,hf⟩:=aj a7
   rw [qa] at a9
   have X:=X.one e0 fun q=>by cases le_of_ble_eq_true (aA h0 0 q)
   refine wpAny_execs_cons (wpAny_Assign_Name (Call_Name rfl (X.blt hx (by decide) (by decide) (v:=.type "dict") (by decide) (bM (fun _ q=>by cases q) (cf fun q hq=>?_) (wpAny_items_cons (zt O hB hv0 ht0 X rfl a1 fun D acc cnt items ps s₁ g1 pa w1 r1 l1 hD ea eq pr hn=>wpAny_items_nil ?_) rfl)))) (by rw [gN X.env.sc,hw1]))
   .cases hq with
    |head=>rfl
    |tail _ h=>cases h
   refine xK.new (env:=env) X.good X.rm w1 r1 l1 hf hD ea eq pr hn (fun b hb=>⟨fun ⟨i,q⟩=>(X.g.O b ⟨i,pa.o▸q⟩).1 hb,fun q=>(X.env.own b q).1 hb⟩) (fun b hb=>pa.live (X.env.own b hb).1) fun S s₂ pb w2 L nS=>?_
   have p02:=pa.trans pb
   refine fT (o:=none) (X.post p02 w2) (cE hc1).1.nu ht1 hk1 (fun _ e=>nomatch e) fun s3 p3 X3 va _=>?_
   have p3:bV [] (own env) g1 s₂ g1 s3:=p3.weak (fun _ h=>h) bQ
   have v3:=L.vol.post L.live p3.toS
   have Y:dq P B C n A env J S (ps.map (·.2)) ks g1 [some w,none,none,none] s3 (ks.map fun _=>[]):=⟨X3,va,L.keep (p3.toS.k w2 fun b hb=>((X.post p02 w2).env.own b hb).2.1) v3.2 v3.1⟩
   have p03:aW [] (own env) g s g1 s3:=p02.toS.trans p3.toS
   refine wpAny_execs_cons (vO (i:=2) (f:=IQ ks th) (K:=fun V=>bX V 0=some w/\V.length=4) (fun _ _=>rfl) (aq.attr O rfl (fun _=>rfl) (fun _ _=>rfl) (aq.var hv0 ht0)) hc2 ht2 hk2 (by decide) (fun V t h=>⟨⟨(qP (by decide)).trans h.1,by rw [length_set];exact h.2⟩,uy (by rw [h.2];decide)⟩) (fun t g V s ds ds1 Q E e Y kr et hq=>?_) Y ⟨rfl,rfl⟩ (tU rfl a1) a9 fun s5 g5 V5 q Y5 ka=>?_)
   .obtain ⟨lv,f1,f2⟩:=aB e
    obtain ⟨os,f3,f4⟩:=aB f2
    cases fq f3
    rw [qc] at f4
    refine wpAny_execs_cons (vO (i:=3) (f:=H7 ks t) (K:=fun V=>(bX V 0=some w/\V.length=4)/\bX V 2=some t) (fun _ _=>rfl) (aq.idxD (fun _ _=>rfl) (dG.vx (aq.attr O (i:=6) rfl (fun _=>rfl) (fun _ _=>rfl) (aq.var hv0 ht0))) (dG.vx (aq.var hv2 ht2))) hc3 ht3 hk3 (by decide) (fun V t h=>⟨⟨⟨(qP (by decide)).trans h.1.1,by rw [length_set];exact h.1.2⟩,(qP (by decide)).trans h.2⟩,uy (by rw [h.1.2];decide)⟩) (fun o g V s ds ds1 Q E e Y kr eo hq=>?_) Y ⟨kr,et⟩ (ts:=os) ?_ f4 fun s' g' ρ' q Y' k'=>wpAny_execs_nil (hq s' g' ρ' q Y' k'.1))
    .exact wpAny_execs_cons (zr ht1 ht2 ht3 hv2 hv3 hbase hline (fun _=>rfl) hw Y kr.2 eo e fun s' q Y'=>wpAny_execs_nil (hq s' g V q Y' kr))
    .show up (bX V 0) J (fun a J=>up (o3 10 6 a) J fun t J=>up (bX V 2) J fun b J=>up (idxD t b) J fun t J=>.ret t J)=_
     simp only [kr.1,up,a5,et,f1]
   .have dd:∀b∈S::ps.map (·.2),s.heap.get? b=none:=fun b hb=>by
     rcases au hb with rfl |hb
     .exact pa.back _ nS
     .obtain ⟨p,hp,rfl⟩:=aC hb
      exact (pr.nw p hp).2
    have wF:=Y5.X.g.freezeL (l:=S::ps.map (·.2)) fun b hb=>⟨Y5.L.live b hb,(Y5.L.vol b hb).2.1,(Y5.L.vol b hb).2.2.1⟩
    refine wpAny_execs_cons (wpAny_Return_some (bc Y5.X ht1 Y5.va (hr _ s5 _ _ J rfl ?_ wF ⟨Y5.L.rp,fun _ _ e=>nomatch e⟩)))
    exact ⟨St.trans p03.st q.st,fun b o e z o' w=>q.keep b o (p03.keep b o e z o' w) (fun x=>(p03.Zn b x).elim z (ar e)) (fun x=>(p03.On b x).elim o' (ar e)) fun x=>(ai x).elim (fun x=>ar e (dd b (mem_cons_of_mem _ x))) w,fun b _ e=>p03.b b (q.b b e),fun b f=>.inl (q.F b (p03.F b f)),
     fun b f=>f.elim (fun f=>(q.Fn b f).elim (p03.Fn b) fun x=>.inr (x.elim (p03.On b) fun x=>.inr (p03.b b x))) fun x=>.inr (.inr (dd b x)),fun b f=>(q.Zn b f).elim (p03.Zn b) fun x=>.inr (p03.b b x),fun b f=>(q.On b f).elim (p03.On b) fun x=>.inr (p03.b b x),q.sp.trans p03.sp,q.sa.trans p03.sa⟩
end
end
end Mine
namespace Mine
noncomputable section
open PySem PyProof.Rows PySem.SeqAt
noncomputable def m7 (L:List Addr)(g:Gh):Gh:={g with F:=fun a=>g.F a/\a∉L}
noncomputable def Fi (L:List Addr)(g:Gh):Gh:={g with F:=fun a=>g.F a\/a∈L}
def JL (L:List Addr)(g:Gh)(h:Heap):Prop:=∀l∈L,g.F l/\∃vs n,h.get? l=some (bA vs n)
theorem FA (L:List Addr):AH (m7 L) (JL L):=
 ⟨fun k=>⟨fun a f=>⟨⟨(k.F a f.1).1,f.2⟩,(k.F a f.1).2⟩,k.sp⟩,fun k j l hl=>⟨(k.F l (j l hl).1).1,let ⟨vs,n,e⟩:=(j l hl).2;⟨vs,n,(k.F l (j l hl).1).2 _ e⟩⟩⟩
section
variable {P:Pg} {B Bc:bG} {C Ci C':Ct} {fr:Bool} {n:Nat} {A:Around} {env:Env} {g g' g1 g0:Gh} {V:aP} {J J':Sg} {s s' s₁ s0:Shared} {h h':Heap} {L:List Addr}
theorem uC {n:Nat}(ih:∀t x,ub n t=true->Rp P g h t x->Rp P (m7 L g) h t x)(ts:List T):∀vs,ts.all (ub n)=true->aZ P g h ts vs->aZ P (m7 L g) h ts vs:=
 List.rec (fun _ _ r=>r) (fun t ts k _ e ⟨v,vs,ev,r,rs⟩=>⟨v,vs,ev,ih t v (cA e) r,k vs (cz e) rs⟩) ts
theorem Di (j:∀l∈L,∃vs n,h.get? l=some (bA vs n))(n:Nat):∀t x,ub n t=true->Rp P g h t x->Rp P (m7 L g) h t x:=
 Nat.rec (motive:=fun n=>∀t x,ub n t=true->Rp P g h t x->Rp P (m7 L g) h t x)
  (fun t x=>T.casesOn (motive_1:=fun t=>ub 0 t=true->Rp P g h t x->Rp P (m7 L g) h t x) t (fun _ r=>r) (fun _ _ r=>r) (fun _ _ r=>r) (fun _ _ r=>r) (fun _ e=>nomatch e) (fun _ e=>nomatch e) (fun _ _ e=>nomatch e) (fun _ _ e=>nomatch e) (fun _ e=>nomatch e) (fun e=>nomatch e) (fun e=>nomatch e))
  (fun n ih t x=>T.casesOn (motive_1:=fun t=>ub (n+1) t=true->Rp P g h t x->Rp P (m7 L g) h t x) t (fun _ r=>r) (fun _ _ r=>r) (fun _ _ r=>r) (fun _ _ r=>r)
   (fun ts e ⟨a,ex,f,vs,m,eo,l,r⟩=>⟨a,ex,⟨f,fun q=>let ⟨_,_,q⟩:=j a q;absurd (Value.type.inj (congrArg Obj.cls (Option.some.inj (eo.symm.trans q)))) (by decide)⟩,vs,m,eo,l,uC ih _ _ e r⟩)
   (fun _ e=>nomatch e) (fun _ _ e=>nomatch e) (fun _ _ e=>nomatch e) (fun _ e=>nomatch e) (fun e=>nomatch e) (fun e=>nomatch e)) n
inductive I5:T->Prop
 |mk (es:List T) (h:es.all (ub 4)=true) (l:es.length+1<=lim):I5 (.lst es)
theorem q6 {t:T}(h:uD t=true):I5 t:=by
 unfold uD at h
 cases e:f8 t with
 |none=>rw [e] at h;cases h
 |some es=>rw [e] at h;rw [fq e];exact ⟨es,(cA h),fB (cz h)⟩
theorem aq.lf {e:Expr}{p:PE}(h:aq P Bc Ci e p (RN P)):CQ P Bc Ci (JL L) e (p1 xQ p) fun _ g h t x=>Rp P (m7 L g) h t x:=fun n A env g V J s k Q E X hj hb hq=>
 h n A env g V J s (fun t J=>up (xQ t) J k) _ E X hb fun x s₁ g1 t J1 e p w r=>by
  obtain ⟨y,e'⟩:=ch fun q=>hb (e.trans q)
  obtain ⟨hl,rfl⟩:=dD e'
  obtain ⟨a,rfl,n',f,z,o,r⟩:=r
  have kf:aQ g1 s₁.heap {g1 with F:=fun y=>g1.F y\/y=a} s₁.heap:=⟨fun b f=>⟨.inl f,fun _ e=>e⟩,rfl⟩
  refine hq _ s₁ {g1 with F:=fun y=>g1.F y\/y=a} _ J1 (e.trans (by rw [e'];rfl)) ⟨p.st,p.keep,p.back,fun b f=>.inl (p.F b f),fun b f=>f.elim (p.Fn b) fun e=>.inr (e▸n'),p.Zn,p.o,p.sp,p.sa⟩ (w.freeze r.live z o) ?_
  have jl:∀l∈L,∃vs n,s₁.heap.get? l=some (bA vs n):=fun l hl=>let ⟨f,vs,n,e⟩:=hj l hl;⟨vs,n,p.keep l _ e fun z=>(X.g.Z l z).2 f⟩
  obtain ⟨ts,h4,_⟩:=q6 hl
  obtain ⟨vs,m,eo,ll,rr⟩:=r
  exact ⟨a,rfl,⟨.inr rfl,fun q=>let ⟨_,_,_,e⟩:=hj a q;ar e n'⟩,vs,m,eo,ll,uC (Di jl 4) _ _ h4 (rr.mono kf)⟩
def mo (j i:Nat)(t:T):T:=bif Nat.blt i j then jY t else t
structure dU (P:Pg) (g:Gh) (h:Heap) (ls:List Addr) (ts:List T) (j:Nat):Prop where
 len:ls.length=ts.length
 c:∀i l t,ls[i]?=some l->ts[i]?=some t->fR P g h l (mo j i t)
variable {ls:List Addr} {ts:List T} {j:Nat}
theorem dU.mono (k:aQ g h g' h')(hl:∀l∈ls,∀o,h.get? l=some o->h'.get? l=some o)(r:dU P g h ls ts j):dU P g' h' ls ts j:=⟨r.len,fun i l t h1 h2=>(r.c i l t h1 h2).mono k (hl l (mem_of_getElem? h1))⟩
theorem dU.at (r:dU P g h ls ts j){l:Addr}(q:l∈ls):∃(i:Nat) (t:T),ls[i]?=some l/\ts[i]?=some t:=
 let ⟨i,hi⟩:=getElem?_of_mem q
 ⟨i,_,hi,getElem?_eq_getElem (r.len▸(ak hi).1)⟩
theorem dU.live (r:dU P g h ls ts j):∀l∈ls,h.get? l≠none:=fun l q=>let ⟨i,t,h1,h2⟩:=r.at q;(r.c i l t h1 h2).live
theorem dU.rp (k:aQ g h g' h)(hF:∀l∈ls,g'.F l)(r:dU P g h ls ts j){us:List T}(hu:us.length=ts.length)(hc:∀i t u,ts[i]?=some t->us[i]?=some u->u=mo j i t):aZ P g' h us (ls.map .ref):=
 aZ.of (by rw [length_map,r.len,hu]) fun i v u h1 h2=>by
  rw [getElem?_map] at h1
  obtain ⟨l,hl,rfl⟩:=av h1
  have lt:=(ak h2).1
  have ht:ts[i]?=some (ts[i]'(hu▸lt)):=getElem?_eq_getElem _
  rw [hc i _ u ht h2]
  exact ((r.c i l _ hl ht).mono k fun _ e=>e).rp (hF l (mem_of_getElem? hl))
theorem dU.lst (hl:ts.all uD=true)(r:dU P g h ls ts 0):∀l∈ls,∃vs n,h.get? l=some (bA vs n):=fun l q=>by
 obtain ⟨i,t,h1,h2⟩:=r.at q
 obtain ⟨es,_,_⟩:=q6 (aA hl t (mem_of_getElem? h2))
 obtain ⟨vs,n,e,_⟩:=r.c i l _ h1 h2
 exact ⟨vs,n,e⟩
structure jq (P:Pg) (B:bG) (C:Ct) (n:Nat) (A:Around) (env:Env) (g0:Gh) (s0:Shared) (ls:List Addr) (iF:Nat) (ta:Addr) (m:Nat) (v:Value) (g:Gh) (V:aP) (J:Sg) (ts:List T) (j:Nat) (s:Shared):Prop where
 X:At P B C n A env g V J s
 p:aW [] (own env) g0 s0 g s
 nw:∀l∈ls,s0.heap.get? l=none
 vol:ju g env ls
 lo:dU P g s.heap ls ts j
 fa:g.F ta
 oa:s.heap.get? ta=some (dW (v::ls.map Value.ref).toArray m)
 va:cQ B env s.heap iF (.ref ta)
variable {iF:Nat} {ta:Addr} {m:Nat} {v:Value}
theorem DN (g:Gh)(h:Heap)(L:List Addr):aQ g h (Fi L g) h:=⟨fun a f=>⟨.inl f,fun _ e=>e⟩,rfl⟩
theorem jq.full (Y:jq P B C n A env g0 s0 ls iF ta m v g V J ts j s){w:Str}(hw:Rp P g s.heap (.str w) v)(hi:iF∉C.U)(ho:bi C iF=false)(hl:ts.length+1<=lim){us:List T}(hu:us.length=ts.length)(hc:∀i t u,ts[i]?=some t->us[i]?=some u->u=mo j i t):At P B C n A env (Fi ls g) (V.set iF (some (.tup (.str w::us)))) J s:=by
 have x:cB P B C env (Fi ls g) V s.heap:=Y.X.env.move (DN g _ ls) rfl rfl (fun _ _ _ e=>e) fun a ha=>let ⟨l,f,z,_⟩:=Y.X.env.own a ha;⟨l,fun q=>q.elim f fun q=>(Y.vol a q).2.2.2 ha,z⟩
 have r:Rp P (Fi ls g) s.heap (.tup (.str w::us)) (.ref ta):=⟨ta,rfl,.inl Y.fa,_,m,Y.oa,by rw [length_cons,hu];exact hl,_,_,rfl,Rp.mono (DN g _ ls) hw,Y.lo.rp (DN g _ ls) (fun l hl=>Or.inr hl) hu hc⟩
 exact ⟨Y.X.good,Y.X.call,Y.X.room,x.add hi Y.va (by unfold bE;rw [ho];exact .inl r),Y.X.g.freezeL fun b hb=>⟨Y.lo.live b hb,(Y.vol b hb).2.1,(Y.vol b hb).2.2.1⟩⟩
theorem jq.run (Y:jq P B C n A env g0 s0 ls iF ta m v g V J ts j s)(p:aJ (Fi ls g) s g' s')(w:bC P g' s'.heap J')(hσ:J'.self=none):jq P B C n A env g0 s0 ls iF ta m v (m7 ls g') V J' ts j s':=by
 have nf:∀a,g.F a->a∉ls:=fun a f q=>(Y.vol a q).1 f
 have q:aJ g s (m7 ls g') s':=⟨p.st,p.keep,p.back,fun a f=>⟨p.F a (.inl f),nf a f⟩,fun a f=>(p.Fn a f.1).imp_left fun x=>x.elim id fun x=>(f.2 x).elim,p.Zn,p.o,p.sp,p.sa⟩
 have w':bC P (m7 ls g') s'.heap J':=⟨fun a o e=>⟨⟨(w.base a o e).1,nf a (Y.X.g.base a o e).1⟩,(w.base a o e).2⟩,fun a f=>w.F a f.1,fun a z=>⟨(w.Z a z).1,fun f=>(w.Z a z).2 f.1⟩,fun a z=>⟨(w.O a z).1,fun f=>(w.O a z).2.1 f.1,(w.O a z).2.2⟩,w.oo,w.spot,fun c ts e=>by rw [hσ] at e;cases e⟩
 have kl:∀l∈ls,∀o,s.heap.get? l=some o->s'.heap.get? l=some o:=fun l hl o e=>q.keep l o e (Y.vol l hl).2.1
 exact ⟨Y.X.post q w',Y.p.trans q.toS,Y.nw,(Y.vol.post Y.lo.live q.toS).1,Y.lo.mono (q.k Y.X.g) kl,q.F ta Y.fa,((q.k Y.X.g).F ta Y.fa).2 _ Y.oa,Y.va.move fun a ha o e=>q.keep a o e (Y.X.env.own a ha).2.2.1⟩
theorem jq.set (Y:jq P B C n A env g0 s0 ls iF ta m v g V J ts j s){ρ':aP}{k:NameKind}{y:Str}{i:Nat}(hi:iF≠i)(p:bV [] (yh k y env) g s g s')(X:At P B C n A env g ρ' J s')(hot:∀j v,j≠i->cQ B env s.heap j v->cQ B env s'.heap j v):jq P B C n A env g0 s0 ls iF ta m v g ρ' J ts j s':=by
 have q:=p.toS.weak bQ
 have nt:∀a,g.F a\/a∈ls->a∉yh k y env:=fun a x z=>x.elim (Y.X.env.own a (bQ a z)).2.1 fun x=>(Y.vol a x).2.2.2 (bQ a z)
 exact ⟨X,Y.p.trans q,Y.nw,(Y.vol.post Y.lo.live q).1,Y.lo.mono (q.k Y.X.g fun a ha=>(Y.X.env.own a ha).2.1) fun l hl o e=>p.keep l o e (Y.vol l hl).2.1 (nt l (.inr hl)),Y.fa,p.keep ta _ Y.oa (fun z=>(Y.X.g.Z ta z).2 Y.fa) (nt ta (.inl Y.fa)),hot iF _ hi Y.va⟩
theorem jq.chg (Y:jq P B C n A env g0 s0 ls iF ta m v g V J ts j s){VVV:List Addr}(hV:ju g env VVV)(h0:∀a∈VVV,s0.heap.get? a=none)(hl:∀a o,s.heap.get? a=some o->a∉VVV->h'.get? a=some o)(tk:Nat){j':Nat}(lo:aQ g s.heap g h'->dU P g h' ls ts j'):jq P B C n A env g0 s0 ls iF ta m v g V J ts j' {s with heap:=h',toks:=tk}:=by
 obtain ⟨p,X⟩:=dy Y.X hV hl tk
 have kf:=p.toS.k Y.X.g fun a ha=>(hV a ha).1
 refine ⟨X,⟨St.trans Y.p.st p.st,fun a o e z o' w=>hl a o (Y.p.keep a o e z o' w) fun x=>ar e (h0 a x),fun a _ e=>?_,Y.p.F,Y.p.Fn,Y.p.Zn,Y.p.On,Y.p.sp,Y.p.sa⟩,Y.nw,Y.vol,lo kf,Y.fa,(kf.F ta Y.fa).2 _ Y.oa,Y.va.move fun a ha o e=>hl a o e fun x=>(hV a x).2.2.2 ha⟩
 by_cases x:a∈VVV
 .exact h0 a x
 .refine Y.p.b a ?_
  cases q:s.heap.get? a with
  |none=>rfl
  |some o=>exact (ar (hl a o q x) e).elim
theorem jq.freeze (Y:jq P B C n A env g0 s0 ls iF ta m v g V J ts j s){D:Addr}(nD:s0.heap.get? D=none)(lD:s.heap.get? D≠none)(vD:ju g env [D])(hD:D∉ls):jq P B C n A env g0 s0 ls iF ta m v {g with F:=fun y=>g.F y\/y=D} V J ts j s:=by
 have kf:aQ g s.heap {g with F:=fun y=>g.F y\/y=D} s.heap:=⟨fun b f=>⟨.inl f,fun _ e=>e⟩,rfl⟩
 obtain ⟨f,z,o,w⟩:=vD D (.head _)
 refine ⟨⟨Y.X.good,Y.X.call,Y.X.room,Y.X.env.move kf rfl rfl (fun _ _ _ e=>e) fun a ha=>let ⟨l,f,z,_⟩:=Y.X.env.own a ha;⟨l,fun q=>q.elim f fun q=>w (q▸ha),z⟩,Y.X.g.freeze lD z o⟩,{Y.p with F:=fun a f=>.inl (Y.p.F a f),Fn:=fun a f=>f.elim (Y.p.Fn a) fun e=>.inr (.inr (e▸nD))},Y.nw,
  fun a ha=>let ⟨f,z,o,w⟩:=Y.vol a ha;⟨fun q=>q.elim f fun q=>hD (q▸ha),z,o,w⟩,Y.lo.mono kf fun _ _ _ e=>e,.inl Y.fa,Y.oa,Y.va⟩
end
section
variable {P:Pg} {B:bG} {C:Ct} {n:Nat} {A:Around} {env:Env} {g g0:Gh} {V:aP} {J:Sg} {s s' s0:Shared} {h h':Heap}
variable {ls:List Addr} {iF:Nat} {ta:Addr} {m:Nat} {v:Value} {ts:List T} {j:Nat}
theorem Gg {j:Nat}{t:T}:mo j j t=t:=by unfold mo;rw [show Nat.blt j j=false from Bool.eq_false_iff.mpr fun q=>lt_irrefl j (le_of_ble_eq_true q)];rfl
theorem Il {j:Nat}{t:T}:mo (j+1) j t=jY t:=by unfold mo;rw [show Nat.blt j (j+1)=true from ble_eq_true_of_le (le_refl _)];rfl
theorem Gf {i j:Nat}{t:T}(h:i≠j):mo (j+1) i t=mo j i t:=by
 unfold mo
 rw [show Nat.blt i (j+1)=Nat.blt i j from Bool.eq_iff_iff.mpr ⟨fun q=>ble_eq_true_of_le (Nat.lt_of_le_of_ne (le_of_lt_succ (le_of_ble_eq_true q)) h),fun q=>ble_eq_true_of_le (le_succ_of_le (le_of_ble_eq_true q))⟩]
theorem dU.step {l:Addr}{es:List T}(r:dU P g h ls ts j)(nd:ls.Nodup)(hl:ls[j]?=some l)(ht:ts[j]?=some (.lst es))(k:aQ g h g h')(hs:∀b,b≠l->h'.get? b=h.get? b)(hy:fR P g h' l (jY (.lst es))):dU P g h' ls ts (j+1):=
 ⟨r.len,fun i a t h1 h2=>by
  by_cases q:i=j
  .subst q;cases hl.symm.trans h1;cases ht.symm.trans h2;rw [Il];exact hy
  .rw [Gf q]
   exact (r.c i a t h1 h2).mono k fun o e=>(hs a fun z=>q ((List.getElem?_inj (ak h1).1 nd).mp (h1.trans (z▸hl.symm)))).trans e⟩
structure DJ (g:Gh) (s0:Shared) (env:Env) (ls:List Addr) (I tp:Addr) (mt:Nat) (j:Nat) (s:Shared):Prop where
 it:s.heap.IsTupleIter I tp j
 ot:s.heap.get? tp=some (dW (ls.map Value.ref).toArray mt)
 vol:ju g env [I,tp]
 nI:s0.heap.get? I=none
 ne:I≠tp
 out:∀l∈ls,l≠I/\l≠tp
theorem DJ.keep {I tp:Addr}{mt j:Nat}(K:DJ g s0 env ls I tp mt j s)(k:∀a,a=I\/a=tp->∀o,s.heap.get? a=some o->s'.heap.get? a=some o):DJ g s0 env ls I tp mt j s':=
 ⟨let ⟨o,e,r⟩:=K.it;⟨o,k I (.inl rfl) o e,r⟩,k tp (.inr rfl) _ K.ot,K.vol,K.nI,K.ne,K.out⟩
theorem DJ.chg {I tp:Addr}{mt j:Nat}(K:DJ g s0 env ls I tp mt j s)(Y:jq P B C n A env g0 s0 ls iF ta m v g V J ts j s)(hs:∀a o,a≠I->s.heap.get? a=some o->h'.get? a=some o):jq P B C n A env g0 s0 ls iF ta m v g V J ts j {s with heap:=h',toks:=s.toks}:=
 Y.chg (VVV:=[I]) (fun a ha=>K.vol a (aa ha▸.head _)) (fun a ha=>aa ha▸K.nI) (fun a o e na=>hs a o (fun q=>na (ay q)) e) s.toks fun kf=>Y.lo.mono kf fun l hl o e=>hs l o (K.out l hl).1 e
theorem yi {iP:Nat}{yP:Str}{kP:NameKind}{np apos cpos epos mp:Pos}{kk:Nat}{l:Addr}{es:List T}{Q:Flow->Shared->Prop}{E:Value->Shared->Prop}(tP:B.tab[iP]?=some (some (yP,kP)))(va:cQ B env s.heap iP (.ref l))(nd:ls.Nodup)(hline:(apos.endLine==cpos.line)=true)
  (Y:jq P B C n A env g0 s0 ls iF ta m v g V J ts j s)(hl:ls[j]?=some l)(ht:ts[j]?=some (.lst es))(he:es.length+1<=lim)
  (hq:∀h' tk,(∀a,a≠l->h'.get? a=s.heap.get? a)->jq P B C n A env g0 s0 ls iF ta m v g V J ts (j+1) {s with heap:=h',toks:=tk}->Q .next {s with heap:=h',toks:=tk}):
  wpAny P.M A (execs [.Expr (.Call (.Attribute (.Name yP np) (ofString "append") apos) [.Constant (.str (ofString "more")) kk mp] [] cpos) epos] env) Q E s:=by
 have lin:=mem_of_getElem? hl
 have r:fR P g s.heap l (.lst es):=Gg (t:=.lst es)▸Y.lo.c j l _ hl ht
 refine wpAny_execs_cons ?_
 rw [exec_Expr env _ epos (by simp [interactive,Y.X.fn]) rfl]
 refine wpAny_bind (wpAny_standAt (wpAny_bind (lz j7 (fun _=>rfl) hline (fun _=>rfl) (bc Y.X tP va ⟨sX (.inr ⟨l,rfl,r⟩) rfl,wpAny_Constant_str ?_⟩))))
 refine iD A g J _ l _ (.lst es) (.str (ofString "more")) (jY (.lst es)) _ _ Y.X.rm Y.X.g r ⟨⟨by decide+kernel,by decide⟩,_,rfl⟩ (show mi _ _=_ by rw [mi,show bS (es.length+1)=true from ble_eq_true_of_le he];rfl) fun h5 tk hs5 hy5=>wpAny_dropValue ?_
 exact wpAny_execs_nil (hq h5 tk hs5 (Y.chg (VVV:=[l]) (fun a ha=>by rw [aa ha];exact Y.vol l lin) (fun a ha=>aa ha▸Y.nw l lin) (fun a o e na=>(hs5 a fun q=>na (ay q)).trans e) tk fun kf=>Y.lo.step nd hl ht kf hs5 (hy5 kf)))
theorem wD {iP:Nat}{yP:Str}{kP:NameKind}{pp np apos cpos epos mp:Pos}{kk:Nat}{I tp:Addr}{mt:Nat}{R:Result->Shared->Prop}(tP:B.tab[iP]?=some (some (yP,kP)))(kP':kP=.local\/kP=.cell)(cP:iP∉C.U)(hne:iF≠iP)(nd:ls.Nodup)(hline:(apos.endLine==cpos.line)=true)(ha:ts.all uD=true)
  (hq:∀s',jq P B C n A env g0 s0 ls iF ta m v g (V.set iP none) J ts ts.length s'->R (.ok .next) s'):
  ∀(k j:Nat) (s:Shared),j+k=ts.length->jq P B C n A env g0 s0 ls iF ta m v g (V.set iP none) J ts j s->DJ g s0 env ls I tp mt j s->
   codeAny P.M A (.forLoop (.Name yP pp) (.ref I) [.Expr (.Call (.Attribute (.Name yP np) (ofString "append") apos) [.Constant (.str (ofString "more")) kk mp] [] cpos) epos] [] env) R s:=by
 intro k
 induction k with
 |zero=>
  intro j s e Y K
  cases (show j=ts.length from e)
  exact fY (wpAny_pyNext_tuple_end Y.X.room.2.2 K.it ⟨_,K.ot,rfl,mt,rfl⟩ (by rw [Array.getElem?_eq_none];rw [size_toArray,length_map,Y.lo.len];exact le_refl _) fun h' hs=>hq _ (K.chg Y hs))
 |succ k ih=>
  intro j s e Y K
  have lt:j < ts.length:=by lia
  have ht:ts[j]?=some ts[j]:=getElem?_eq_getElem lt
  have hl:ls[j]?=some (ls[j]'(Y.lo.len▸lt)):=getElem?_eq_getElem _
  obtain ⟨l,hl⟩:∃l,ls[j]?=some l:=⟨_,hl⟩
  have lin:=mem_of_getElem? hl
  obtain ⟨es,h4,he⟩:∃es,ts[j]?=some (.lst es)/\es.length+1<=lim:=by
   have:=q6 (aA ha _ (mem_of_getElem? ht))
   rw [ht]
   generalize ts[j]=t at this
   cases this with
   |mk es _ l=>exact ⟨es,rfl,l⟩
  refine fY (wpAny_pyNext_tuple_item K.it ⟨_,K.ot,rfl,mt,rfl⟩ (x:=.ref l) (by rw [List.getElem?_toArray,getElem?_map,hl];rfl) fun h' it' hs=>?_)
  have Y1:=K.chg Y fun a o n e=>(hs.2 a n).trans e
  show wpAny P.M A (pure ()) _ _ _
  refine wpAny_pure (wpAny_assign_Name (fT (o:=none) Y1.X cP tP kP' (fun _ e=>nomatch e) fun s3 p3 X3 va3 hot3=>?_))
  rw [set_set] at X3
  have K3:DJ g s0 env ls I tp mt (j+1) s3:=DJ.keep (s:={s with heap:=h',toks:=s.toks}) ⟨it',(hs.2 tp K.ne.symm).trans K.ot,K.vol,K.nI,K.ne,K.out⟩ fun a ha o e=>
   have w:=K.vol a (ha.elim (fun q=>q▸.head _) fun q=>q▸.tail _ (.head _))
   p3.keep a o e w.2.1 fun q=>w.2.2.2 (bQ a q)
  exact yi tP va3 nd hline (Y1.set hne p3 X3 hot3) hl h4 he fun h5 tk hs5 Y5=>ih (j+1) _ (by lia) Y5 (K3.keep fun a ha o e=>(hs5 a fun q=>ha.elim (fun z=>(K.out l lin).1 (q.symm.trans z)) fun z=>(K.out l lin).2 (q.symm.trans z)).trans e)
end
section
variable {P:Pg} {B Bc:bG} {C Ci C':Ct} {fr:Bool} {n:Nat} {A:Around} {env:Env} {g g' g1 g0:Gh} {V:aP} {J J':Sg} {s s' s₁ s0:Shared} {h h':Heap} {L:List Addr}
variable {ls:List Addr} {iF:Nat} {ta:Addr} {m:Nat} {v:Value} {ts:List T}
inductive G5:T->Prop
 |mk (w:Str) (ts:List T) (h:ts.all uD=true) (l:ts.length+1<=lim):G5 (.tup (.str w::ts))
theorem told_ok {t:T}(h:jc t=true):G5 t:=by
 unfold jc at h
 cases e:oQ t with
 |none=>rw [e] at h;cases h
 |some us=>
  rw [e] at h;rw [jn e]
  obtain ⟨h1,h2⟩:=aj h
  obtain ⟨h2,h3⟩:=aj h2
  cases us with
  |nil=>cases h1
  |cons u us=>
   obtain ⟨w,e⟩:=aE h1
   rw [vc (t:=u) e];exact ⟨w,us,h2,fB h3⟩
theorem qQ {α:Type}{o:Option α}(h:o.isNone=true):o=none:=Option.isNone_iff_eq_none.mp h
inductive II (P:Pg) (g:Gh) (h:Heap) (l:Addr) (t:T):Prop
 |mk (es:List T) (vs:Array Value) (n:Nat) (e:t=.lst es) (f:g.F l) (o:h.get? l=some (bA vs n)) (k:es.all (ub 4)=true) (ll:es.length<=lim) (r:aZ P g h es vs.toList)
theorem sR (ha:ts.all uD=true)(r:aZ P g h ts (ls.map .ref)){i:Nat}{l:Addr}{t:T}(h1:ls[i]?=some l)(h2:ts[i]?=some t):II P g h l t:=by
 obtain ⟨v,e1,q⟩:=r.get h2
 rw [getElem?_map,h1] at e1;cases e1
 obtain ⟨es,k,_⟩:=q6 (aA ha t (mem_of_getElem? h2))
 obtain ⟨a,ea,f,vs,n,eo,ll,rr⟩:=q
 cases ea
 exact ⟨es,vs,n,rfl,f,eo,k,ll,rr⟩
theorem vN (ha:ts.all uD=true)(r:aZ P g h ts (ls.map .ref)):JL ls g h:=fun l hl=>by
 obtain ⟨i,hi⟩:=getElem?_of_mem hl
 have le:=r.length
 rw [length_map] at le
 obtain ⟨es,vs,n,_,f,o,_⟩:=sR ha r hi (getElem?_eq_getElem (le▸(ak hi).1))
 exact ⟨f,vs,n,o⟩
theorem zj (ha:ts.all uD=true)(r:aZ P g h ts (ls.map .ref)):dU P (m7 ls g) h ls ts 0:=by
 have j:=vN ha r
 refine ⟨by have:=r.length;rw [length_map] at this;exact this,fun i l t h1 h2=>?_⟩
 obtain ⟨es,vs,n,rfl,f,o,k,ll,r⟩:=sR ha r h1 h2
 exact ⟨vs,n,o,ll,uC (Di (fun l hl=>(j l hl).2) 4) _ _ k r⟩
theorem bC.vw (w:bC P g h J)(hσ:J.self=none)(nb:∀a o,P.h₀.get? a=some o->a∉L):bC P (m7 L g) h J:=
 ⟨fun a o e=>⟨⟨(w.base a o e).1,nb a o e⟩,(w.base a o e).2⟩,fun a f=>w.F a f.1,fun a z=>⟨(w.Z a z).1,fun f=>(w.Z a z).2 f.1⟩,fun a z=>⟨(w.O a z).1,fun f=>(w.O a z).2.1 f.1,(w.O a z).2.2⟩,w.oo,w.spot,fun c ts e=>by rw [hσ] at e;cases e⟩
theorem jq.start {w:Str}(X:At P B C n A env g V J s)(p:aJ g s g1 s₁)(w1:bC P g1 s₁.heap J')(hσ:J'.self=none){x:Value}(r:Rp P g1 s₁.heap (.tup (.str w::ts)) x)(ha:ts.all uD=true)(nw:Nw (fun l=>s.heap.get? l=none) g1 s₁.heap x){k:NameKind}{y:Str}(hi:iF∉C.U)(ht:B.tab[iF]?=some (some (y,k)))(hk:k=.local\/k=.cell)
  {Q:Unit->Shared->Prop}{E:Value->Shared->Prop}(hq:∀ls ta m v g' s',ls.Nodup->Rp P g' s'.heap (.str w) v->jq P B C n A env g s ls iF ta m v g' (V.set iF none) J' ts 0 s'->Q () s'):wpAny P.M A (storeName env y x) Q E s₁:=by
 obtain ⟨ta,m,v,ls,rfl,fa,oa,hv,nd,nw⟩:=nw
 obtain ⟨_,e',_,vs,m',o',ll,v',vs',ev,rw',rl⟩:=r
 cases e'
 rw [oa] at o'
 cases o'
 cases (show v::ls.map Value.ref=v'::vs' from ev)
 have j:=vN ha rl
 have lo:=zj ha rl
 have fa':(m7 ls g1).F ta:=⟨fa,fun q=>let ⟨_,_,_,q⟩:=j ta q;absurd (Value.type.inj (congrArg Obj.cls (Option.some.inj (oa.symm.trans q)))) (by decide)⟩
 have q:aJ g s (m7 ls g1) s₁:=⟨p.st,p.keep,p.back,fun a f=>⟨p.F a f,fun q=>X.g.F a f (nw a q)⟩,fun a f=>p.Fn a f.1,p.Zn,p.o,p.sp,p.sa⟩
 have w':=w1.vw (L:=ls) hσ fun a o e q=>ar (X.g.base a o e).2 (nw a q)
 have X1:=X.post q w'
 have vol:ju (m7 ls g1) env ls:=fun a ha=>⟨fun f=>f.2 ha,fun z=>(w1.Z a z).2 (j a ha).1,fun o=>(w1.O a o).2.1 (j a ha).1,fun o=>(X.env.own a o).1 (nw a ha)⟩
 refine fT (o:=none) X1 hi ht hk (fun _ e=>nomatch e) fun s₂ p2 X2 va hot=>?_
 have nt:∀a,(m7 ls g1).F a\/a∈ls->a∉yh k y env:=fun a x z=>x.elim (X1.env.own a (bQ a z)).2.1 fun x=>(vol a x).2.2.2 (bQ a z)
 have q2:=p2.toS.weak bQ
 have kf:=q2.k X1.g fun a ha=>(X1.env.own a ha).2.1
 exact hq ls ta m v _ s₂ nd (Rp.mono kf (show Rp P (m7 ls g1) s₁.heap (.str w) v from rw')) ⟨X2,q.toS.trans q2,nw,(vol.post lo.live q2).1,lo.mono kf fun l hl o e=>p2.keep l o e (vol l hl).2.1 (nt l (.inr hl)),fa',p2.keep ta _ oa (fun z=>(w'.Z ta z).2 fa') (nt ta (.inl fa')),va⟩
end
theorem Dv {α:Type}(v:α)(l:List α):cut (some 1) none (v::l)=l:=by
 show ((v::l).drop (clipAt (l.length+1) ((1:Nat):Int))).take (l.length+1 - clipAt (l.length+1) ((1:Nat):Int))=l
 rw [kq,Nat.min_eq_left (succ_le_succ (zero_le _))]
 exact take_length
section
variable {P:Pg} {B Bc:bG} {C Ci C':Ct} {fr:Bool} {n:Nat} {A:Around} {env:Env} {g g' g1 g0:Gh} {V:aP} {J J':Sg} {s s' s₁ s0:Shared} {h h':Heap} {L:List Addr}
variable {ls:List Addr} {iF:Nat} {ta:Addr} {m:Nat} {v:Value} {ts:List T}
theorem wc (X:At P B C n A env g V J s){a:Addr}(e:s.heap.get? a=none):¬g.F a/\¬g.Z a/\¬g.O a/\a∉own env:=⟨fun f=>X.g.F a f e,fun z=>(X.g.Z a z).1 e,fun o=>(X.g.O a o).1 e,fun o=>(X.env.own a o).1 e⟩
theorem jq.loop {iP:Nat}{yP yF:Str}{kP kF:NameKind}{pp np apos cpos epos mp p1 p2 p3 p4 pos:Pos}{kk k1:Nat}{Q:Flow->Shared->Prop}{E:Value->Shared->Prop}(Y:jq P B C n A env g0 s0 ls iF ta m v g V J ts 0 s)(nd:ls.Nodup)(ha:ts.all uD=true)(hl:ls.length+1<=lim)
  (tF:B.tab[iF]?=some (some (yF,kF)))(tP:B.tab[iP]?=some (some (yP,kP)))(kP':kP=.local\/kP=.cell)(cP:bO C iP false C=true)(hne:iF≠iP)
  (hline:(apos.endLine==cpos.line)=true)
  (hq:∀s',jq P B C n A env g0 s0 ls iF ta m v g (V.set iP none) J ts ts.length s'->Q .next s'):
  wpAny P.M A (exec (.For (.Name yP pp) (.Subscript (.Name yF p1) (.Slice (some (.Constant (.int 1) k1 p2)) none none p3) p4) [.Expr (.Call (.Attribute (.Name yP np) (ofString "append") apos) [.Constant (.str (ofString "more")) kk mp] [] cpos) epos] [] pos) env) Q E s:=by
 have hs:=(cE cP).1
 refine wpAny_For (Subscript_ (bc Y.X tF Y.va ?_)) (fun _=>rfl)
 rw [arm_eval_Slice]
 refine wpAny_bind (show wpAny P.M A (eval (.Constant (.int 1) k1 p2) env) _ _ _ from wpAny_Constant_int ?_)
 refine wpAny_bind (wpAny_holding (show wpAny P.M A (pure Value.none) _ _ _ from wpAny_pure ?_))
 refine wpAny_bind (wpAny_holding (wpAny_pure (wpAny_newObj_type ?_ (by show (3:Nat)<=sizeLine+2;decide))))
 have hsl:=Heap.IsSliceOf.new s.heap (.int 1 s.toks) .none .none
 have o1:(s.heap.push (Fj (.int 1 s.toks) .none)).get? ta=some (dW (v::ls.map Value.ref).toArray m):=Heap.get?_push_of_some _ Y.oa
 refine tail_any ⟨_,o1,rfl⟩ slot_tuple_getitem.lookup (fy (lo:=some 1) (hi:=none) o1 hsl (.int 1 _) .none (fun e=>?_) ?_ ?_) rfl
 .exact absurd (congrArg List.length (show cut (some 1) none (v::ls.map Value.ref)=v::ls.map Value.ref from e)) (by rw [Dv];exact ne_of_lt (lt_succ_self _))
 .rw [show cut (some 1) none (v::ls.map Value.ref).toArray.toList=ls.map Value.ref from Dv _ _]
  refine wpAny_pyIter_tuple ⟨_,bF _,rfl,0,rfl⟩ ?_
  generalize hH1:s.heap.push (Fj (.int 1 s.toks) .none)=H1 at *
  have k1:∀a o,s.heap.get? a=some o->H1.get? a=some o:=fun a o e=>hH1▸Heap.get?_push_of_some _ e
  have b1:∀{a},H1.get? a=none->s.heap.get? a=none:=fun {a} e=>by
   cases q:s.heap.get? a with
   |none=>rfl
   |some o=>exact (ar (k1 a o q) e).elim
  have nT:H1.get? H1.objs.size=none:=aN _
  have oT:=bF (h:=H1) (dW (ls.map Value.ref).toArray 0)
  have k2:∀a o,H1.get? a=some o->(H1.push (dW (ls.map Value.ref).toArray 0)).get? a=some o:=fun a o e=>Heap.get?_push_of_some _ e
  generalize hH2:H1.push (dW (ls.map Value.ref).toArray 0)=H2 at *
  have b2:∀{a},H2.get? a=none->H1.get? a=none:=fun {a} e=>by
   cases q:H1.get? a with
   |none=>rfl
   |some o=>exact (ar (k2 a o q) e).elim
  have nI:H2.get? H2.objs.size=none:=aN _
  have oI:=bF (h:=H2) (s7 "tuple_iterator" H1.objs.size)
  have k3:∀a o,H2.get? a=some o->(H2.push (s7 "tuple_iterator" H1.objs.size)).get? a=some o:=fun a o e=>Heap.get?_push_of_some _ e
  show codeAny P.M A _ _ {s with heap:=H2.push (s7 "tuple_iterator" H1.objs.size),toks:=s.toks+1}
  generalize H2.push (s7 "tuple_iterator" H1.objs.size)=H3 at *
  generalize H2.objs.size=I at *
  generalize H1.objs.size=tp at *
  have nt:=b1 nT
  have ni:=b1 (b2 nI)
  have Y1:jq P B C n A env g0 s0 ls iF ta m v g V J ts 0 {s with heap:=H3,toks:=s.toks+1}:=Y.chg (VVV:=[]) (fun _ q=>nomatch q) (fun _ q=>nomatch q) (fun a o e _=>k3 a o (k2 a o (k1 a o e))) _ fun kf=>Y.lo.mono kf fun l hl o e=>k3 l o (k2 l o (k1 l o e))
  have Y2:jq P B C n A env g0 s0 ls iF ta m v g (V.set iP none) J ts 0 {s with heap:=H3,toks:=s.toks+1}:={Y1 with X:=⟨Y1.X.good,Y1.X.call,Y1.X.room,Y1.X.env.forget hs (.refl g iP) fun a ha=>(Y1.X.env.own a ha).2.2.2,Y1.X.g⟩}
  refine wD (m:=m) (v:=v) (ta:=ta) (V:=V) (g:=g) (J:=J) (ls:=ls) (mt:=0) tP kP' hs.nu hne nd hline ha hq ts.length 0 _ (zero_add _) Y2 ⟨⟨_,oI,rfl,rfl⟩,k3 _ _ oT,fun a ha=>?_,Y.p.b I ni,fun q=>ar oT (q▸nI),fun l hl=>⟨fun q=>Y.lo.live l hl (q▸ni),fun q=>Y.lo.live l hl (q▸nt)⟩⟩
  rcases au ha with rfl |ha
  .exact wc Y.X ni
  .rw [aa ha];exact wc Y.X nt
 .rw [size_toArray,length_cons,length_map];exact bj hl
end
theorem Gj {i:Nat}{t u:T}(h1:u=t):u=mo 0 i t:=h1
theorem En {ts:List T}{i:Nat}{t u:T}(h1:ts[i]?=some t)(h2:(ts.map jY)[i]?=some u):u=mo ts.length i t:=by
 rw [getElem?_map,h1] at h2
 unfold mo
 rw [show Nat.blt i ts.length=true from ble_eq_true_of_le (ak h1).1]
 exact (Option.some.inj h2).symm
section
variable {P:Pg} {B Bc:bG} {C Ci C':Ct} {fr:Bool} {n:Nat} {A:Around} {env:Env} {g g0:Gh} {V:aP} {J:Sg} {s s0:Shared} {scope:Scope} {xc:Option Str} {elt target iter:Expr}
variable {ls:List Addr} {iF iK iP i:Nat} {ta:Addr} {m:Nat} {v:Value} {ts:List T} {yF yF' yK yP yP' wa wm:Str} {kF kK kP:NameKind} {f:Nat} {e1 t2:Expr} {bs ss:List Stmt} {pF pos1 pos2 pK cp spos pp np apos cpos epos mp q1 q2 q3 q4 pos4:Pos} {kk k1:Nat} {p1':PE} {pt:PT} {pi:PL} {pe:PE} {pr:PS} {w:Str} {k:PK aP} {Q:Flow->Shared->Prop} {E:Value->Shared->Prop}
theorem FL (Y:jq P B C n A env g0 s0 ls iF ta m v g V J ts 0 s)(nd:ls.Nodup)(hw:Rp P g s.heap (.str w) v)(ha:ts.all uD=true)(hl:ts.length+1<=lim)(cF:bO C iF false C=true)(tF:B.tab[iF]?=some (some (yF,kF)))(tP:B.tab[iP]?=some (some (yP,kP)))(kP':kP=.local\/kP=.cell)(cP:bO C iP false C=true)(hne:iF≠iP)(hline:(apos.endLine==cpos.line)=true)
  (hq:∀g' s',aW [] (own env) g0 s0 g' s'->At P B C n A env g' ((V.set iP none).set iF (some (.tup (.str w::ts.map jY)))) J s'->Q .next s'):
  wpAny P.M A (exec (.For (.Name yP pp) (.Subscript (.Name yF q1) (.Slice (some (.Constant (.int 1) k1 q2)) none none q3) q4) [.Expr (.Call (.Attribute (.Name yP np) (ofString "append") apos) [.Constant (.str (ofString "more")) kk mp] [] cpos) epos] [] pos4) env) Q E s:=by
 obtain ⟨sF,oF⟩:=cE cF
 refine Y.loop nd ha (by rw [Y.lo.len];exact hl) tF tP kP' cP hne hline fun s' Y'=>?_
 exact hq (Fi ls g) s' {Y'.p with F:=fun a f=>.inl (Y'.p.F a f),Fn:=fun a f=>f.elim (Y'.p.Fn a) fun q=>.inr (.inr (Y'.nw a q))} (Y'.full (w:=w) hw sF.nu oF hl (length_map ..) fun _ _ _=>En)
theorem FM (Y:jq P B C n A env g0 s0 ls iF ta m v g (V.set iF none) J ts 0 s)(nd:ls.Nodup)(hw:Rp P g s.heap (.str w) v)(ha:ts.all uD=true)(hl:ts.length+1<=lim)(cF:bO C iF false C=true)
  (cK:bO C iK false C=true)(tK:B.tab[iK]?=some (some (yK,.local)))(hwK:r7 (.ListComp elt [⟨target,iter,[],0⟩] scope cp) yK pK spos.line B.sc=true)(K:dF B Bc scope i xc)(hi:C.U.any (Nat.beq i)=true)(hc:bO C i false Ci=true)(hI:f9 P B C iter (xJ P Bc C Ci target (ba i) (lg xc)) pi)(hel:aq P Bc Ci elt pe (RN P))(hs:∀env x,foldedSetIterable iter env x=pure x)(hne:iF≠iK)
  (hb:aU pi (ba i) aM (p1 xQ pe) (P.cx n) (V.set iF (some (.tup (.str w::ts)))) J (CV iF iK iP pr (P.cx n) V k (.tup (.str w::ts)))≠.bad)
  (hq:∀kv g' s' J',aU pi (ba i) aM (p1 xQ pe) (P.cx n) (V.set iF (some (.tup (.str w::ts)))) J (CV iF iK iP pr (P.cx n) V k (.tup (.str w::ts)))=CV iF iK iP pr (P.cx n) V k (.tup (.str w::ts)) kv J'->jq P B C n A env g0 s0 ls iF ta m v g' ((V.set iF none).set iK (some kv)) J' ts 0 s'->Q .next s'):
  wpAny P.M A (exec (.Assign [.Name yK pK] (.ListComp elt [⟨target,iter,[],0⟩] scope cp) spos) env) Q E s:=by
 obtain ⟨sF,oF⟩:=cE cF
 obtain ⟨sK,oK⟩:=cE cK
 have F:=Y.full hw sF.nu oF hl rfl fun _ _ _ h1 h2=>Gj (Option.some.inj (h2.symm.trans h1))
 rw [set_set] at F
 rw [exec_Assign_Name_used _ _ _ _ (by rw [gN Y.X.env.sc,hwK])]
 refine wpAny_bind (wpAny_standAt (wpAny_bind ?_))
 show wpAny _ A (do let _ <-comprehension (.ListComp elt [⟨target,iter,[],0⟩] scope cp) scope env _ (newList []) false (eval iter env) (some (assign (.Name yK pK) env))) _ _ s
 refine wpAny_bind (wpAny_mono (kj (vw:=m7 ls) (JJJ:=JL ls) (Q:=fun _ s'=>Q .next s') (E:=E) (k:=CV iF iK iP pr (P.cx n) V k (.tup (.str w::ts))) (use:=some (assign (.Name yK pK) env)) K (iE hi) (cE hc).1 (hI n A env _ _ J s) dE.nil (FA ls)
  (fun l hl=>⟨Or.inr hl,Y.lo.lst ha l hl⟩) (aq.lf hel) hs F hb fun D Lc s4 g4 xs J4 m' ee4 p4 w4 nD ⟨f,z,o'⟩ ac hL nL hDL hn=>?_) (fun _ s' hq=>wpAny_pure (wpAny_pure hq)) fun _ _ e=>e)
 have n4:J4.self.isNone=true:=fX fun q=>hb (ee4.trans q)
 have Y4:=Y.run p4 w4 (qQ n4)
 show wpAny _ A (assign (.Name yK pK) env (.ref D)) _ _ s4
 have own3:∀{a},s.heap.get? a=none->a∉own env:=fun e q=>(Y.X.env.own _ q).1 e
 have ls3:∀{a},s.heap.get? a=none->a∉ls:=fun e q=>Y.lo.live _ q e
 have lD:s4.heap.get? D≠none:=let ⟨_,_,e,_,_⟩:=ac;ar e
 have Y5:=Y4.freeze (D:=D) (Y.p.b D nD) lD (fun a ha=>by rw [aa ha];exact ⟨fun q=>f q.1,z,o',own3 nD⟩) (ls3 nD)
 have kf:aQ (m7 ls g4) s4.heap {m7 ls g4 with F:=fun y=>(m7 ls g4).F y\/y=D} s4.heap:=⟨fun b f=>⟨.inl f,fun _ e=>e⟩,rfl⟩
 refine wpAny_assign_Name (fT (o:=some (.lst xs)) Y5.X sK.nu tK (.inl rfl) (u:=.ref D) (fun t e=>by
  cases e
  unfold bE;rw [oK]
  exact .inl ⟨D,rfl,.inr rfl,xT.mono ac (fun _ e=>e) fun _ r=>aZ.mono kf r⟩) fun s6 p6 X6 _ hot6=>?_)
 have Y6:=Y5.set hne p6 X6 hot6
 exact ⟨m',hn.at fun o e=>p6.keep Lc o e nL.2.1 fun q=>own3 hL (bQ Lc q),fun h' hsb=>hq (.lst xs) _ _ J4 ee4 (Y6.chg (VVV:=[Lc]) (h':=h') (fun a ha=>by rw [aa ha];exact ⟨fun q=>q.elim (fun q=>nL.1 q.1) (Ne.symm hDL),nL.2.1,nL.2.2,own3 hL⟩) (fun a ha=>by rw [aa ha];exact Y.p.b Lc hL) (fun a o e na=>(hsb.2 a fun q=>na (ay q)).trans e) s6.toks fun kf=>Y6.lo.mono kf fun l hl o e=>(hsb.2 l fun q=>ls3 hL (q▸hl)).trans e)⟩
theorem Dg {a b:Nat}(h:(!Nat.beq a b)=true):a≠b:=fun q=>by rw [q,beq_refl] at h;cases h
theorem dw.tell {i1:Int}(eF:yF'=yF)(e1':i1=1)(eP:yP'=yP)(eA:wa=ofString "append")(eM:wm=ofString "more")(eK:kK=.local)(hcall:aq P B C e1 p1' (RF P f))(htu:(A3 f&&!iN f)=true)(hwF:r7 e1 yF pF pos1.line B.sc=false)(cF:bO C iF false C=true)(tF:B.tab[iF]?=some (some (yF,kF)))(kF':kF=.local\/kF=.cell)
  (h2:cN P B C t2 pt)
  (cK:bO C iK false C=true)(tK:B.tab[iK]?=some (some (yK,kK)))(hwK:r7 (.ListComp elt [⟨target,iter,[],0⟩] scope cp) yK pK spos.line B.sc=true)(K:dF B Bc scope i xc)(hi:C.U.any (Nat.beq i)=true)(hc:bO C i false Ci=true)(hI:f9 P B C iter (xJ P Bc C Ci target (ba i) (lg xc)) pi)(hel:aq P Bc Ci elt pe (RN P))(hs:∀env x,foldedSetIterable iter env x=pure x)
  (cP:bO C iP false C=true)(tP:B.tab[iP]?=some (some (yP,kP)))(kP':kP=.local\/kP=.cell)(hline:(apos.endLine==cpos.line)=true)(hne:(!Nat.beq iF iK&&!Nat.beq iF iP)=true)(hrest:fu P B C fr C' ss pr):
  fu P B C fr C' (.Assign [.Name yF pF] e1 pos1::.If t2 bs [] pos2::.Assign [.Name yK pK] (.ListComp elt [⟨target,iter,[],0⟩] scope cp) spos::.For (.Name yP pp) (.Subscript (.Name yF' q1) (.Slice (some (.Constant (.int i1) k1 q2)) none none q3) q4) [.Expr (.Call (.Attribute (.Name yP' np) wa apos) [.Constant (.str wm) kk mp] [] cpos) epos] [] pos4::ss)
   (lR iF iK iP p1' pt (aU pi (ba i) aM (p1 xQ pe)) pr):=fun n A env g V J s k Q E X hb hq hr=>by
 subst eF e1' eP eA eM eK
 obtain ⟨ht1,ht2⟩:=aj htu
 obtain ⟨hn1,hn2⟩:=aj hne
 obtain ⟨sF,oF⟩:=cE cF
 refine wpAny_execs_cons (wpAny_Assign_Name (hcall n A env g V J s (Hf iF iK iP pt (aU pi (ba i) aM (p1 xQ pe)) pr (P.cx n) V k) _ E X hb fun x s₁ g1 t J1 ee1 pa w1 r1=>?_) (by rw [gN X.env.sc,hwF]))
 have n1:(J1.self.isNone&&jc t)=true:=fX fun q=>hb (ee1.trans q)
 have f1:lR iF iK iP p1' pt (aU pi (ba i) aM (p1 xQ pe)) pr (P.cx n) V J k=pt (P.cx n) (V.set iF (some t)) J1 (He iF iK iP (aU pi (ba i) aM (p1 xQ pe)) pr (P.cx n) V k t):=ee1.trans (by unfold Hf;rw [n1])
 obtain ⟨m1,m2⟩:=aj n1
 obtain ⟨w,ts,hlf,hlen⟩:=told_ok m2
 have rr:Rp P g1 s₁.heap (.tup (.str w::ts)) x:=by have:=r1.1;unfold AU at this;rw [(not_eq_true' _).mp ht2] at this;exact this
 refine jq.start X pa w1 (qQ m1) rr hlf (r1.2 ht1 _ rfl) sF.nu tF kF' fun ls ta m v g2 s₂ nd hw2 Y2=>?_
 have F2:=Y2.full hw2 sF.nu oF hlen rfl fun _ _ _ h1 h2=>Gj (Option.some.inj (h2.symm.trans h1))
 rw [set_set] at F2
 refine wpAny_execs_cons (wpAny_If (h2 n A env _ _ J1 s₂ _ _ E F2 (fun q=>hb (f1.trans q)) fun b s3 g3 b' J3 ee3 p3 w3 r3=>?_))
 cases r3
 have n3:(!b&&J3.self.isNone)=true:=fX fun q=>hb (f1.trans (ee3.trans q))
 have f3:=f1.trans (ee3.trans (show He iF iK iP (aU pi (ba i) aM (p1 xQ pe)) pr (P.cx n) V k (.tup (.str w::ts)) b J3=aU pi (ba i) aM (p1 xQ pe) (P.cx n) (V.set iF (some (.tup (.str w::ts)))) J3 (CV iF iK iP pr (P.cx n) V k (.tup (.str w::ts))) by unfold He;rw [n3]))
 obtain ⟨nb,m3⟩:=aj n3
 cases b with
 |true=>cases nb
 |false=>
  refine wpAny_execs_nil (wpAny_execs_cons (FM (Y2.run p3 w3 (qQ m3)) nd (show Rp P (m7 ls g3) s3.heap (.str w) v from hw2) hlf hlen cF cK tK hwK K hi hc hI hel hs (Dg hn1) (fun q=>hb (f3.trans q)) fun kv g4 s4 J4 ee4 Y4=>?_))
  have n4:J4.self.isNone=true:=fX fun q=>hb (f3.trans (ee4.trans q))
  have ee:=f3.trans (ee4.trans (show CV iF iK iP pr (P.cx n) V k (.tup (.str w::ts)) kv J4=pr (P.cx n) ((((V.set iF none).set iK (some kv)).set iP none).set iF (some (.tup (.str w::ts.map jY)))) J4 k by unfold CV;rw [n4];rfl))
  refine wpAny_execs_cons (FL (w:=w) Y4 nd hw2 hlf hlen cF tF tP kP' cP (Dg hn2) hline fun g5 s5 pp F5=>?_)
  exact hrest n A env _ _ J4 s5 k Q E F5 (fun q=>hb (ee.trans q)) (fun s' g' ρ' J' e p X'=>hq s' g' ρ' J' (ee.trans e) (pp.trans p) X') fun x s' g' t J' e p w r=>hr x s' g' t J' (ee.trans e) (pp.trans p) w (oX.after pp r)
end
section
variable {P:Pg} {B:bG} {C C':Ct} {n:Nat} {A:Around} {env:Env} {g g2:Gh} {V:aP} {J:Sg} {s s₂:Shared} {ls:List Addr} {ts:List T} {w:Str}
theorem aR.retC {e:Expr}{p:PE}{pos:Pos}{f:Nat}(h:aq P B C e p (RF P f))(htu:(A3 f&&!iN f)=true):aR P B C false C' (.Return (some e) pos) (aF p):=fun n A env g V J s k Q E X hb hq hr=>
 wpAny_Return_some (h n A env g V J s (fun t J=>.ret t J) _ E X hb fun x s₁ g1 t J1 e p w r=>hr x s₁ g1 t J1 e p.toS w ⟨by
  have:=r.1
  have q:=(cz htu)
  cases e:iN f with
  |true=>rw [e] at q;cases q
  |false=>unfold AU at this;rw [e] at this;exact this,fun _ ts e=>(r.2 (cA htu) ts e).mono (fun _ q=>.inr q) (fun _ f=>f) fun _ _ _ e=>e⟩)
theorem rZ {tk tk':Nat}(p:aW [] (own env) g s g2 s₂)(wb:bC P g2 s₂.heap J)(rs:aZ P g2 s₂.heap ts (ls.map .ref))(hw:PyData.strOk w=true/\w.length<=lim)(nd:ls.Nodup)(k:∀l∈ls,g.O l\/s.heap.get? l=none)(hl:ts.length+1<=lim){Q:Value->Shared->Prop}
  (hr:∀x s' g',aW [] (own env) g s g' s'->bC P g' s'.heap J->oX P B false g s.heap g' s'.heap (.tup (.str w::ts)) x->Q x s'):Q (.ref s₂.heap.objs.size) {s₂ with heap:=s₂.heap.push (dW (Value.str w tk::ls.map .ref).toArray 0),toks:=tk'}:=
 hr _ _ _ (p.trans (aJ.pushF _ tk').toS) (wb.pushF _) ⟨⟨_,rfl,.inr rfl,_,_,bF _,hl,_,_,rfl,⟨hw,_,rfl⟩,rs.mono ((aJ.pushF (dW (Value.str w tk::ls.map .ref).toArray 0) 0).k wb)⟩,
  fun _ _ _=>⟨_,0,_,ls,rfl,.inr rfl,bF _,(fun _ q=>nomatch q),nd,k⟩⟩
theorem aR.retT2 {i:Nat}{y:Str}{k:NameKind}{kc kt:Nat}{pc ep pt pos:Pos}(hs:(PyData.strOk w&&decide (w.length<=lim))=true)(hv:bi C i=true)(ht:B.tab[i]?=some (some (y,k))):
  aR P B C false C' (.Return (some (.Tuple [.Constant (.str w) kc pc,.Name y ep] kt pt)) pos) (aF (aT (ae (pC (.str w)) (ae (pV i) an)))):=fun n A env g V J s k Q E X hb hq hr=>by
 obtain ⟨h1,h2⟩:=aj hs
 have h2:=of_decide_eq_true h2
 obtain ⟨t,e⟩:=ch hb
 obtain ⟨u,v,q⟩:=X.env.var i _ t ht e
 unfold bE at q
 rw [hv] at q
 obtain ⟨a,rfl,o,r⟩:=q
 have hO:=X.g.O a ⟨i,o⟩
 have X1:At P B C n A env g V J {s with toks:=s.toks+1}:=X.post (.toks g s _) X.g
 refine wpAny_Return_some (wpAny_Tuple (wpAny_items_cons (wpAny_Constant_str (wpAny_items_cons (bc X1 ht v (wpAny_items_nil ⟨by show 2<=sizeLine;decide,?_⟩)) rfl)) rfl))
 have w1:bC P (g.put i none) s.heap J:=X.g.put fun _ q=>nomatch q
 have na:¬(g.put i none).O a:=fun q=>(gX q).elim (fun q=>nomatch q) fun ⟨j,n,q⟩=>n (X.g.oo j i a q o)
 have w2:=w1.freeze (a:=a) hO.1 hO.2.2 na
 have kf:aQ (g.put i none) s.heap {g.put i none with F:=fun y=>g.F y\/y=a} s.heap:=⟨fun b f=>⟨.inl f,fun _ e=>e⟩,rfl⟩
 have on:∀b,(g.put i none).O b->g.O b:=fun b q=>(gX q).elim (fun q=>nomatch q) fun ⟨j,_,q⟩=>⟨j,q⟩
 have p0:aW [] (own env) g s {g.put i none with F:=fun y=>g.F y\/y=a} {s with toks:=s.toks+1}:={(aJ.toks g s (s.toks+1)).toS (W:=own env) with F:=fun b f=>.inl f,Fn:=fun b f=>f.elim .inl fun q=>.inr (.inl (q▸⟨i,o⟩)),On:=fun b q=>.inl (on b q)}
 exact rZ (Q:=fun x s=>Q (.ret x) s) (s₂:={s with toks:=s.toks+1}) (ts:=[t]) (ls:=[a]) p0 w2 ⟨_,_,rfl,((r.mono ((gW g i none).k _) fun _ e=>e).mono kf fun _ e=>e).rp (.inr rfl),rfl⟩ ⟨h1,h2⟩ (pairwise_singleton _ a) (fun l hl=>by rw [aa hl];exact .inl ⟨i,o⟩) (show 2<=lim by decide) fun x s' g' p w r=>hr x s' g' _ J (by show up (bX V i) J _=_;rw [e];rfl) p w r
theorem aR.retT3 {e1 e2:Expr}{p1 p2:PE}{kc kt:Nat}{pc pt pos:Pos}(hs:(PyData.strOk w&&decide (w.length<=lim))=true)(hn1:∀env,starEach [e1,e2] env=(false,eval e1 env)::starEach [e2] env)(hn2:∀env,starEach [e2] env=[(false,eval e2 env)])(h1:aq P B C e1 p1 (RN P))(h2:aq P B C e2 p2 (RN P)):
  aR P B C false C' (.Return (some (.Tuple [.Constant (.str w) kc pc,e1,e2] kt pt)) pos) (aF (aT (ae (pC (.str w)) (ae p1 (ae p2 an))))):=fun n A env g V J s k Q E X hb hq hr=>by
 obtain ⟨hs1,hs2⟩:=aj hs
 have hs2:=of_decide_eq_true hs2
 have X0:At P B C n A env g V J {s with toks:=s.toks+1}:=X.post (.toks g s _) X.g
 refine wpAny_Return_some (wpAny_Tuple (wpAny_items_cons (wpAny_Constant_str (wpAny_items_cons (h1 n A env g V J _ (fun t1 J=>p2 (P.cx n) V J fun t2 J=>bif bS 3 then .ret (.tup [.str w,t1,t2]) J else .bad) _ E X0 hb fun x1 s₁ g1 ta J1 ee1 pa wa r1=>?_) (hn1 env))) rfl))
 have X1:=X0.post pa wa
 refine wpAny_items_cons (h2 n A env g1 V J1 s₁ (fun t2 J=>bif bS 3 then .ret (.tup [.str w,ta,t2]) J else .bad) _ E X1 (fun q=>hb (ee1.trans q)) fun x2 s₂ g2 tb J2 ee2 pb wb r2=>?_) (hn2 env)
 refine wpAny_items_nil ⟨by show 3<=sizeLine;decide,?_⟩
 obtain ⟨a,rfl,n1,f1,z1,o1,r1⟩:=r1
 obtain ⟨b,rfl,n2,f2,z2,o2,r2⟩:=r2
 have la:=r1.live
 have ab:a≠b:=fun q=>la (q▸n2)
 have za:¬g2.Z a:=fun q=>(pb.Zn a q).elim z1 la
 have oa:¬g2.O a:=fun ⟨i,q⟩=>o1 ⟨i,pb.o▸q⟩
 have r1':fR P g2 s₂.heap a ta:=r1.mono (pb.k wa) fun o e=>pb.keep a o e z1
 have w3:=wb.freezeL (l:=[a,b]) fun c hc=>by
  rcases au hc with rfl |hc
  .exact ⟨r1'.live,za,oa⟩
  .rw [aa hc];exact ⟨r2.live,z2,o2⟩
 have kf:aQ g2 s₂.heap {g2 with F:=fun y=>g2.F y\/y∈[a,b]} s₂.heap:=⟨fun b f=>⟨.inl f,fun _ e=>e⟩,rfl⟩
 have p:aJ g s g2 s₂:=((aJ.toks g s (s.toks+1)).trans pa).trans pb
 have nb:s.heap.get? b=none:=pa.back b n2
 have p':aW [] (own env) g s {g2 with F:=fun y=>g2.F y\/y∈[a,b]} s₂:={p.toS (W:=own env) with F:=fun c f=>.inl (p.F c f),Fn:=fun c f=>f.elim (fun f=>(p.Fn c f).imp_right .inr) fun q=>.inr (.inr (by
  rcases au q with rfl |q
  .exact n1
  .rw [aa q];exact nb))}
 exact rZ (Q:=fun x s=>Q (.ret x) s) (s₂:=s₂) (ts:=[ta,tb]) (ls:=[a,b]) p' w3 ⟨_,_,rfl,(r1'.mono kf fun _ e=>e).rp (.inr (.head _)),_,_,rfl,(r2.mono kf fun _ e=>e).rp (.inr (.tail _ (.head _))),rfl⟩ ⟨hs1,hs2⟩
  (nodup_cons.mpr ⟨fun q=>ab (aa q),pairwise_singleton _ b⟩) (fun l hl=>by
   rcases au hl with rfl |hl
   .exact .inr n1
   .rw [aa hl];exact .inr nb) (show 3<=lim by decide) fun x s' g' p w r=>hr x s' g' _ J2 ((ee1.trans ee2).trans rfl) p w r
end
end
end Mine
namespace Mine
noncomputable section
open PySem PySem.W PyProof.Rows PySem.SeqAt
section
variable {P:Pg} {B:bG} {C C':Ct} {fr:Bool} {n:Nat} {A:Around} {env:Env} {g g':Gh} {V:aP} {J:Sg} {s:Shared} {h h':Heap} {t:T} {x:Value} {E:Value->Shared->Prop}
noncomputable abbrev iK (P:Pg):=intKind P.prog P.w
noncomputable abbrev iT (kvs:List (Int×Value)):List T:=kvs.map fun p=>.int p.1
inductive JA (P:Pg) (g:Gh) (h:Heap) (us ts:List T) (a:Addr):Prop
 |mk (q:(a==sysModules)=false) (kvs:List (Int×Value)) (d:h.DictOf (iK P) a kvs) (e:us=iT kvs) (l:kvs.length<=lim) (r:aZ P g h ts (kvs.map (·.2)))
theorem rN.num {us ts:List T}{a:Addr}{k:Int}{o:Option T}(q:rN P h us (aZ P g h us) (aZ P g h ts) a)(e:C4 us ts k=some o):JA P g h us ts a:=by
 obtain ⟨n,ob,es,eo,d,r1,r2⟩ | ⟨n,kvs,d,eu,l,ne,r'⟩:=q
 .cases us with
  |nil=>
   cases List.map_eq_nil_iff.mp (show es.map (·.key)=[] from r1)
   exact ⟨n,[],let ⟨ep,d'⟩:=d.d;⟨ob,_,ep,eo,d.x,d',(fun _ h=>nomatch h),.nil,.nil⟩,rfl,zero_le _,r2⟩
  |cons u us=>
   obtain ⟨i,e1,_⟩:=aB (show o1 (i7 u) _=some o from e)
   obtain ⟨H,k0,_⟩:=d.k
   rw [jo e1] at k0;cases k0
 .exact ⟨n,kvs,d,eu,l,r'⟩
inductive IG (P:Pg) (g:Gh) (h:Heap):Option Value->Option T->Prop
 |none:IG P g h none none
 |some (v:Value) (r:T) (q:Rp P g h r v):IG P g h (some v) (some r)
theorem Eb {k:Int}{o:Option T}:∀(kvs:List (Int×Value)) (ts:List T),aZ P g h ts (kvs.map (·.2))->C4 (iT kvs) ts k=some o->IG P g h (valueAt kvs k) o:=fun kvs=>by
 induction kvs with
 |nil=>intro ts _ e;cases e;exact .none
 |cons kv kvs ih=>
  intro ts r e
  cases ts with
  |nil=>cases e
  |cons t ts=>
   obtain ⟨v,vs,ev,q,qs⟩:=r
   cases ev
   have e:(bif decide (kv.1=k) then some (some t) else C4 (iT kvs) ts k)=some o:=e
   unfold valueAt
   rw [List.find?_cons]
   cases c:decide (kv.1=k) with
   |true=>rw [c] at e;cases e;exact .some _ _ q
   |false=>rw [c] at e;exact ih ts qs e
theorem wG {kvs:List (Int×Value)}{k:Int}{v:Value}(e:valueAt kvs k=none):stored kvs k v=kvs++[(k,v)]:=
 if_neg fun q=>let ⟨y,hy,q⟩:=any_eq_true.mp q;List.find?_eq_none.mp (Option.map_eq_none_iff.mp e) y hy q
theorem Bj {a:Addr}{xk xv:Value}{us ts:List T}{H v:T}{y:T×T}{Q:Value->Shared->Prop}(r:fR P g s.heap a (.dct us ts))(rk:Rp P g s.heap H xk)(rv:Rp P g s.heap v xv)(e:Ec (.dct us ts) H v=some y)
  (hq:∀u h' tk,(∀b,b≠a->h'.get? b=s.heap.get? b)->(aQ g s.heap g h'->fR P g h' a y.2/\Rp P g h' y.1 u)->Q u {s with heap:=h',toks:=tk}):wpAny P.M A (PySem.call (.builtin "dict.setdefault") [.ref a,xk,xv]) Q E s:=by
 obtain ⟨_,i,e1,e4,e2⟩:=bz e
 cases e1
 obtain ⟨o,e3,e5⟩:=aB e2
 cases jo e4
 obtain ⟨tk,rfl⟩:=rk
 obtain ⟨n,kvs,D,rfl,hl,r2⟩:=rN.num r e3
 have sv:=Eb kvs ts r2 e3
 refine call_meetsIn PySem.F.slot_dict_setdefault D.typeIs PySem.F.entry_dict_setdefault (PySem.F.args_dict_setdefault_3 _ _ _) (kt_meets_setdefault (iK P) a (intKind_is _ _ i tk) n xv) ⟨kvs,D,bj hl,fun u hu=>?_,fun hn h' D' hs=>?_⟩
 .rw [hu] at sv
  cases sv with
  |some _ z q=>cases e5;exact hq _ s.heap _ (fun _ _=>rfl) fun _=>⟨r,q⟩
 .rw [hn] at sv
  cases sv
  obtain ⟨hl',rfl⟩:=fm e5
  rw [wG hn] at D'
  refine hq _ h' _ hs.2 fun kf=>⟨rN.ix n _ D' ?_ ?_ ?_ ?_,rv.mono kf⟩
  .rw [map_append];rfl
  .rw [List.length_append];rw [length_map] at hl';exact hl'
  .exact List.append_ne_nil_of_right_ne_nil _ nofun
  .rw [map_append];exact aZ.append (aZ.cons (rv.mono kf) aZ.nil) (r2.mono kf)
theorem Cw {us ts:List T}{a:Addr}(r:fR P g s.heap a (.dct us ts)):s.TypeIs (.ref a) "dict"/\∃o,s.heap.get? a=some o/\o.dict=none:=
 have k:∀{o:Obj},s.heap.get? a=some o->o.ExactDict->s.TypeIs (.ref a) "dict"/\∃o,s.heap.get? a=some o/\o.dict=none:=fun {o} e x=>⟨⟨o,e,x.1⟩,o,e,x.2.1⟩
 rN.casesOn (motive:=fun _=>_) r (fun _ _ _ e d _ _=>k e d.x) fun _ _ d _ _ _ _=>let ⟨_,_,_,e,x,_⟩:=d;k e x
theorem Bg {i:Nat}{y:Str}{k:NameKind}{np apos cpos:Pos}{ke ve:Expr}{pk pv:PE}{us ts:List T}{kk:PK (T×T)}{Q:Value->Shared->Prop}(X:At P B C n A env g V J s)(hv:bi C i=true)(ht:B.tab[i]?=some (some (y,k)))(hline:(apos.endLine==cpos.line)=true)
  (htrees:∀env,backTo cpos (starEach [ke,ve] env)=[(false,eval ke env),(false,eval ve env)])(h2:aq P B C ke pk (RV P))(h3:aq P B C ve pv (RV P))(e0:bX V i=some (.dct us ts))
  (hb:(pk (P.cx n) V J fun H J=>pv (P.cx n) V J fun v J=>up (Ec (.dct us ts) H v) J kk)≠.bad)
  (hq:∀u s' g' y J',(pk (P.cx n) V J fun H J=>pv (P.cx n) V J fun v J=>up (Ec (.dct us ts) H v) J kk)=kk y J'->aW [] (own env) g s g' s'->At P B C n A env g' (V.set i (some y.2)) J' s'->Rp P g' s'.heap y.1 u->Q u s'):
  wpAny P.M A (eval (.Call (.Attribute (.Name y np) (ofString "setdefault") apos) [ke,ve] [] cpos) env) Q E s:=by
 obtain ⟨u,va,qv⟩:=X.env.var i _ _ ht e0
 unfold bE at qv
 rw [hv] at qv
 obtain ⟨a,rfl,oi,r⟩:=qv
 obtain ⟨ty,nd⟩:=Cw (s:=s) r
 refine wpAny_Call_method2_late (by rfl) hline (htrees env) (bc X ht va ⟨"dict",_,PySem.F.plainAttrs_dict,PySem.F.slot_dict_setdefault,PySem.F.type_dict_setdefault,ty,fun b q=>Value.ref.inj q▸nd,bM (fun _ q=>by cases q) (fun p hp=>by
  rcases au hp with rfl |hp
  .rfl
  .rw [aa hp]) (Calls.spliced_cons (h2 n A env g V J s _ _ E X hb fun xk s₂ g2 H J2 ea p2 w2 ra=>?_))⟩)
 have X2:=X.post p2 w2
 refine Calls.spliced_cons (h3 n A env g2 V J2 s₂ _ _ E X2 (fun q=>hb (ea.trans q)) fun xv s3 g3 v J3 eb p3 w3 r3=>Calls.spliced_nil ?_)
 have eb:=ea.trans eb
 obtain ⟨y',e'⟩:=ch fun q=>hb (eb.trans q)
 rw [e'] at eb
 have p:=p2.trans p3
 have X3:=X.post p w3
 have oi3:g3.o i=some a:=by rw [p.o];exact oi
 refine Bj (r.mono (p.k X.g) fun o e=>p.keep a o e (X.g.O a ⟨i,oi⟩).2.2) (Rp.mono (p3.k w2) ra) r3 e' fun u h' tk hs hy=>?_
 have fa:=(w3.O a ⟨i,oi3⟩).2.1
 obtain ⟨pS,X4⟩:=jW X3 hv (by rw [e0];exact fun q=>by cases q) oi3 (va.move fun b m o e=>p.keep b o e (X.env.own b m).2.2.1) hs (fun kf=>(hy kf).1) tk
 exact hq u _ g3 y' J3 eb (p.toS.trans pS) X4 (hy ⟨fun b f=>⟨f,fun o e=>(hs b fun q=>fa (q▸f)).trans e⟩,rfl⟩).2
noncomputable def I2 (P:Pg)(call we:Expr)(b:List Stmt):WP Flow:=fun A env Q E s=>wpAny P.M A (eval call env) (fun x s=>wpAny P.M A (eval we env) (fun w s=>wpAny P.M A (compareOp .NotEq x w) (fun v s=>wpAny P.M A (truthy v) (fun f s=>wpAny P.M A (if f=true then execs b env else execs [] env) Q E s) E s) E s) E s) E s
theorem Bh {i:Nat}{y:Str}{k:NameKind}{np apos cpos:Pos}{ke ve we:Expr}{b:List Stmt}{pk pv pw:PE}{pb:PS}(hv:bi C i=true)(ht:B.tab[i]?=some (some (y,k)))(hline:(apos.endLine==cpos.line)=true)(htrees:∀env,backTo cpos (starEach [ke,ve] env)=[(false,eval ke env),(false,eval ve env)])
  (h2:aq P B C ke pk (RV P))(h3:aq P B C ve pv (RV P))(h4:aq P B C we pw (RX P))(hS:fu P B C fr C b pb):dw P B C fr C (I2 P (.Call (.Attribute (.Name y np) (ofString "setdefault") apos) [ke,ve] [] cpos) we b) (xY i pk pv pw pb):=fun n A env g V J s kk Q E X hb hq hr=>by
 obtain ⟨us,ts,e0,ez⟩:∃us ts,bX V i=some (.dct us ts)/\xY i pk pv pw pb (P.cx n) V J kk=pk (P.cx n) V J fun H J=>pv (P.cx n) V J fun v J=>up (Ec (.dct us ts) H v) J fun r J=>pw (P.cx n) (V.set i (some r.2)) J fun w J=>up (mu r.1 w) J fun f J=>bif f then pb (P.cx n) (V.set i (some r.2)) J kk else kk (V.set i (some r.2)) J:=by
  unfold xY at hb ⊢
  cases e0:bX V i with
  |none=>rw [e0] at hb;exact absurd rfl hb
  |some d=>
   rw [e0] at hb
   have hk:(AT d).isSome=true:=fX hb
   obtain ⟨p,hd⟩:=aE hk
   cases vd hd
   exact ⟨_,_,rfl,rfl⟩
 refine Bg X hv ht hline htrees h2 h3 e0 (fun q=>hb (ez.trans q)) fun u s4 g4 y' J4 ec p4 X4 ry=>?_
 have ec:=ez.trans ec
 refine h4 n A env g4 _ J4 s4 _ _ E X4 (fun q=>hb (ec.trans q)) fun xw s5 g5 w J5 ed p5 w5 r5=>?_
 have ed:=ec.trans ed
 obtain ⟨f,ef⟩:=ch fun q=>hb (ed.trans q)
 rw [ef] at ed
 refine Dy A g5 J5 s5 u xw _ w f _ E X.rm w5 (.inl (Rp.mono (p5.k X4.g) ry)) (kW.y r5) ef fun tk=>wpAny_truthy_bool ?_
 have X6:At P B C n A env g5 (V.set i (some y'.2)) J5 {s5 with toks:=tk}:=(X4.post p5 w5).post (.toks g5 s5 _) w5
 have pp:aW [] (own env) g s g5 {s5 with toks:=tk}:=p4.trans (p5.trans (.toks g5 s5 tk)).toS
 cases f with
 |true=>exact hS n A env g5 _ J5 _ kk Q E X6 (fun q=>hb (ed.trans q)) (fun s' g' ρ' J' e p X'=>hq s' g' ρ' J' (ed.trans e) (pp.trans p) X') fun x s' g' t J' e p w r=>hr x s' g' t J' (ed.trans e) (pp.trans p) w (oX.after pp r)
 |false=>exact wpAny_execs_nil (env:=env) (hq _ g5 _ J5 ed pp X6)
theorem aR.sd {i:Nat}{y:Str}{k:NameKind}{np apos cpos rpos bpos pos:Pos}{t1 ke ve we:Expr}{b:List Stmt}{q:PT}{pk pv pw:PE}{pb:PS}(hv:bi C i=true)(ht:B.tab[i]?=some (some (y,k)))(hline:(apos.endLine==cpos.line)=true)
  (htrees:∀env,backTo cpos (starEach [ke,ve] env)=[(false,eval ke env),(false,eval ve env)])(hm:behindInMarks .NotEq we=false)(h1:cN P B C t1 q)(h2:aq P B C ke pk (RV P))(h3:aq P B C ve pv (RV P))(h4:aq P B C we pw (RX P))(hS:fu P B C fr C b pb):
  aR P B C fr C (.If (.BoolOp .Or [t1,.Compare (.Call (.Attribute (.Name y np) (ofString "setdefault") apos) [ke,ve] [] cpos) [.NotEq] [we] rpos] bpos) b [] pos) (Hg i q pk pv pw pb):=
 have h:=Bh (np:=np) hv ht hline htrees h2 h3 h4 hS
 (h1.then (fr:=fr) (C':=C) (N:=fun A env f Q E s=>if f=true then wpAny P.M A (execs b env) Q E s else I2 P (.Call (.Attribute (.Name y np) (ofString "setdefault") apos) [ke,ve] [] cpos) we b A env Q E s) (F:=fun c V k f J=>bif f then pb c V J k else xY i pk pv pw pb c V J k) fun n A env g g1 V J s s₁ f t kk Q E p X r hb hq hr=>by
  cases r
  cases f with
  |true=>exact hS n A env g1 V J s₁ kk Q E X hb hq hr
  |false=>exact h n A env g1 V J s₁ kk Q E X hb hq hr).map fun A env Q E s h=>wpAny_If (wpAny_isTrue_BoolOp (wpAny_allTrue_Or_cons (wpAny_mono h (fun f s h=>by
   cases f with
   |true=>exact h
   |false=>exact wpAny_allTrue_Or_cons (wpAny_isTrue_Compare1 (wpAny_mono h (fun _ _ h=>wpAny_mono h (fun _ _ h=>wpAny_mono h (fun _ _ h=>wpAny_mono h (fun f _ h=>by
     cases f with
     |true=>exact h
     |false=>exact wpAny_allTrue_Or_nil h) fun _ _ h=>h) fun _ _ h=>h) fun _ _ h=>h) fun _ _ h=>h) hm)) fun _ _ h=>h)))
end
end
end Mine
end
section
namespace Mine
open PySem
noncomputable abbrev Tb:=List (Option (Str×NameKind))
noncomputable abbrev lo (x:String):Option (Str×NameKind):=some (ofString x,.local)
noncomputable abbrev ce (x:String):Option (Str×NameKind):=some (ofString x,.cell)
universe u v w
theorem rf {α:Sort u}{z:Sort v}{f:α->z}(a:α):f a=f a:=rfl
theorem dw.badZ {P:Pg}{B:bG}{C C':Ct}{fr:Bool}{ss:List Stmt}:fu P B C fr C' ss iJ:=fun n A env g V J s k Q E X hb hq hr=>absurd rfl hb
end Mine
end
section
set_option tactic.hygienic false
namespace Mine
noncomputable section
open PySem PyProof.Rows
noncomputable abbrev Mo (α:Type):=Nat->Option (α×Nat)
section
variable {α Z γ:Type}
noncomputable def mR (a:α):Mo α:=fun s=>some (a,s)
noncomputable def mF:Mo α:=fun _=>none
def mB (x:Mo α)(f:α->Mo Z):Mo Z:=fun s=>Option.rec none (fun q=>Prod.rec f q) (x s)
noncomputable def mN (f:Nat->Mo α):Mo α:=fun s=>f (s % 100) (s / 100)
noncomputable def kA (b:Bool)(f:b=true->α)(d:α):α:=Bool.rec (motive:=fun b=>(b=true->α)->α) (fun _=>d) (fun f=>f rfl) b f
def mG (b:Bool)(f:b=true->Mo α):Mo α:=kA b f mF
def m2 (a b:Mo α):Mo α:=mN fun d=>bif Nat.beq d 0 then a else b
def mU {S:Z->Prop}(x:Mo {p:Z // S p})(f:∀p,S p->Mo α):Mo α:=mB x fun a=>Subtype.rec f a
noncomputable def cR {α:List γ->Type}(l:List γ)(n:Mo (α []))(f:∀x r,Mo (α (x::r))):Mo (α l):=List.rec (motive:=fun l=>Mo (α l)) n (fun x r _=>f x r) l
def gf {α:List γ->Type}(l:List γ)(n:Mo (α [])):Mo (α l):=cR l n fun _ _=>mF
def lc {α:List γ->Type}(l:List γ)(f:∀x,Mo (α [x])):Mo (α l):=cR l mF fun x r=>gf (α:=fun r=>α (x::r)) r (f x)
def wz {α:List γ->Type}(l:List γ)(f:∀x y,Mo (α [x,y])):Mo (α l):=cR l mF fun x r=>lc (α:=fun r=>α (x::r)) r (f x)
end
theorem oZ {b:Bool}(h:(!b)=true):b=false:=(not_eq_true' b).mp h
theorem sb {γ:Type} [BEq γ] [LawfulBEq γ] {α:γ->Prop}{y z:γ}(h:(y==z)=true)(a:α z):α y:=(eq_of_beq h)▸a
noncomputable def xR (k:Nat)(e:Expr):Bool:=Nat.beq e.ctorIdx k
def gH (e:Expr):Bool:=!xR 22 e&&(!xR 26 e&&!xR 7 e)
def IN (e:Expr):Bool:=!xR 0 e&&(!xR 3 e&&(!xR 5 e&&!xR 15 e))
structure Pl (e:Expr):Prop where
 star:∀es env,starEach (e::es) env=(false,eval e env)::starEach es env
 subs:∀x y,subscripted e false x y=operate [x,y] (getItem x y)
 fold:∀env x,foldedSetIterable e env x=pure x
 beh:∀op,behindInMarks op e=false
 base:xR 16 e=false->∀name env,attributeBase e name env (eval e env)=eval e env
 tv:IN e=true->∀env whole,isTrue e env whole=(do let v <-whole;standAt e.pos;holding [v] (truthy v))
 sws:∀a i p l env,swapsWith e (some (.Subscript a i p)) l env=pure false
 swa:∀a x p l env,swapsWith e (some (.Attribute a x p)) l env=pure false
theorem pl {e:Expr}(h:gH e=true):Pl e:=by
 cases e<;>first |exact ⟨fun _ _=>rfl,fun _ _=>rfl,fun _ _=>rfl,fun _=>rfl,fun _ _ _=>rfl,fun _ _ _=>rfl,fun _ _ _ _ _=>rfl,fun _ _ _ _ _=>rfl⟩ |exact ⟨fun _ _=>rfl,fun _ _=>rfl,fun _ _=>rfl,fun _=>rfl,fun _ _ _=>rfl,(fun h=>nomatch h),fun _ _ _ _ _=>rfl,fun _ _ _ _ _=>rfl⟩ |exact ⟨fun _ _=>rfl,fun _ _=>rfl,fun _ _=>rfl,fun _=>rfl,(fun h=>nomatch h),fun _ _ _=>rfl,fun _ _ _ _ _=>rfl,fun _ _ _ _ _=>rfl⟩ |cases h
theorem bt {e:Expr}(h:gH e=true)(pos:Pos)(env:Env):backTo pos (starEach [e] env)=[(false,eval e env)]:=by rw [(pl h).star];rfl
theorem IS {o1 o2:CmpOp}{m r:Expr}(h:gH r=true)(env:Env):markedEach [o1,o2] [m,r] (evalEach [m,r] env)=[eval m env,eval r env]:=by
 show [eval m env,markedBehindIn o2 r (eval r env)]=_
 unfold markedBehindIn;rw [(pl h).beh o2]
section
variable {α:Expr->Type} (e:Expr)
def vC {k:Nat}(d:Mo (α e))(f:e.ctorIdx=k->Mo (α e)):Mo (α e):=kA (xR k e) (fun h=>f (eq_of_beq_eq_true h)) d
def bK (d:Mo (α e))(f:∀y p,Mo (α (.Name y p))):Mo (α e):=vC e d fun h=>Expr.Name.elim (motive_1:=fun e=>Mo (α e)) e h f
def jz (d:Mo (α e))(f:∀o x p,Mo (α (.Attribute o x p))):Mo (α e):=vC e d fun h=>Expr.Attribute.elim (motive_1:=fun e=>Mo (α e)) e h f
def gx (d:Mo (α e))(f:∀g es p,Mo (α (.Call g es [] p))):Mo (α e):=vC e d fun h=>Expr.Call.elim (motive_1:=fun e=>Mo (α e)) e h fun g es ks p=>gf (α:=fun ks=>α (.Call g es ks p)) ks (f g es p)
def A1 (d:Mo (α e))(f:∀es k p,Mo (α (.Tuple es k p))):Mo (α e):=vC e d fun h=>Expr.Tuple.elim (motive_1:=fun e=>Mo (α e)) e h f
def yd (f:∀i k p,Mo (α (.Constant (.int i) k p))):Mo (α e):=vC e mF fun h=>Expr.Constant.elim (motive_1:=fun e=>Mo (α e)) e h fun c k p=>kA (Nat.beq c.ctorIdx 2) (fun h=>Const.int.elim (motive:=fun c=>Mo (α (.Constant c k p))) c (eq_of_beq_eq_true h) fun i=>f i k p) mF
def FC (f:∀w k p,Mo (α (.Constant (.str w) k p))):Mo (α e):=vC e mF fun h=>Expr.Constant.elim (motive_1:=fun e=>Mo (α e)) e h fun c k p=>kA (Nat.beq c.ctorIdx 5) (fun h=>Const.str.elim (motive:=fun c=>Mo (α (.Constant c k p))) c (eq_of_beq_eq_true h) fun w=>f w k p) mF
def ye (d:Mo (α e))(f:∀elt t i fs s p,Mo (α (.ListComp elt [⟨t,i,fs,0⟩] s p))):Mo (α e):=vC e d fun h=>Expr.ListComp.elim (motive_1:=fun e=>Mo (α e)) e h fun elt gs s p=>lc (α:=fun gs=>α (.ListComp elt gs s p)) gs fun g=>Comprehension.casesOn (motive_3:=fun g=>Mo (α (.ListComp elt [g] s p))) g fun t i fs a=>kA (a==0) (fun h=>Eq.rec (motive:=fun a _=>Mo (α (.ListComp elt [⟨t,i,fs,a⟩] s p))) (f elt t i fs s p) (eq_of_beq h).symm) mF
def yc (d:Mo (α e))(f:∀a b c p,Mo (α (.Slice a b c p))):Mo (α e):=vC e d fun h=>Expr.Slice.elim (motive_1:=fun e=>Mo (α e)) e h f
def I8 (f:∀op e p,Mo (α (.UnaryOp op e p))):Mo (α e):=vC e mF fun h=>Expr.UnaryOp.elim (motive_1:=fun e=>Mo (α e)) e h f
end
noncomputable abbrev LT:=List (Str×Nat)×List (Str×Nat)×List (Str×Nat)×List (Str×T)
noncomputable def LT.ms (L:LT)(b:Bool):List (Str×Nat):=bif b then L.2.1 else L.2.2.1
noncomputable def uc (b:Bool):Nat:=bif b then 0 else 10
structure gw (P:Pg) (L:LT):Prop where
 fn:∀p∈L.1,∃F,P.Ψ p.2=some F/\P.gl p.2=true/\(P.fd p.2).name=p.1
 o:∀b,bH P (uc b) (L.ms b)
 me:∀b,∀p∈L.ms b,∃F,P.Ψ p.2=some F
 g:∀b,P.mg (bif b then ofString "Machine" else ofString "Web")=some (.ref (P.cls (uc b)))
 cs:∀p∈L.2.2.2,∃u,P.mg p.1=some u/\∀g h,Rp P g h p.2 u
theorem o6 {α:Type}{y:Str}{t:α}{l:List (Str×α)}(h:l.lookup y=some t):(y,t)∈l:=let ⟨_,_,e,_⟩:=List.lookup_eq_some_iff.mp h;e▸mem_append_right _ mem_cons_self
noncomputable def mO {α Z:Type}(l:List (Str×Z))(y:Str)(d:Mo α)(f:∀t,(y,t)∈l->Mo α):Mo α:=Option.rec (motive:=fun o=>(∀t,o=some t->Mo α)->Mo α) (fun _=>d) (fun t f=>f t rfl) (l.lookup y) fun t h=>f t (o6 h)
def KR (P:Pg)(k:Option Bool):RR Value T:=Option.rec (RX P) (fun b=>Bool.rec (RV P) (RN P) b) k
noncomputable abbrev RE (P:Pg)(B:bG)(C:Ct)(e:Expr):=(k:Option Bool)×{p:PE // aq P B C e p (KR P k)}
noncomputable abbrev FE (P:Pg):=∀(B:bG) (C:Ct) (e:Expr),Mo (RE P B C e)
noncomputable abbrev FT (P:Pg):=∀(B:bG) (C:Ct) (e:Expr),Mo {p:PT // cN P B C e p}
noncomputable abbrev Gi (B:bG)(y:Str):Bool:=(B.sc.names.lookup y==some .globalImplicit)&&!(y==("__debug__":Str))
theorem gi {B:bG}{y:Str}(h:Gi B y=true):B.sc.names.lookup y=some .globalImplicit:=eq_of_beq (cA h)
theorem GD {B:bG}{y:Str}(h:Gi B y=true):(y==("__debug__":Str))=false:=oZ (cz h)
theorem Ck {B:bG}{y z:Str}(q:(y==z)=true)(h:Gi B y=true):B.sc.names.lookup z=some .globalImplicit:=eq_of_beq q▸gi h
def slot (l:Tb)(y:Str):Nat:=l.findIdx fun o=>Option.rec false (fun q=>q.1==y) o
noncomputable def knd (l:Tb)(i:Nat):NameKind:=((l[i]?.getD none).getD (ofString "",.local)).2
noncomputable def z9 (C:Ct)(i:Nat):Ct:=⟨C.O.filter fun j=>!Nat.beq j i,C.U,C.m⟩
noncomputable def Fc (C:Ct)(i:Nat):Ct:=⟨C.O.filter (fun j=>Nat.blt j i)++i::C.O.filter (fun j=>Nat.blt i j),C.U,C.m⟩
noncomputable def GR (C:Ct)(i:Nat):Ct:=⟨C.O,C.U.filter fun j=>!Nat.beq j i,C.m⟩
section
variable {P:Pg} {L:LT} (D:gw P L) (E:FE P) (Tr:FT P) (B:bG) (C:Ct) {Z:Type}
section
variable {e:Expr}
def rv (p:PE)(h:aq P B C e p (RV P)):Mo (RE P B C e):=mR ⟨some false,p,h⟩
def rn (p:PE)(h:aq P B C e p (RN P)):Mo (RE P B C e):=mR ⟨some true,p,h⟩
def rx (p:PE)(h:aq P B C e p (RX P)):Mo (RE P B C e):=mR ⟨none,p,h⟩
end
section
variable (e:Expr)
def mV (f:∀p,aq P B C e p (RV P)->Mo Z):Mo Z:=mB (E B C e) fun r=>Option.rec (motive:=fun k=>{p:PE // aq P B C e p (KR P k)}->Mo Z) (fun _=>mF) (fun b=>Bool.rec (motive:=fun b=>{p:PE // aq P B C e p (KR P (some b))}->Mo Z) (fun a=>Subtype.rec f a) (fun a=>Subtype.rec (fun p h=>f p (dG.nv h)) a) b) r.1 r.2
def mX (f:∀p,aq P B C e p (RX P)->Mo Z):Mo Z:=mB (E B C e) fun r=>Option.rec (motive:=fun k=>{p:PE // aq P B C e p (KR P k)}->Mo Z) (fun a=>Subtype.rec f a) (fun b=>Bool.rec (motive:=fun b=>{p:PE // aq P B C e p (KR P (some b))}->Mo Z) (fun a=>Subtype.rec (fun p h=>f p (dG.vx h)) a) (fun a=>Subtype.rec (fun p h=>f p (dG.nx h)) a) b) r.1 r.2
def mW (f:∀p,aq P B C e p (RN P)->Mo Z):Mo Z:=mB (E B C e) fun r=>Option.rec (motive:=fun k=>{p:PE // aq P B C e p (KR P k)}->Mo Z) (fun _=>mF) (fun b=>Bool.rec (motive:=fun b=>{p:PE // aq P B C e p (KR P (some b))}->Mo Z) (fun _=>mF) (fun a=>Subtype.rec f a) b) r.1 r.2
end
def ua (y:Str)(d:Mo Z)(f:∀(i:Nat) (k:NameKind),B.tab[i]?=some (some (y,k))->Mo Z):Mo Z:=kA (B.tab[slot B.tab y]?==some (some (y,knd B.tab (slot B.tab y)))) (fun h=>f _ _ (eq_of_beq h)) d
def Hs (y:Str)(d:Mo Z)(f:∀k,B.tab[0]?=some (some (y,k))->Mo Z):Mo Z:=kA (C.m&&(B.tab[0]?==some (some (y,knd B.tab 0)))) (fun h=>f _ (eq_of_beq (cz h))) d
def mA (x:Str)(f:∀(c i:Nat) ms,bH P c ms->(cD c)[i]?=some x->Mo Z):Mo Z:=
 (fun b=>kA ((cD (uc b))[(cD (uc b)).findIdx (·==x)]?==some x) (fun h=>f (uc b) _ _ (D.o b) (eq_of_beq h)) mF) ((cD 0).contains x)
def wA {α:Expr->Type}(e:Expr)(d:∀e,Mo (α e))(f:∀y np x ap (c i:Nat) ms k,bH P c ms->(cD c)[i]?=some x->B.tab[0]?=some (some (y,k))->Mo (α (.Attribute (.Name y np) x ap))):Mo (α e):=
 jz e (d e) fun o x ap=>bK (α:=fun o=>α (.Attribute o x ap)) o (d _) fun y np=>Hs B C y (d _) fun k ht=>bif (cD 10).contains x then mA D x fun c i ms O hn=>bif hJ c i then f y np x ap c i ms k O hn ht else d _ else d _
def AN (es:List Expr):Mo {p:PL // iq P B C es p}:=List.rec (motive:=fun es=>Mo {p:PL // iq P B C es p}) (mR ⟨an,.nil⟩) (fun e es ih=>mG (gH e) fun h=>mV E B C e fun p hp=>mU ih fun r hr=>mR ⟨ae p r,.cons ((pl h).star es) hp hr⟩) es
def EX (c:Const)(k:Nat)(pos:Pos):Mo (RE P B C (.Constant c k pos)):=
 Const.casesOn (motive:=fun c=>Mo (RE P B C (.Constant c k pos))) c (rv B C (pC .none) .none) (fun b=>rv B C (pC (.bool b)) .bool) (fun i=>rv B C (pC (.int i)) .int) (fun _=>mF) (fun _ _=>mF) (fun y=>mG (PyData.strOk y&&decide (y.length<=lim)) fun h=>rv B C (pC (.str y)) (.str h)) (fun _=>mF) mF
def GK (y:Str)(pos:Pos):Mo (RE P B C (.Name y pos)):=
 ua B y (mG (Gi B y) fun hg=>mO L.2.2.2 y mF fun t h=>rv B C (pC t) (.gconst (gi hg) (GD hg) (D.cs _ h)))
  fun i k ht=>kA (bi C i) (fun ho=>rx B C (pV i) (.own ho ht)) (mG (k9 C i) fun hv=>rv B C (pV i) (.var hv ht))
def Iz (l:Expr)(op:Operator)(r:Expr)(pos:Pos):Mo (RE P B C (.BinOp l op r pos)):=
 mX E B C l fun a ha=>mX E B C r fun b hb=>Operator.casesOn (motive:=fun op=>Mo (RE P B C (.BinOp l op r pos))) op
  (rv B C (p2 bw a b) (.bin mD F9 ha hb)) (rv B C (p2 gF a b) (.bin mD F4 ha hb))
  (rv B C (p2 hU a b) (.bin mD F6 ha hb))
  mF mF (rv B C (p2 bZ a b) (.bin mD F7 ha hb)) mF mF mF mF mF mF (rv B C (p2 dY a b) (.bin mD F8 ha hb))
def Jq (op:UnaryOp)(e:Expr)(pos:Pos):Mo (RE P B C (.UnaryOp op e pos)):=mX E B C e fun a ha=>
 UnaryOp.casesOn (motive:=fun op=>Mo (RE P B C (.UnaryOp op e pos))) op mF (rv B C (lk a) (.not ha)) mF (rv B C (p1 qU a) (.neg ha))
def GO (o:Expr)(name:Str)(pos:Pos):Mo (RE P B C (.Attribute o name pos)):=
 bK (α:=fun o=>RE P B C (.Attribute o name pos)) o mF fun y np=>mA D name fun c i ms O hn=>
  Hs B C y (mV E B C (.Name y np) fun p h=>rv B C (p1 (o3 c i) p) (.attr O hn (fun _=>rfl) (fun _ _=>rfl) h))
   fun k ht=>mG (!bi C 0) fun ho=>rv B C (fJ c i) (.rat O hn (oZ ho) ht)
def wh (P:Pg)(op:CmpOp):Mo {F:T->T->Option Bool // kX P op F}:=
 CmpOp.casesOn (motive:=fun op=>Mo {F:T->T->Option Bool // kX P op F}) op (mR ⟨cH,GX⟩) (mR ⟨mu,Dy⟩) (mR ⟨o7,GS⟩) (mR ⟨EB,GT⟩) (mR ⟨Dp,GV⟩) (mR ⟨HA,GW⟩) (mN fun _=>mR ⟨_,Dz⟩) (mN fun _=>mR ⟨_,Al⟩)
  (m2 (mR ⟨iM,GU⟩) (m2 (mR ⟨AR,Am⟩) (mR ⟨Hz,E0⟩))) (m2 (mR ⟨fK,Ak⟩) (mR ⟨dI,xx⟩))
def Iy (l:Expr)(ops:List CmpOp)(rs:List Expr)(pos:Pos):Mo (RE P B C (.Compare l ops rs pos)):=
 cR (α:=fun ops=>RE P B C (.Compare l ops rs pos)) ops mF fun op os=>cR (α:=fun rs=>RE P B C (.Compare l (op::os) rs pos)) rs mF fun r rs=>mU (wh P op) fun F hF=>mX E B C l fun a ha=>mX E B C r fun b hb=>
  cR (α:=fun os=>RE P B C (.Compare l (op::os) (r::rs) pos)) os
   (gf (α:=fun rs=>RE P B C (.Compare l [op] (r::rs) pos)) rs (mG (gH r) fun h=>rv B C (pB (p2 F a b)) (.cmp hF ((pl h).beh op) ha hb)))
   fun o2 os=>gf (α:=fun os=>RE P B C (.Compare l (op::o2::os) (r::rs) pos)) os (lc (α:=fun rs=>RE P B C (.Compare l [op,o2] (r::rs) pos)) rs fun q=>mG (gH q) fun h=>mU (wh P o2) fun G hG=>mX E B C q fun c hc=>rv B C (pB (md F G a b c)) (.cmp2 hF hG (IS h) ha hb hc))
def Ja (op:BoolOp)(es:List Expr):Mo {p:PE // jr P B C op es p}:=List.rec (motive:=fun es=>Mo {p:PE // jr P B C op es p}) mF
 (fun e es ih=>mV E B C e fun a ha=>List.rec (motive:=fun es=>Mo {p:PE // jr P B C op es p}->Mo {p:PE // jr P B C op (e::es) p}) (fun _=>mR ⟨a,.one ha⟩) (fun e' es _ ih=>mU ih fun r hr=>
  BoolOp.casesOn (motive:=fun op=>jr P B C op (e'::es) r->Mo {p:PE // jr P B C op (e::e'::es) p}) op (fun hr=>mR ⟨lq a r,.and ha hr⟩) (fun hr=>mR ⟨AO a r,.or ha hr⟩) hr) es ih) es
def IO (e:Option Expr):Mo {p:PO // tZ P B C e p}:=Option.rec (motive:=fun e=>Mo {p:PO // tZ P B C e p}) (mR ⟨jt,.none⟩) (fun e=>mX E B C e fun a ha=>mR ⟨p1 cZ a,.some ha⟩) e
def GL (i:Expr)(pos:Pos)(a:Expr):Mo (RE P B C (.Subscript a i pos)):=mG (gH i) fun h=>mN fun d=>mX E B C a fun x hx=>mX E B C i fun y hy=>bif Nat.beq d 0 then rv B C (p2 aL x y) (.idx (pl h).subs hx hy) else rv B C (p2 idxD x y) (.idxD (pl h).subs hx hy)
def GJ (a i:Expr)(pos:Pos):Mo (RE P B C (.Subscript a i pos)):=
 yc (α:=fun i=>RE P B C (.Subscript a i pos)) i
  (bK (α:=fun a=>RE P B C (.Subscript a i pos)) a
   (wA D B C (α:=fun a=>RE P B C (.Subscript a i pos)) a (GL E B C i pos) fun y np x ap c j ms k O hn ht=>mG (gH i) fun h=>mN fun d=>mV E B C i fun q hq=>
    bif Nat.beq d 0 then rv B C (Ef c j aL q) (.f2 O hn ht (yX (pl h).subs) hq) else rv B C (Ef c j idxD q) (.f2 O hn ht (yW (pl h).subs) hq))
   fun y np=>kA (y==("_law_spot":Str))
    (fun _=>yd (α:=fun i=>RE P B C (.Subscript (.Name y np) i pos)) i fun j kk cp=>mG (j==0) fun hj=>ua B y mF fun n k ht=>mG (k9 C n) fun hv=>rv B C (pU n) (sb (α:=fun j=>aq P B C (.Subscript (.Name y np) (.Constant (.int j) kk cp) pos) (pU n) (RV P)) hj (.spot hv ht)))
    (GL E B C i pos (.Name y np)))
  fun lo hi st p=>mX E B C a fun x hx=>Option.rec (motive:=fun st=>Mo (RE P B C (.Subscript a (.Slice lo hi st p) pos)))
   (mU (IO E B C lo) fun l hl=>mU (IO E B C hi) fun h hh=>rv B C (p3 bR x l h) (.slc hx hl hh))
   (fun st=>Option.rec (motive:=fun lo=>Mo (RE P B C (.Subscript a (.Slice lo hi (some st) p) pos))) (Option.rec (motive:=fun hi=>Mo (RE P B C (.Subscript a (.Slice none hi (some st) p) pos)))
    (I8 (α:=fun st=>RE P B C (.Subscript a (.Slice none none (some st) p) pos)) st fun op e pu=>yd (α:=fun e=>RE P B C (.Subscript a (.Slice none none (some (.UnaryOp op e pu)) p) pos)) e fun j kc pc=>mG (j==1) fun hj=>mG (op==.USub) fun ho=>rv B C (p1 uo x) (sb (α:=fun j=>aq P B C (.Subscript a (.Slice none none (some (.UnaryOp op (.Constant (.int j) kc pc) pu)) p) pos) (p1 uo x) (RV P)) hj (sb (α:=fun op=>aq P B C (.Subscript a (.Slice none none (some (.UnaryOp op (.Constant (.int 1) kc pc) pu)) p) pos) (p1 uo x) (RV P)) ho (.rev hx)))) (fun _=>mF) hi) (fun _=>mF) lo) st
end
end
end Mine
end
section
set_option tactic.hygienic false
namespace Mine
noncomputable section
open PySem PyProof.Rows
def E3 (y:Str):BT:=bif y==BT.nm .list then .list else bif y==BT.nm .bool then .bool else bif y==BT.nm .int then .int else bif y==BT.nm .str then .str else .tuple
section
variable {P:Pg} {B:bG} {C:Ct} {e o:Expr} {p pe po:PE} {y z name:Str} {pn qn apos pos np:Pos}
theorem It (X:BT)(hy:(y==ofString "isinstance")=true)(hT:(z==X.nm)=true)(hx:Gi B y=true)(hz:Gi B z=true)(hp:gH e=true)(h:aq P B C e p (RX P)):aq P B C (.Call (.Name y pn) [e,.Name z qn] [] pos) (p1 (dS X) p) (RV P):=
 sb (α:=fun y=>aq P B C (.Call (.Name y pn) [e,.Name z qn] [] pos) (p1 (dS X) p) (RV P)) hy (sb (α:=fun z=>aq P B C (.Call (.Name (ofString "isinstance") pn) [e,.Name z qn] [] pos) (p1 (dS X) p) (RV P)) hT (.isi X (Ck hy hx) (Ck hT hz) (fun env=>((pl hp).star _ env).trans rfl) h))
abbrev JB (P:Pg)(x:String)(F:T->Option T)(R:RR Value T):Prop:=∀{B:bG} {C:Ct} {e:Expr} {p:PE} {pn pos:Pos},Ft B x->(∀env,starEach [e] env=[(false,eval e env)])->aq P B C e p (RX P)->aq P B C (.Call (.Name (ofString x) pn) [e] [] pos) (p1 F p) R
theorem Fq {x:String}{F:T->Option T}{R:RR Value T}(k:JB P x F R)(hx:Gi B y=true)(hp:gH e=true)(h:aq P B C e p (RX P))(hy:(y==ofString x)=true):aq P B C (.Call (.Name y pn) [e] [] pos) (p1 F p) R:=
 sb (α:=fun y=>aq P B C (.Call (.Name y pn) [e] [] pos) (p1 F p) R) hy (k (Ck hy hx) ((pl hp).star []) h)
theorem Im {x id:String}{K:MK}{F:T->T->Option T}(i:AX K (ofString x) id)(k:t3 P (Hd P id) F (RV P))(hk:gH o=true)(ho:(!xR 16 o)=true)(hl:(apos.endLine==pos.line)=true)(hp:gH e=true)(h1:aq P B C o po (RX P))(h2:aq P B C e pe (RX P))(hy:(name==ofString x)=true):aq P B C (.Call (.Attribute o name apos) [e] [] pos) (xO K F po pe) (RV P):=
 sb (α:=fun name=>aq P B C (.Call (.Attribute o name apos) [e] [] pos) (xO K F po pe) (RV P)) hy (.m1 i mD k ((pl hk).base (oZ ho) _) hl (bt hp pos) h1 h2)
end
section
variable {P:Pg} {L:LT} (D:gw P L) (E:FE P) (Tr:FT P) (B:bG) (C:Ct)
section
variable (y:Str) (pn:Pos) (pos:Pos)
def Js (e:Expr):Mo (RE P B C (.Call (.Name y pn) [e] [] pos)):=mG (Gi B y) fun hx=>mG (gH e) fun hp=>mX E B C e fun a ha=>
 kA (y==ofString "len") (fun hy=>rv B C (p1 br a) (Fq .len hx hp ha hy))
 (kA (y==ofString "list") (fun hy=>rn B C (p1 gz a) (Fq .listOf hx hp ha hy))
 (kA (y==ofString "any") (fun hy=>rv B C (p1 AA a) (Fq .anyOf hx hp ha hy))
 (kA (y==ofString "all") (fun hy=>rv B C (p1 kN a) (Fq .allOf hx hp ha hy))
 (kA (y==ofString "int") (fun hy=>rv B C (p1 qf a) (Fq .intOf hx hp ha hy))
 (kA (y==ofString "dict") (fun hy=>rn B C (p1 tf a) (Fq .dictOf hx hp ha hy)) mF)))))
def EY (es:List Expr):Mo (RE P B C (.Call (.Name y pn) es [] pos)):=mG (Gi B y) fun hx=>
 mO L.1 y
  (cR (α:=fun es=>RE P B C (.Call (.Name y pn) es [] pos)) es mF fun e es=>(fun b=>kA (y==(bif b then ofString "Machine" else ofString "Web"))
    (fun hy=>mO (L.ms b) (ofString "__init__") mF fun f hi=>mG (rR f&&!iN f) fun hf=>mG (gH e) fun hp=>mU (AN E B C (e::es)) fun r hr=>rv B C (yU (uc b) f r) (sb (α:=fun y=>aq P B C (.Call (.Name y pn) (e::es) [] pos) (yU (uc b) f r) (RV P)) hy (.new (D.o b) hi hf (D.g b) (Ck hy hx) (by cases b<;>decide) ((pl hp).star es) hr)))
    (cR (α:=fun es=>RE P B C (.Call (.Name y pn) (e::es) [] pos)) es
     (wA D B C (α:=fun e=>RE P B C (.Call (.Name y pn) [e] [] pos)) e (Js E B C y pn pos) fun z np x ap c i ms k O hn ht=>mG (y==ofString "len") fun hy=>rv B C (p1 br (qM c i)) (sb (α:=fun y=>aq P B C (.Call (.Name y pn) [.Attribute (.Name z np) x ap] [] pos) (p1 br (qM c i)) (RV P)) hy (.lenF O hn ht (Ck hy hx) fun _=>rfl)))
     fun t es=>gf (α:=fun es=>RE P B C (.Call (.Name y pn) (e::t::es) [] pos)) es (bK (α:=fun t=>RE P B C (.Call (.Name y pn) [e,t] [] pos)) t mF fun z qn=>mG (y==ofString "isinstance") fun hy=>mG (z==(E3 z).nm) fun hT=>mG (Gi B z) fun hz=>mG (gH e) fun hp=>mX E B C e fun a ha=>rv B C (p1 (dS (E3 z)) a) (It (E3 z) hy hT hx hz hp ha))))
   (y==ofString "Machine"))
  fun f hf=>mG (!rR f) fun hm=>mU (AN E B C es) fun r hr=>
   kA (iN f) (fun h=>rn B C (ax f r) (let ⟨_,h1,h2⟩:=D.fn _ hf;aq.callN h1 h2 (oZ hm) h (gi hx) (GD hx) hr)) (mG (!iN f) fun h=>rv B C (ax f r) (let ⟨_,h1,h2⟩:=D.fn _ hf;aq.call h1 h2 (oZ hm) (oZ h) (gi hx) (GD hx) hr))
end
section
variable (o:Expr) (name:Str) (apos:Pos) (pos:Pos)
def Jr (e:Expr):Mo (RE P B C (.Call (.Attribute o name apos) [e] [] pos)):=
 mG (gH o) fun hk=>mG (!xR 16 o) fun ho=>mG (apos.endLine==pos.line) fun hl=>mG (gH e) fun hp=>mX E B C o fun a ha=>mX E B C e fun b hb=>
  kA (name==ofString "join") (fun hy=>rv B C (xO .str vR a b) (Im ES zE hk ho hl hp ha hb hy))
  (kA (name==ofString "split") (fun hy=>rv B C (xO .str qz a b) (Im Cf wI hk ho hl hp ha hb hy))
  (kA (name==ofString "index") (fun hy=>rv B C (xO .list fM a b) (Im Cg zO hk ho hl hp ha hb hy)) mF))
def Du (b:Bool)(es:List Expr)(d:Mo (RE P B C (.Call (.Attribute o name apos) es [] pos))):Mo (RE P B C (.Call (.Attribute o name apos) es [] pos)):=mO (L.ms b) name d fun f hm=>
 mG (Hr (uc b) f name apos pos es.length) fun hb=>
  bK (α:=fun o=>RE P B C (.Call (.Attribute o name apos) es [] pos)) o (mG (gH o) fun hk=>mG (!xR 16 o) fun ho=>mV E B C o fun a ha=>mU (AN E B C es) fun r hr=>rv B C (vH (uc b) f a r) (let ⟨_,h⟩:=D.me b _ hm;.meth (D.o b) hm h hb ((pl hk).base (oZ ho) _) ha hr))
  fun y np=>Hs B C y
   (mV E B C (.Name y np) fun a ha=>mU (AN E B C es) fun r hr=>rv B C (vH (uc b) f a r) (let ⟨_,h⟩:=D.me b _ hm;.meth (D.o b) hm h hb (fun _=>rfl) ha hr))
   fun k ht=>mU (AN E B C es) fun r hr=>rv B C (ux (uc b) f r) (let ⟨_,h⟩:=D.me b _ hm;.rmeth (D.o b) hm h hb ht hr)
end
def GN (g:Expr)(es:List Expr)(pos:Pos):Mo (RE P B C (.Call g es [] pos)):=
 bK (α:=fun g=>RE P B C (.Call g es [] pos)) g (jz (α:=fun g=>RE P B C (.Call g es [] pos)) g mF fun o name apos=>Du D E B C o name apos pos true es (Du D E B C o name apos pos false es (cR (α:=fun es=>RE P B C (.Call (.Attribute o name apos) es [] pos)) es mF fun e es=>cR (α:=fun es=>RE P B C (.Call (.Attribute o name apos) (e::es) [] pos)) es (Jr E B C o name apos pos e) fun _ _=>mF)))
 fun y pn=>EY D E B C y pn pos es
def IC (B:bG)(sc:Scope)(i:Nat)(x:Str)(k:NameKind):Tb:=(List.range i).map (fun j=>Option.rec none (fun q=>bif sc.names.contains (q.1,.free) then some (q.1,.cell) else none) (B.tab[j]?.getD none))++[some (x,k)]
noncomputable def HP (c:Bool)(x:Str):Option Str:=bif c then some x else none
noncomputable def Iq (c:Bool):NameKind:=bif c then .cell else .local
theorem GZ {P:Pg}{Bc:bG}{C Ci:Ct}{i:Nat}{x:Str}{tp:Pos}{c:Bool}(hc:bO C i false Ci=true)(ht:(Bc.tab[i]?==some (some (x,Iq c)))=true):kR P (xJ P Bc C Ci (.Name x tp) (ba i) (lg (HP c x))):=by
 cases c
 .exact bindL hc (eq_of_beq ht)
 .exact bindC hc (eq_of_beq ht)
def mK {α:Expr->Type}(target:Expr)(scope:Scope)(f:∀x tp i xc Bc Ci,dF B Bc scope i xc->C.U.any (Nat.beq i)=true->bO C i false Ci=true->kR P (xJ P Bc C Ci (.Name x tp) (ba i) (lg xc))->Mo (α (.Name x tp))):Mo (α target):=
 bK target mF fun x tp=>mN fun i=>(fun c=>(fun tab=>mG (Dx B tab scope i (HP c x)) fun hK=>mG (C.U.any (Nat.beq i)) fun hi=>mG (bO C i false (GR C i)) fun hc=>mG (tab[i]?==some (some (x,Iq c))) fun ht=>f x tp i (HP c x) ⟨gR scope B.sc,tab⟩ (GR C i) (.of hK) hi hc (GZ hc ht)) (IC B scope i x (Iq c))) (scope.names.lookup x==some .cell)
def FH (ifs:List Expr):Mo {p:PT // dE P B C ifs p}:=cR (α:=fun ifs=>{p:PT // dE P B C ifs p}) ifs (mR ⟨aM,.nil⟩) fun c r=>gf (α:=fun r=>{p:PT // dE P B C (c::r) p}) r (mU (Tr B C c) fun a ha=>mR ⟨a,.one ha⟩)
section
variable {mk:Around->Addr->List T->List Addr->List Addr->(Nat->Gh->Heap->Prop)->Prop} (hb:kR P mk)
def DP (it:Expr):Mo {p:PL // f9 P B C it mk p}:=mN fun d=>mV E B C it fun a ha=>bif Nat.beq d 0 then mR ⟨bm a,.seq hb ha⟩ else mR ⟨p1 CC a,.str hb ha⟩
def H0 (it:Expr):Mo {p:PL // f9 P B C it mk p}:=
 gx (α:=fun it=>{p:PL // f9 P B C it mk p}) it (DP E B C hb it) fun g es pos=>bK (α:=fun g=>{p:PL // f9 P B C (.Call g es [] pos) mk p}) g (DP E B C hb (.Call g es [] pos)) fun y p=>
  kA (y==ofString "range") (fun hy=>mG (Gi B y) fun hx=>mN fun d=>mU (AN E B C es) fun r hr=>mR ⟨cV r,sb (α:=fun y=>f9 P B C (.Call (.Name y p) es [] pos) mk (cV r)) hy (.range hb (Ck hy hx) hr)⟩)
  (DP E B C hb (.Call (.Name y p) es [] pos))
end
def mC {α:Expr->Type}(elt target iter:Expr)(ifs:List Expr)(scope:Scope)(f:∀x tp i xc Bc Ci pi pc pe,dF B Bc scope i xc->C.U.any (Nat.beq i)=true->bO C i false Ci=true->f9 P B C iter (xJ P Bc C Ci (.Name x tp) (ba i) (lg xc)) pi->dE P Bc Ci ifs pc->aq P Bc Ci elt pe (RV P)->(∀env x,foldedSetIterable iter env x=pure x)->Mo (α (.Name x tp))):Mo (α target):=
 mK (P:=P) B C target scope fun x tp i xc Bc Ci K hi hc hb=>mG (gH iter) fun hp=>mU (H0 E B C hb iter) fun pi hI=>mU (FH Tr Bc Ci ifs) fun pc hcond=>mV E Bc Ci elt fun pe hel=>f x tp i xc Bc Ci pi pc pe K hi hc hI hcond hel (pl hp).fold
def z0 (elt target:Expr)(ifs:List Expr)(scope:Scope)(pos:Pos)(iter:Expr):Mo (RE P B C (.ListComp elt [⟨target,iter,ifs,0⟩] scope pos)):=mC E Tr B C (α:=fun target=>RE P B C (.ListComp elt [⟨target,iter,ifs,0⟩] scope pos)) elt target iter ifs scope fun x tp i xc Bc Ci pi pc pe K hi hc hI hcond hel hs=>rn B C (aU pi (ba i) pc pe) (.comp K hi hc hI hcond hel hs)
theorem HL {e1 e2:Expr}{d1 d2:PE}{x1 x2 z1 z2 y:Str}{q1 q2 r1 r2 ep pt p cp pos:Pos}{op:BoolOp}{kt:Nat}{scope:Scope}(h1:(z1==x1)=true)(h2:(z2==x2)=true)(hd:(!(x1==("__debug__":Str))&&!(x2==("__debug__":Str)))=true)(hb:HM scope x1 x2=true)(hz:Gi B y=true)(hy:(y==ofString "zip")=true)(hp1:gH e1=true)(hp2:gH e2=true)(k1:aq P B C e1 d1 (RX P))(k2:aq P B C e2 d2 (RX P)):
  aq P B C (.ListComp (.BoolOp op [.Name z1 r1,.Name z2 r2] ep) [⟨.Tuple [.Name x1 q1,.Name x2 q2] kt pt,.Call (.Name y p) [e1,e2] [] cp,[],0⟩] scope pos) (p2 (qr (BoolOp.rec (·&&·) (·||·) op)) d1 d2) (RV P):=by
 have hd:=aj hd
 rw [eq_of_beq h1,eq_of_beq h2,eq_of_beq hy]
 cases op
 .exact .zipC (.and (oZ hd.1) (oZ hd.2)) hb (Ck hy hz) ((pl hp1).star _) ((pl hp2).star _) k1 k2
 .exact .zipC (.or (oZ hd.1) (oZ hd.2)) hb (Ck hy hz) ((pl hp1).star _) ((pl hp2).star _) k1 k2
def Ix (elt t1 t2:Expr)(kt:Nat)(pt:Pos)(iter:Expr)(scope:Scope)(pos:Pos):Mo (RE P B C (.ListComp elt [⟨.Tuple [t1,t2] kt pt,iter,[],0⟩] scope pos)):=
 bK (α:=fun t1=>RE P B C (.ListComp elt [⟨.Tuple [t1,t2] kt pt,iter,[],0⟩] scope pos)) t1 mF fun x1 q1=>bK (α:=fun t2=>RE P B C (.ListComp elt [⟨.Tuple [.Name x1 q1,t2] kt pt,iter,[],0⟩] scope pos)) t2 mF fun x2 q2=>
 gx (α:=fun iter=>RE P B C (.ListComp elt [⟨.Tuple [.Name x1 q1,.Name x2 q2] kt pt,iter,[],0⟩] scope pos)) iter mF fun g es cp=>bK (α:=fun g=>RE P B C (.ListComp elt [⟨.Tuple [.Name x1 q1,.Name x2 q2] kt pt,.Call g es [] cp,[],0⟩] scope pos)) g mF fun y p=>wz (α:=fun es=>RE P B C (.ListComp elt [⟨.Tuple [.Name x1 q1,.Name x2 q2] kt pt,.Call (.Name y p) es [] cp,[],0⟩] scope pos)) es fun e1 e2=>
 mG (!(x1==("__debug__":Str))&&!(x2==("__debug__":Str))) fun hd=>mG (HM scope x1 x2) fun hb=>mG (Gi B y) fun hz=>mG (y==ofString "zip") fun hy=>mG (gH e1) fun hp1=>mG (gH e2) fun hp2=>mX E B C e1 fun a ha=>mX E B C e2 fun b hb'=>
  (fun α:Expr->Type=>fun k:(∀op z1 r1 z2 r2 ep,(z1==x1)=true->(z2==x2)=true->Mo (α (.BoolOp op [.Name z1 r1,.Name z2 r2] ep)))=>(vC (α:=α) elt mF fun h=>Expr.BoolOp.elim (motive_1:=fun e=>Mo (α e)) elt h fun op es ep=>wz (α:=fun es=>α (.BoolOp op es ep)) es fun a b=>bK (α:=fun a=>α (.BoolOp op [a,b] ep)) a mF fun z1 r1=>bK (α:=fun b=>α (.BoolOp op [.Name z1 r1,b] ep)) b mF fun z2 r2=>mG (z1==x1) fun h1=>mG (z2==x2) fun h2=>k op z1 r1 z2 r2 ep h1 h2:Mo (α elt)))
   (fun elt=>RE P B C (.ListComp elt [⟨.Tuple [.Name x1 q1,.Name x2 q2] kt pt,.Call (.Name y p) [e1,e2] [] cp,[],0⟩] scope pos)) fun op z1 r1 z2 r2 ep h1 h2=>rv B C _ (HL B C h1 h2 hd hb hz hy hp1 hp2 ha hb')
def GM (elt target iter:Expr)(ifs:List Expr)(scope:Scope)(pos:Pos):Mo (RE P B C (.ListComp elt [⟨target,iter,ifs,0⟩] scope pos)):=cR (α:=fun ifs=>RE P B C (.ListComp elt [⟨target,iter,ifs,0⟩] scope pos)) ifs
 (A1 (α:=fun target=>RE P B C (.ListComp elt [⟨target,iter,[],0⟩] scope pos)) target
   (wA D B C (α:=fun iter=>RE P B C (.ListComp elt [⟨target,iter,[],0⟩] scope pos)) iter (z0 E Tr B C elt target [] scope pos) fun y np x ap c j ms k O hn ht=>
    mK (P:=P) B C (α:=fun target=>RE P B C (.ListComp elt [⟨target,.Attribute (.Name y np) x ap,[],0⟩] scope pos)) target scope fun x tp i xc Bc Ci K hi hc hb=>mV E Bc Ci elt fun pe hel=>rn B C (qN c j (ba i) pe) (.compF O hn ht K hi hc hb hel fun _ _=>rfl))
   fun es k p=>wz (α:=fun es=>RE P B C (.ListComp elt [⟨.Tuple es k p,iter,[],0⟩] scope pos)) es fun t1 t2=>Ix E B C elt t1 t2 k p iter scope pos)
 fun c cs=>z0 E Tr B C elt target (c::cs) scope pos iter
def IA (e:Expr):Mo (RE P B C e):=
 bK e (vC e (jz e (gx e (vC e (vC e (vC e (vC e (vC e (vC e (vC e (ye e (vC e mF
  fun h=>Expr.Dict.elim (motive_1:=fun e=>Mo (RE P B C e)) e h fun ks vs pos=>gf (α:=fun ks=>RE P B C (.Dict ks vs pos)) ks (gf (α:=fun vs=>RE P B C (.Dict [] vs pos)) vs (rn B C nQ .dic)))
  fun elt t i fs s pos=>GM D E Tr B C elt t i fs s pos)
  fun h=>Expr.Subscript.elim (motive_1:=fun e=>Mo (RE P B C e)) e h fun a i pos=>GJ D E B C a i pos)
  fun h=>Expr.List.elim (motive_1:=fun e=>Mo (RE P B C e)) e h fun es pos=>mU (AN E B C es) fun r hr=>rn B C (bW r) (.list hr))
  fun h=>Expr.Tuple.elim (motive_1:=fun e=>Mo (RE P B C e)) e h fun es k pos=>mU (AN E B C es) fun r hr=>rv B C (aT r) (.tup hr))
  fun h=>Expr.BoolOp.elim (motive_1:=fun e=>Mo (RE P B C e)) e h fun op es pos=>mU (Ja E B C op es) fun r hr=>rv B C r (.boolOp hr))
  fun h=>Expr.Compare.elim (motive_1:=fun e=>Mo (RE P B C e)) e h fun l ops rs pos=>Iy E B C l ops rs pos)
  fun h=>Expr.UnaryOp.elim (motive_1:=fun e=>Mo (RE P B C e)) e h fun op e pos=>Jq E B C op e pos)
  fun h=>Expr.BinOp.elim (motive_1:=fun e=>Mo (RE P B C e)) e h fun l op r pos=>Iz E B C l op r pos)
  fun g es pos=>GN D E B C g es pos)
  fun o x pos=>GO D E B C o x pos)
  fun h=>Expr.Constant.elim (motive_1:=fun e=>Mo (RE P B C e)) e h fun c k pos=>EX B C c k pos)
  fun y pos=>GK D B C y pos
def Jb (op:BoolOp)(es:List Expr):Mo {p:PT // iQ P B C op es p}:=List.rec (motive:=fun es=>Mo {p:PT // iQ P B C op es p})
 (BoolOp.casesOn (motive:=fun op=>Mo {p:PT // iQ P B C op [] p}) op (mR ⟨aM,.andNil⟩) (mR ⟨cU,.orNil⟩))
 (fun e es ih=>mU (Tr B C e) fun a ha=>mU ih fun r hr=>BoolOp.casesOn (motive:=fun op=>iQ P B C op es r->Mo {p:PT // iQ P B C op (e::es) p}) op (fun hr=>mR ⟨wR a r,.and ha hr⟩) (fun hr=>mR ⟨gG a r,.or ha hr⟩) hr) es
def H4 (l:Expr)(ops:List CmpOp)(rs:List Expr)(pos:Pos):Mo {p:PT // cN P B C (.Compare l ops rs pos) p}:=
 cR (α:=fun ops=>{p:PT // cN P B C (.Compare l ops rs pos) p}) ops mF fun op os=>cR (α:=fun rs=>{p:PT // cN P B C (.Compare l (op::os) rs pos) p}) rs mF fun r rs=>mU (wh P op) fun F hF=>mX E B C l fun a ha=>
  cR (α:=fun os=>{p:PT // cN P B C (.Compare l (op::os) (r::rs) pos) p}) os
   (gf (α:=fun rs=>{p:PT // cN P B C (.Compare l [op] (r::rs) pos) p}) rs (wA D B C (α:=fun r=>{p:PT // cN P B C (.Compare l [op] [r] pos) p}) r (fun r=>mG (gH r) fun h=>mX E B C r fun b hb=>mR ⟨p2 F a b,.cmp hF ((pl h).beh op) ha hb⟩)
    fun y np x ap c i ms k O hn ht=>mR ⟨p2 F a (qM c i),.cmpY hF rfl ha (.fld O hn ht)⟩))
   fun o2 os=>gf (α:=fun os=>{p:PT // cN P B C (.Compare l (op::o2::os) (r::rs) pos) p}) os (lc (α:=fun rs=>{p:PT // cN P B C (.Compare l [op,o2] (r::rs) pos) p}) rs fun q=>mG (gH q) fun h=>mX E B C r fun b hb=>mU (wh P o2) fun G hG=>mX E B C q fun c hc=>mR ⟨md F G a b c,.cmp2 hF hG (IS h) ha hb hc⟩)
def H5 (e:Expr):Mo {p:PT // cN P B C e p}:=
 vC (α:=fun e=>{p:PT // cN P B C e p}) e (vC (α:=fun e=>{p:PT // cN P B C e p}) e (vC (α:=fun e=>{p:PT // cN P B C e p}) e (mG (gH e) fun hp=>mG (IN e) fun h=>mX E B C e fun a ha=>mR ⟨qE a,.val ha ((pl hp).tv h)⟩)
  fun h=>Expr.Compare.elim (motive_1:=fun e=>Mo {p:PT // cN P B C e p}) e h fun l ops rs pos=>H4 D E B C l ops rs pos)
  fun h=>Expr.BoolOp.elim (motive_1:=fun e=>Mo {p:PT // cN P B C e p}) e h fun op es pos=>mU (Jb Tr B C op es) fun r hr=>mR ⟨r,.boolOp hr⟩)
  fun h=>Expr.UnaryOp.elim (motive_1:=fun e=>Mo {p:PT // cN P B C e p}) e h fun op e pos=>mG (op==.Not) fun ho=>mU (Tr B C e) fun a ha=>mR ⟨c9 a,sb (α:=fun op=>cN P B C (.UnaryOp op e pos) (c9 a)) ho (.not ha)⟩
end
def IP {P:Pg}{L:LT}(D:gw P L)(n:Nat):FE P×FT P:=Nat.rec ⟨fun _ _ _=>mF,fun _ _ _=>mF⟩ (fun _ r=>⟨fun B C=>IA D r.1 r.2 B C,fun B C=>H5 D r.1 r.2 B C⟩) n
end
end Mine
end
section
set_option tactic.hygienic false
namespace Mine
noncomputable section
open PySem PyProof.Rows
def KS (P:Pg)(B:bG)(C:Ct)(fr:Bool)(W:WP Flow)(p:PS)(o:Option Ct):Prop:=Option.rec (∀C',dw P B C fr C' W p) (fun C'=>dw P B C fr C' W p) o
noncomputable abbrev RS (P:Pg)(B:bG)(C:Ct)(fr:Bool)(W:WP Flow):=(o:Option Ct)×{p:PS // KS P B C fr W p o}
noncomputable abbrev b0 (P:Pg)(B:bG)(C:Ct)(fr:Bool)(st:Stmt):=RS P B C fr (P.W fun env=>exec st env)
noncomputable abbrev RZ (P:Pg)(B:bG)(C:Ct)(fr:Bool)(ss:List Stmt):=RS P B C fr (P.W fun env=>execs ss env)
noncomputable abbrev FS (P:Pg):=∀(B:bG) (C:Ct) (fr:Bool) (ss:List Stmt),Mo (RZ P B C fr ss)
noncomputable def I1 (a b:Ct):Bool:=a.O==b.O&&(a.U==b.U&&a.m==b.m)
theorem EZ {a b:Ct}(h:I1 a b=true):a=b:=
 have ⟨h1,h2⟩:=aj h
 have ⟨h2,h3⟩:=aj h2
 show (⟨a.O,a.U,a.m⟩:Ct)=⟨b.O,b.U,b.m⟩ by rw [eq_of_beq h1,eq_of_beq h2,eq_of_beq h3]
section
variable {P:Pg} {B:bG} {C:Ct} {fr:Bool} {W:WP Flow} {u:Type}
def ra (C':Ct)(p:PS)(h:dw P B C fr C' W p):Mo (RS P B C fr W):=mR ⟨some C',p,h⟩
def rl (p:PS)(h:∀C',dw P B C fr C' W p):Mo (RS P B C fr W):=mR ⟨none,p,h⟩
def mS (x:Mo (RS P B C fr W))(fa:∀C' p,dw P B C fr C' W p->Mo u)(fl:∀p,(∀C',dw P B C fr C' W p)->Mo u):Mo u:=mB x fun r=>Option.rec (motive:=fun o=>{p:PS // KS P B C fr W p o}->Mo u) (fun a=>Subtype.rec fl a) (fun C' a=>Subtype.rec (fa C') a) r.1 r.2
def mT (C':Ct)(x:Mo (RS P B C fr W))(f:∀p,dw P B C fr C' W p->Mo u):Mo u:=mS x (fun C1 p h=>mG (I1 C1 C') fun e=>f p (EZ e▸h)) fun p h=>f p (h C')
end
theorem EM {k:NameKind}(h:(k==.local||k==.cell)=true):k=.local\/k=.cell:=(Bool.or_eq_true_iff.mp h).imp eq_of_beq eq_of_beq
theorem aR.unp {P:Pg}{B:bG}{C:Ct}{fr:Bool}{e:Expr}{p:PE}{zs:List iH}{kt:Nat}{pt pos:Pos}(hz:Df B C zs=true)(hs:∀env,swapsWithSole [.Tuple (zs.map iH.e) kt pt] e pos.line env=pure false)(hw:∀env,swappedStores [.Tuple (zs.map iH.e) kt pt] e env=pure none)(h:aq P B C e p (RV P)):aR P B C fr C (.Assign [.Tuple (zs.map iH.e) kt pt] e pos) (pD (zs.map (·.i)) p):=fun n A env g V J s k Q E X hb hq hr=>by
 refine Assign_Tuple (h n A env g V J s _ _ E X hb fun x s₁ g1 t J1 ea pa w1 r1=>?_) (hs env) (hw env)
 have hb1:=fun q=>hb (ea.trans q)
 obtain ⟨ρ',e2⟩:=ch hb1
 obtain ⟨ts,e3,e4⟩:=aB e2
 cases jn e3
 obtain ⟨a,rfl,f,us,m,b1,_,rb⟩:=r1
 exact jm hz e4 (X.post pa w1) b1 rb fun s' p' X'=>hq s' g1 ρ' J1 (ea.trans (by rw [e2];rfl)) (pa.toS.trans p'.toS) X'
def Jl (B:bG)(es:List Expr):Mo {zs:List iH // es=zs.map iH.e}:=List.rec (motive:=fun es=>Mo {zs:List iH // es=zs.map iH.e}) (mR ⟨[],rfl⟩)
 (fun e es ih=>bK (α:=fun e=>{zs:List iH // e::es=zs.map iH.e}) e mF fun y p=>mU ih fun r hr=>mR ⟨⟨slot B.tab y,y,knd B.tab (slot B.tab y),p⟩::r,congrArg (Expr.Name y p::·) hr⟩) es
section
variable {P:Pg} {L:LT} (D:gw P L) (E:FE P) (Tr:FT P) (S:FS P) (B:bG) (C:Ct) (fr:Bool)
def FX (y:Str)(px:Pos)(e:Expr)(pos:Pos):Mo (b0 P B C fr (.Assign [.Name y px] e pos)):=ua B y mF fun i k ht=>mN fun m=>mG (k==.local||k==.cell) fun hk=>
 bif Nat.ble m 1 then mG (!r7 e y px pos.line B.sc) fun hw=>bif Nat.beq m 0 then mG (bO C i false (z9 C i)) fun hc=>mV E B C e fun a ha=>ra (z9 C i) (aD i a) (aR.set hc ht (EM hk) (oZ hw) ha)
   else mG (bO C i true (Fc C i)) fun hc=>mW E B C e fun a ha=>ra (Fc C i) (aD i a) (aR.setN hc ht (EM hk) (oZ hw) ha)
 else bif Nat.beq m 2 then ye (α:=fun e=>b0 P B C fr (.Assign [.Name y px] e pos)) e mF fun elt t it fs s p=>mN fun o=>(fun C'=>mG (bO C i (Nat.beq o 1) C') fun hc=>mG (k==.local) fun hl=>
   mC E Tr B C (α:=fun t=>b0 P B C fr (.Assign [.Name y px] (.ListComp elt [⟨t,it,fs,0⟩] s p) pos)) elt t it fs s fun x tp j xc Bc Ci pi pc pe K hi hj hI hcond hel hs=>mG (r7 (.ListComp elt [⟨.Name x tp,it,fs,0⟩] s p) y px pos.line B.sc) fun hw=>
    ra C' (aD i (aU pi (ba j) pc pe)) (aR.setCompG (Nat.beq o 1) hc (eq_of_beq hl▸ht) hw K hi hj hI hcond hel hs)) (bif Nat.beq o 1 then Fc C i else z9 C i)
 else gx (α:=fun e=>b0 P B C fr (.Assign [.Name y px] e pos)) e mF fun g es cpos=>jz (α:=fun g=>b0 P B C fr (.Assign [.Name y px] (.Call g es [] cpos) pos)) g mF fun o name apos=>bK (α:=fun o=>b0 P B C fr (.Assign [.Name y px] (.Call (.Attribute o name apos) es [] cpos) pos)) o mF fun z np=>lc (α:=fun es=>b0 P B C fr (.Assign [.Name y px] (.Call (.Attribute (.Name z np) name apos) es [] cpos) pos)) es fun x=>yd (α:=fun x=>b0 P B C fr (.Assign [.Name y px] (.Call (.Attribute (.Name z np) name apos) [x] [] cpos) pos)) x fun n kk cp=>
  ua B z mF fun j k' hz=>mG (bi C j) fun hv=>mG (bO C i false C) fun hc=>mG (apos.endLine==cpos.line) fun hl=>mG (n==0) fun hn=>mG (name==ofString "pop") fun hy=>mG (!r7 (.Call (.Attribute (.Name z np) (ofString "pop") apos) [.Constant (.int 0) kk cp] [] cpos) y px pos.line B.sc) fun hw=>
   ra C (pL j i) (sb (α:=fun name=>aR P B C fr C (.Assign [.Name y px] (.Call (.Attribute (.Name z np) name apos) [.Constant (.int n) kk cp] [] cpos) pos) (pL j i)) hy (sb (α:=fun n=>aR P B C fr C (.Assign [.Name y px] (.Call (.Attribute (.Name z np) (ofString "pop") apos) [.Constant (.int n) kk cp] [] cpos) pos) (pL j i)) hn (aR.pop0 hv hz hc ht (EM hk) (oZ hw) (fun _=>rfl) hl fun _=>rfl)))
def FY (o:Expr)(name:Str)(apos:Pos)(e:Expr)(pos:Pos):Mo (b0 P B C fr (.Assign [.Attribute o name apos] e pos)):=
 bK (α:=fun o=>b0 P B C fr (.Assign [.Attribute o name apos] e pos)) o mF fun y np=>mA D name fun c i ms O hn=>Hs B C y mF fun k ht=>mG (gH e) fun hp=>
  kA (hJ c i) (fun ho=>mW E B C e fun a ha=>ra C (uw c i a) (aR.saN O hn ho ht ((pl hp).swa _ _ _ _) ha)) (mG (!hJ c i) fun ho=>mV E B C e fun a ha=>ra C (uw c i a) (aR.sa O hn (oZ ho) ht ((pl hp).swa _ _ _ _) ha))
def Ib (es:List Expr)(kt:Nat)(pt:Pos)(e:Expr)(pos:Pos):Mo (b0 P B C fr (.Assign [.Tuple es kt pt] e pos)):=mU (Jl B es) fun zs he=>mG (Df B C zs) fun hz=>
 m2 (gx (α:=fun e=>b0 P B C fr (.Assign [.Tuple es kt pt] e pos)) e mF fun g as cpos=>jz (α:=fun g=>b0 P B C fr (.Assign [.Tuple es kt pt] (.Call g as [] cpos) pos)) g mF fun o name apos=>bK (α:=fun o=>b0 P B C fr (.Assign [.Tuple es kt pt] (.Call (.Attribute o name apos) as [] cpos) pos)) o mF fun y np=>gf (α:=fun as=>b0 P B C fr (.Assign [.Tuple es kt pt] (.Call (.Attribute (.Name y np) name apos) as [] cpos) pos)) as
  (ua B y mF fun j k ht=>mG (bi C j) fun hv=>mG (apos.endLine==cpos.line) fun hl=>mG (name==ofString "pop") fun hy=>ra C (yQ j (zs.map (·.i))) (sb (α:=fun name=>aR P B C fr C (.Assign [.Tuple es kt pt] (.Call (.Attribute (.Name y np) name apos) [] [] cpos) pos) (yQ j (zs.map (·.i)))) hy (he▸aR.pop hz hv ht (fun _=>rfl) (fun _=>rfl) (fun _=>rfl) hl))))
 ((fun k:∀e,(∀l env,swapsWithSole [.Tuple (zs.map iH.e) kt pt] e l env=pure false)->(∀env,swappedStores [.Tuple (zs.map iH.e) kt pt] e env=pure none)->Mo (b0 P B C fr (.Assign [.Tuple es kt pt] e pos))=>
   bK (α:=fun e=>b0 P B C fr (.Assign [.Tuple es kt pt] e pos)) e (gx (α:=fun e=>b0 P B C fr (.Assign [.Tuple es kt pt] e pos)) e (vC (α:=fun e=>b0 P B C fr (.Assign [.Tuple es kt pt] e pos)) e mF
    fun h=>Expr.Subscript.elim (motive_1:=fun e=>Mo (b0 P B C fr (.Assign [.Tuple es kt pt] e pos))) e h fun a i p=>k (.Subscript a i p) (fun _ _=>rfl) fun _=>rfl)
    fun g es p=>k (.Call g es [] p) (fun _ _=>rfl) fun _=>rfl)
    fun y p=>k (.Name y p) (fun _ _=>rfl) fun _=>rfl)
  fun e hs hw=>mV E B C e fun a ha=>ra C (pD (zs.map (·.i)) a) (he▸aR.unp hz (hs _) hw ha))
def Ic (a i:Expr)(ps:Pos)(e:Expr)(pos:Pos):Mo (b0 P B C fr (.Assign [.Subscript a i ps] e pos)):=mG (gH e) fun hp=>mV E B C e fun v hv=>
 bK (α:=fun a=>b0 P B C fr (.Assign [.Subscript a i ps] e pos)) a
  (wA D B C (α:=fun a=>b0 P B C fr (.Assign [.Subscript a i ps] e pos)) a (fun _=>mF) fun y np x ap c j ms k O hn ht=>mV E B C i fun q hq=>ra C (sN c j q v) (aR.fput O hn ht ((pl hp).sws _ _ _ _) hq hv))
 fun y np=>ua B y mF fun j k ht=>kA (bi C j)
  (fun ho=>mN fun d=>mX E B C i fun q hq=>ra C (AM j d5 q v) (aR.put vA ho ht ((pl hp).sws _ _ _ _) hq hv))
  (yd (α:=fun i=>b0 P B C fr (.Assign [.Subscript (.Name y np) i ps] e pos)) i fun n kk cp=>mG (k9 C j) fun ho=>mG (n==0) fun hn=>ra C (jV j v) (sb (α:=fun n=>aR P B C fr C (.Assign [.Subscript (.Name y np) (.Constant (.int n) kk cp) ps] e pos) (jV j v)) hn (aR.spot ho ht ((pl hp).sws _ _ _ _) hv)))
def FW (e:Expr)(pos:Pos):Mo (b0 P B C false (.Return (some e) pos)):=
 gx (α:=fun e=>b0 P B C false (.Return (some e) pos)) e
  (A1 (α:=fun e=>b0 P B C false (.Return (some e) pos)) e mF fun es kt pt=>cR (α:=fun es=>b0 P B C false (.Return (some (.Tuple es kt pt)) pos)) es mF fun c es=>FC (α:=fun c=>b0 P B C false (.Return (some (.Tuple (c::es) kt pt)) pos)) c fun w kc pc=>mG (PyData.strOk w&&decide (w.length<=lim)) fun hs=>
   cR (α:=fun es=>b0 P B C false (.Return (some (.Tuple (.Constant (.str w) kc pc::es) kt pt)) pos)) es mF fun e1 es=>cR (α:=fun es=>b0 P B C false (.Return (some (.Tuple (.Constant (.str w) kc pc::e1::es) kt pt)) pos)) es
    (bK (α:=fun e1=>b0 P B C false (.Return (some (.Tuple [.Constant (.str w) kc pc,e1] kt pt)) pos)) e1 mF fun y ep=>ua B y mF fun i k ht=>mG (bi C i) fun hv=>rl (aF (aT (ae (pC (.str w)) (ae (pV i) an)))) fun _=>aR.retT2 hs hv ht)
    fun e2 es=>gf (α:=fun es=>b0 P B C false (.Return (some (.Tuple (.Constant (.str w) kc pc::e1::e2::es) kt pt)) pos)) es (mG (gH e1) fun h1=>mG (gH e2) fun h2=>mW E B C e1 fun a ha=>mW E B C e2 fun b hb=>rl (aF (aT (ae (pC (.str w)) (ae a (ae b an))))) fun _=>aR.retT3 hs ((pl h1).star [e2]) ((pl h2).star []) ha hb))
 fun g es p=>bK (α:=fun g=>b0 P B C false (.Return (some (.Call g es [] p)) pos)) g mF fun y pn=>mG (Gi B y) fun hx=>mO L.1 y mF fun f hf=>mG (A3 f&&!iN f) fun htu=>mG (!rR f) fun hm=>mU (AN E B C es) fun r hr=>rl (aF (ax f r)) fun _=>aR.retC (let ⟨_,h1,h2⟩:=D.fn _ hf;aq.callF h1 h2 (oZ hm) (gi hx) (GD hx) hr) htu
def Id (e:Expr)(pos:Pos):Mo (b0 P B C fr (.Return (some e) pos)):=Bool.rec (motive:=fun fr=>Mo (b0 P B C fr (.Return (some e) pos)))
 (kA (yg B) (fun _=>FW D E B C e pos) (mG (!yg B) fun hB=>mV E B C e fun a ha=>rl (aF a) fun _=>aR.ret (oZ hB) ha))
 (mG (!yg B) fun hB=>bK (α:=fun e=>b0 P B C true (.Return (some e) pos)) e (mW E B C e fun a ha=>rl (aF a) fun _=>aR.retN (oZ hB) ha) fun y p=>ua B y mF fun i k ht=>mG (bi C i) fun hv=>rl (aF (pV i)) fun _=>aR.retO (oZ hB) hv ht) fr
def Ig (e:Expr)(pos:Pos):Mo (b0 P B C fr (.Expr e pos)):=gx (α:=fun e=>b0 P B C fr (.Expr e pos)) e mF fun g es cpos=>m2 (mX E B C (.Call g es [] cpos) fun a ha=>ra C (m6 a) (aR.expr (fun _=>rfl) ha))
 (jz (α:=fun g=>b0 P B C fr (.Expr (.Call g es [] cpos) pos)) g mF fun o name apos=>lc (α:=fun es=>b0 P B C fr (.Expr (.Call (.Attribute o name apos) es [] cpos) pos)) es fun x=>mG (apos.endLine==cpos.line) fun hl=>mG (gH x) fun hp=>
   bK (α:=fun o=>b0 P B C fr (.Expr (.Call (.Attribute o name apos) [x] [] cpos) pos)) o
    (wA D B C (α:=fun o=>b0 P B C fr (.Expr (.Call (.Attribute o name apos) [x] [] cpos) pos)) o (fun _=>mF) fun y np at' ap' c i ms k O hn ht=>mG (name==ofString "append") fun hy=>mV E B C x fun a ha=>ra C (sO c i a) (sb (α:=fun name=>aR P B C fr C (.Expr (.Call (.Attribute (.Attribute (.Name y np) at' ap') name apos) [x] [] cpos) pos) (sO c i a)) hy (aR.fap O hn ht (fun _=>rfl) hl (bt hp _) (fun _=>rfl) ha)))
   fun y np=>ua B y mF fun i k ht=>mG (bi C i) fun hv=>
    kA (name==ofString "append") (fun hy=>mV E B C x fun a ha=>ra C (iI i dL a) (sb (α:=fun name=>aR P B C fr C (.Expr (.Call (.Attribute (.Name y np) name apos) [x] [] cpos) pos) (iI i dL a)) hy (aR.app hv ht hl (fun _=>rfl) (bt hp _) (fun _=>rfl) ha)))
    (mG (name==ofString "extend") fun hy=>mX E B C x fun a ha=>ra C (iI i iO a) (sb (α:=fun name=>aR P B C fr C (.Expr (.Call (.Attribute (.Name y np) name apos) [x] [] cpos) pos) (iI i iO a)) hy (aR.ext hv ht hl (fun _=>rfl) (bt hp _) (fun _=>rfl) ha))))
def Ie (target iter:Expr)(body:List Stmt)(pos:Pos):Mo (b0 P B C fr (.For target iter body [] pos)):=
 bK (α:=fun target=>b0 P B C fr (.For target iter body [] pos)) target
  (A1 (α:=fun target=>b0 P B C fr (.For target iter body [] pos)) target mF fun es kt pt=>wz (α:=fun es=>b0 P B C fr (.For (.Tuple es kt pt) iter body [] pos)) es fun t1 t2=>bK (α:=fun t1=>b0 P B C fr (.For (.Tuple [t1,t2] kt pt) iter body [] pos)) t1 mF fun x1 p1=>bK (α:=fun t2=>b0 P B C fr (.For (.Tuple [.Name x1 p1,t2] kt pt) iter body [] pos)) t2 mF fun x2 p2=>
   gx (α:=fun iter=>b0 P B C fr (.For (.Tuple [.Name x1 p1,.Name x2 p2] kt pt) iter body [] pos)) iter mF fun g as cp=>bK (α:=fun g=>b0 P B C fr (.For (.Tuple [.Name x1 p1,.Name x2 p2] kt pt) (.Call g as [] cp) body [] pos)) g mF fun y p=>lc (α:=fun as=>b0 P B C fr (.For (.Tuple [.Name x1 p1,.Name x2 p2] kt pt) (.Call (.Name y p) as [] cp) body [] pos)) as fun x=>
    ua B x1 mF fun i1 k1 _=>ua B x2 mF fun i2 k2 _=>mG (Df B C [⟨i1,x1,k1,p1⟩,⟨i2,x2,k2,p2⟩]) fun hz=>mG (Gi B y) fun hx=>mG (y==ofString "enumerate") fun hy=>mG (gH x) fun hp=>mV E B C x fun a ha=>mT C (S B C fr body) fun b hb=>
     ra C (cC (qd a) (xN i1 i2) b) (sb (α:=fun y=>aR P B C fr C (.For (.Tuple [.Name x1 p1,.Name x2 p2] kt pt) (.Call (.Name y p) [x] [] cp) body [] pos) (cC (qd a) (xN i1 i2) b)) hy (aR.for (fun _ _=>rfl) (f9.enum (z1:=⟨i1,x1,k1,p1⟩) (z2:=⟨i2,x2,k2,p2⟩) hz (Ck hy hx) ((pl hp).star []) ha) hb)))
 fun y p=>ua B y mF fun i k ht=>mG (bO C i false C) fun hc=>mG (k==.local||k==.cell) fun hk=>mG (gH iter) fun hp=>mU (H0 E B C (kR.one hc ht (EM hk)) iter) fun it hi=>mT C (S B C fr body) fun b hb=>
  ra C (cC it (ba i) b) (aR.for (pl hp).fold hi hb)
def Jf (t:Expr)(a b:List Stmt)(pos:Pos):Mo (b0 P B C fr (.If t a b pos)):=gf (α:=fun b=>b0 P B C fr (.If t a b pos)) b
 (vC (α:=fun t=>b0 P B C fr (.If t a [] pos)) t mF fun h=>Expr.BoolOp.elim (motive_1:=fun t=>Mo (b0 P B C fr (.If t a [] pos))) t h fun op es bp=>BoolOp.casesOn (motive:=fun op=>Mo (b0 P B C fr (.If (.BoolOp op es bp) a [] pos))) op mF (wz (α:=fun es=>b0 P B C fr (.If (.BoolOp .Or es bp) a [] pos)) es fun t1 c=>
  vC (α:=fun c=>b0 P B C fr (.If (.BoolOp .Or [t1,c] bp) a [] pos)) c mF fun h=>Expr.Compare.elim (motive_1:=fun c=>Mo (b0 P B C fr (.If (.BoolOp .Or [t1,c] bp) a [] pos))) c h fun l ops rs rp=>lc (α:=fun ops=>b0 P B C fr (.If (.BoolOp .Or [t1,.Compare l ops rs rp] bp) a [] pos)) ops fun o=>CmpOp.casesOn (motive:=fun o=>Mo (b0 P B C fr (.If (.BoolOp .Or [t1,.Compare l [o] rs rp] bp) a [] pos))) o mF
   (lc (α:=fun rs=>b0 P B C fr (.If (.BoolOp .Or [t1,.Compare l [.NotEq] rs rp] bp) a [] pos)) rs fun w=>gx (α:=fun l=>b0 P B C fr (.If (.BoolOp .Or [t1,.Compare l [.NotEq] [w] rp] bp) a [] pos)) l mF fun g es cp=>jz (α:=fun g=>b0 P B C fr (.If (.BoolOp .Or [t1,.Compare (.Call g es [] cp) [.NotEq] [w] rp] bp) a [] pos)) g mF fun o name ap=>bK (α:=fun o=>b0 P B C fr (.If (.BoolOp .Or [t1,.Compare (.Call (.Attribute o name ap) es [] cp) [.NotEq] [w] rp] bp) a [] pos)) o mF fun y np=>
    wz (α:=fun es=>b0 P B C fr (.If (.BoolOp .Or [t1,.Compare (.Call (.Attribute (.Name y np) name ap) es [] cp) [.NotEq] [w] rp] bp) a [] pos)) es fun ke ve=>ua B y mF fun i k ht=>mG (bi C i) fun hv=>mG (ap.endLine==cp.line) fun hl=>mG (gH ke) fun h1=>mG (gH ve) fun h2=>mG (gH w) fun h3=>mG (name==ofString "setdefault") fun hy=>
     mU (Tr B C t1) fun q hq=>mV E B C ke fun pk hk=>mV E B C ve fun pv hve=>mX E B C w fun pw hw=>mT C (S B C fr a) fun pb hb=>ra C (Hg i q pk pv pw pb) (sb (α:=fun name=>aR P B C fr C (.If (.BoolOp .Or [t1,.Compare (.Call (.Attribute (.Name y np) name ap) [ke,ve] [] cp) [.NotEq] [w] rp] bp) a [] pos) (Hg i q pk pv pw pb)) hy
      (aR.sd hv ht hl (fun env=>by rw [(pl h1).star,(pl h2).star];rfl) ((pl h3).beh _) hq hk hve hw hb))) mF mF mF mF mF mF mF mF))
def Jg (t:Expr)(a b:List Stmt)(pos:Pos):Mo (b0 P B C fr (.If t a b pos)):=m2 (mU (Tr B C t) fun t ht=>mS (S B C fr a)
 (fun C1 p h=>mT C1 (S B C fr b) fun q k=>ra C1 (bI t p q) (aR.if ht h k))
 fun p h=>mS (S B C fr b) (fun C1 q k=>ra C1 (bI t p q) (aR.if ht (h C1) k)) fun q k=>rl (bI t p q) fun C'=>aR.if ht (h C') (k C'))
 (Jf E Tr S B C fr t a b pos)
def vS {α:Stmt->Type}{k:Nat}(st:Stmt)(d:Mo (α st))(f:st.ctorIdx=k->Mo (α st)):Mo (α st):=kA (Nat.beq st.ctorIdx k) (fun h=>f (eq_of_beq_eq_true h)) d
def Ih (st:Stmt):Mo (b0 P B C fr st):=
 vS (α:=fun st=>b0 P B C fr st) st (vS (α:=fun st=>b0 P B C fr st) st (vS (α:=fun st=>b0 P B C fr st) st (vS (α:=fun st=>b0 P B C fr st) st (vS (α:=fun st=>b0 P B C fr st) st (vS (α:=fun st=>b0 P B C fr st) st (vS (α:=fun st=>b0 P B C fr st) st mF
  fun h=>Stmt.Raise.elim (motive_2:=fun st=>Mo (b0 P B C fr st)) st h fun e c pos=>rl iJ fun _=>aR.bad)
  fun h=>Stmt.Expr.elim (motive_2:=fun st=>Mo (b0 P B C fr st)) st h fun e pos=>Ig D E B C fr e pos)
  fun h=>Stmt.While.elim (motive_2:=fun st=>Mo (b0 P B C fr st)) st h fun t b o pos=>gf (α:=fun o=>b0 P B C fr (.While t b o pos)) o (mN fun m=>mN fun x=>mU (Tr B C t) fun t ht=>mT C (S B C fr b) fun b hb=>ra C (eS (m * 10 ^ x) t b) (aR.while _ ht hb)))
  fun h=>Stmt.For.elim (motive_2:=fun st=>Mo (b0 P B C fr st)) st h fun t i b o pos=>gf (α:=fun o=>b0 P B C fr (.For t i b o pos)) o (Ie E S B C fr t i b pos))
  fun h=>Stmt.If.elim (motive_2:=fun st=>Mo (b0 P B C fr st)) st h fun t a b pos=>Jg E Tr S B C fr t a b pos)
  fun h=>Stmt.Return.elim (motive_2:=fun st=>Mo (b0 P B C fr st)) st h fun e pos=>Option.rec (motive:=fun e=>Mo (b0 P B C fr (.Return e pos))) mF (fun e=>Id D E B C fr e pos) e)
  fun h=>Stmt.Assign.elim (motive_2:=fun st=>Mo (b0 P B C fr st)) st h fun ts e pos=>lc (α:=fun ts=>b0 P B C fr (.Assign ts e pos)) ts fun t=>
   bK (α:=fun t=>b0 P B C fr (.Assign [t] e pos)) t (jz (α:=fun t=>b0 P B C fr (.Assign [t] e pos)) t (A1 (α:=fun t=>b0 P B C fr (.Assign [t] e pos)) t (vC (α:=fun t=>b0 P B C fr (.Assign [t] e pos)) t mF
    fun h=>Expr.Subscript.elim (motive_1:=fun t=>Mo (b0 P B C fr (.Assign [t] e pos))) t h fun a i ps=>Ic D E B C fr a i ps e pos) fun es k p=>Ib E B C fr es k p e pos) fun o x p=>FY D E B C fr o x p e pos) fun y px=>FX E Tr B C fr y px e pos
section
variable {α:Stmt->Type} (st:Stmt)
def FF (f:∀y px e pos,Mo (α (.Assign [.Name y px] e pos))):Mo (α st):=vS (α:=α) st mF fun h=>Stmt.Assign.elim (motive_2:=fun st=>Mo (α st)) st h fun ts e pos=>lc (α:=fun ts=>α (.Assign ts e pos)) ts fun t=>bK (α:=fun t=>α (.Assign [t] e pos)) t mF fun y px=>f y px e pos
def I9 (f:∀t b pos,Mo (α (.If t b [] pos))):Mo (α st):=vS (α:=α) st mF fun h=>Stmt.If.elim (motive_2:=fun st=>Mo (α st)) st h fun t a b pos=>gf (α:=fun b=>α (.If t a b pos)) b (f t a pos)
def HY (f:∀y pp it s pos,Mo (α (.For (.Name y pp) it [s] [] pos))):Mo (α st):=vS (α:=α) st mF fun h=>Stmt.For.elim (motive_2:=fun st=>Mo (α st)) st h fun t it b o pos=>gf (α:=fun o=>α (.For t it b o pos)) o (lc (α:=fun b=>α (.For t it b [] pos)) b fun s=>bK (α:=fun t=>α (.For t it [s] [] pos)) t mF fun y pp=>f y pp it s pos)
def FD (f:∀y np name ap w kk mp cp ep,Mo (α (.Expr (.Call (.Attribute (.Name y np) name ap) [.Constant (.str w) kk mp] [] cp) ep))):Mo (α st):=vS (α:=α) st mF fun h=>Stmt.Expr.elim (motive_2:=fun st=>Mo (α st)) st h fun e ep=>gx (α:=fun e=>α (.Expr e ep)) e mF fun g es cp=>jz (α:=fun g=>α (.Expr (.Call g es [] cp) ep)) g mF fun o name ap=>bK (α:=fun o=>α (.Expr (.Call (.Attribute o name ap) es [] cp) ep)) o mF fun y np=>lc (α:=fun es=>α (.Expr (.Call (.Attribute (.Name y np) name ap) es [] cp) ep)) es fun x=>FC (α:=fun x=>α (.Expr (.Call (.Attribute (.Name y np) name ap) [x] [] cp) ep)) x fun w kk mp=>f y np name ap w kk mp cp ep
def FB {α:Expr->Type}(e:Expr)(f:∀y q1 i k1 q2 q3 q4,Mo (α (.Subscript (.Name y q1) (.Slice (some (.Constant (.int i) k1 q2)) none none q3) q4))):Mo (α e):=vC e mF fun h=>Expr.Subscript.elim (motive_1:=fun e=>Mo (α e)) e h fun a s q4=>bK (α:=fun a=>α (.Subscript a s q4)) a mF fun y q1=>yc (α:=fun s=>α (.Subscript (.Name y q1) s q4)) s mF fun lo hi sp q3=>
 Option.rec (motive:=fun lo=>Mo (α (.Subscript (.Name y q1) (.Slice lo hi sp q3) q4))) mF (fun lo=>Option.rec (motive:=fun hi=>Mo (α (.Subscript (.Name y q1) (.Slice (some lo) hi sp q3) q4))) (Option.rec (motive:=fun sp=>Mo (α (.Subscript (.Name y q1) (.Slice (some lo) none sp q3) q4))) (yd (α:=fun lo=>α (.Subscript (.Name y q1) (.Slice (some lo) none none q3) q4)) lo fun i k1 q2=>f y q1 i k1 q2 q3 q4) (fun _=>mF) sp) (fun _=>mF) hi) lo
end
def FV (ss:List Stmt):Mo (RZ P B C fr ss):=cR (α:=fun ss=>RZ P B C fr ss) ss mF fun s1 r=>cR (α:=fun r=>RZ P B C fr (s1::r)) r mF fun s2 r=>cR (α:=fun r=>RZ P B C fr (s1::s2::r)) r mF fun s3 r=>cR (α:=fun r=>RZ P B C fr (s1::s2::s3::r)) r mF fun s4 ss=>
 FF (α:=fun s1=>RZ P B C fr (s1::s2::s3::s4::ss)) s1 fun yF pF e1 pos1=>I9 (α:=fun s2=>RZ P B C fr (_::s2::s3::s4::ss)) s2 fun t2 bs pos2=>FF (α:=fun s3=>RZ P B C fr (_::_::s3::s4::ss)) s3 fun yK pK e3 spos=>HY (α:=fun s4=>RZ P B C fr (_::_::_::s4::ss)) s4 fun yP pp it s5 pos4=>
 gx (α:=fun e1=>RZ P B C fr (.Assign [.Name yF pF] e1 pos1::_::_::_::ss)) e1 mF fun g es pc=>bK (α:=fun g=>RZ P B C fr (.Assign [.Name yF pF] (.Call g es [] pc) pos1::_::_::_::ss)) g mF fun y pn=>ye (α:=fun e3=>RZ P B C fr (_::_::.Assign [.Name yK pK] e3 spos::_::ss)) e3 mF fun elt tg iter ifs scope cp=>gf (α:=fun ifs=>RZ P B C fr (_::_::.Assign [.Name yK pK] (.ListComp elt [⟨tg,iter,ifs,0⟩] scope cp) spos::_::ss)) ifs
 (FB (α:=fun it=>RZ P B C fr (_::_::_::.For (.Name yP pp) it [s5] [] pos4::ss)) it fun yF' q1 i1 k1 q2 q3 q4=>FD (α:=fun s5=>RZ P B C fr (_::_::_::.For (.Name yP pp) _ [s5] [] pos4::ss)) s5 fun yP' np name ap w kk mp cpos epos=>
 mG (yF'==yF) fun eF=>mG (i1==1) fun e1'=>mG (yP'==yP) fun eP=>mG (name==ofString "append") fun eA=>mG (w==ofString "more") fun eM=>
 ua B yF mF fun iF kF tF=>ua B yK mF fun iK kK tK=>ua B yP mF fun iP kP tP=>mG (kF==.local||kF==.cell) fun hkF=>mG (kK==.local) fun hkK=>mG (kP==.local||kP==.cell) fun hkP=>
 mG (bO C iF false C) fun cF=>mG (bO C iK false C) fun cK=>mG (bO C iP false C) fun cP=>mG (ap.endLine==cpos.line) fun hl=>mG (!Nat.beq iF iK&&!Nat.beq iF iP) fun hne=>
 mG (Gi B y) fun hx=>mO L.1 y mF fun f hf=>mG (A3 f&&!iN f) fun htu=>mG (!rR f) fun hm=>mG (!r7 (.Call (.Name y pn) es [] pc) yF pF pos1.line B.sc) fun hwF=>mU (AN E B C es) fun r hr=>mU (Tr B C t2) fun pt ht2=>
 mK (P:=P) B C (α:=fun tg=>RZ P B C fr (_::_::.Assign [.Name yK pK] (.ListComp elt [⟨tg,iter,[],0⟩] scope cp) spos::_::ss)) tg scope fun x tp i xc Bc Ci K hi hc hb=>mG (gH iter) fun hp=>mU (H0 E B C hb iter) fun pi hI=>mW E Bc Ci elt fun pe hel=>
 mG (r7 (.ListComp elt [⟨.Name x tp,iter,[],0⟩] scope cp) yK pK spos.line B.sc) fun hwK=>
 (fun fin:∀C' pr,fu P B C fr C' ss pr->fu P B C fr C' _ (lR iF iK iP (ax f r) pt (aU pi (ba i) aM (p1 xQ pe)) pr)=>mS (S B C fr ss) (fun C' pr h=>ra C' _ (fin C' pr h)) fun pr h=>rl _ fun C'=>fin C' pr (h C'))
  fun C' pr h=>dw.tell (eq_of_beq eF) (eq_of_beq e1') (eq_of_beq eP) (eq_of_beq eA) (eq_of_beq eM) (eq_of_beq hkK) (let ⟨_,h1,h2⟩:=D.fn _ hf;aq.callF h1 h2 (oZ hm) (gi hx) (GD hx) hr) htu (oZ hwF) cF tF (EM hkF) ht2 cK tK hwK K hi hc hI hel (pl hp).fold cP tP (EM hkP) hl hne h)
def HO (ss:List Stmt):Mo (RZ P B C fr ss):=mN fun m=>bif Nat.beq m 99 then FV D E Tr S B C fr ss else Nat.rec
 (cR (α:=fun ss=>RZ P B C fr ss) ss (ra C am dw.nil) fun st ss=>mS (Ih D E Tr S B C fr st)
  (fun C1 p h=>mS (S B C1 fr ss) (fun C2 q k=>ra C2 (ah p q) (dw.cons h k)) fun q k=>rl (ah p q) fun C'=>dw.cons h (k C'))
  fun p h=>gf (α:=fun ss=>RZ P B C fr (st::ss)) ss (rl (ah p am) fun C'=>dw.cons (h C') dw.nil))
 (fun i _=>mG (bi C i) fun hv=>mG (bO C i false (z9 C i)) fun hc=>mG (B.tab[i]?==some (some ((B.tab[i]?.getD none).getD (ofString "",.local)))) fun ht=>
  mS (S B (z9 C i) fr ss) (fun C' p h=>ra C' p (dw.fz hv hc (eq_of_beq ht) h)) fun p h=>rl p fun C'=>dw.fz hv hc (eq_of_beq ht) (h C')) m
end
def FG {P:Pg}{L:LT}(D:gw P L)(n:Nat):FS P:=Nat.rec (fun _ _ _ _=>mF) (fun _ r B C fr ss=>HO D (IP D 20).1 (IP D 20).2 r B C fr ss) n
theorem CY {P:Pg}{L:LT}{D:gw P L}{B:bG}{C:Ct}{fr:Bool}{ss:List Stmt}{p:PS}{n s:Nat}(h:(FG D n B C fr ss s).map (·.1.2.1)=some p):∃C',fu P B C fr C' ss p:=
 let ⟨r,_,h⟩:=av h
 h▸Option.rec (motive:=fun o=>∀a:{p:PS // KS P B C fr (P.W fun env=>execs ss env) p o},∃C',fu P B C fr C' ss a.1) (fun a=>⟨C,a.2 C⟩) (fun C' a=>⟨C',a.2⟩) r.1.1 r.1.2
theorem Cn {P:Pg}{f:Nat}{F:gE}{mN:Str->Option Value}{gl:Bool}{nm:Str}{sc:Scope}{bd:List Stmt}{ps:List Str}{tab:List (Option (Str×NameKind))}{U:List Nat}(x:oY P.h₀ P.mg mN gl nm sc bd ps (P.fnA f) (P.fd f))(h:HB sc tab ps U F.np=true)(tu:(!A3 f||(yg ⟨sc,tab⟩&&!iN f))=true)(sim:∃C',fu P ⟨sc,tab⟩ ⟨[],U,rR f⟩ (iN f) C' bd F.body):xM P f F:=let ⟨_,q⟩:=sim;Co x h tu q
end
end Mine
end
section
set_option tactic.hygienic false
namespace Mine
noncomputable section
open PySem PySem.W PyProof.Rows
noncomputable def uO {γ:Type}(s:Stmt)(d:γ)(f:Arguments->List Stmt->Scope->γ):γ:=kA (Nat.beq s.ctorIdx 0) (fun h=>Stmt.FunctionDef.elim (motive_2:=fun _=>γ) s (eq_of_beq_eq_true h) fun _ a b _ _ _ sc _ _ _=>f a b sc) d
noncomputable def bL (q:Program)(k:Nat):Stmt:=(q.main.body[k]?).getD (.Pass default)
def qW (q:Program)(k j:Nat):Stmt:=kA (Nat.beq (bL q k).ctorIdx 2) (fun h=>Stmt.ClassDef.elim (motive_2:=fun _=>Stmt) (bL q k) (eq_of_beq_eq_true h) fun _ _ _ b _ _ _ _ _ _ _=>(b[j]?).getD (.Pass default)) (.Pass default)
noncomputable abbrev FI:=Nat×Stmt×Str×Bool×Tb×List Nat×Nat
section
variable (I:List FI) (Ψ:Nat->Option gE) (L:LT) (f:Nat)
noncomputable def ic:Stmt×Str×Bool×Tb×List Nat×Nat:=((I.find? fun r=>Nat.beq r.1 f).map (·.2)).getD (.Pass default,ofString "",true,[],[],0)
def lr:Str:=(ic I f).2.1
def my:Bool:=(ic I f).2.2.1
def gM:Tb:=(ic I f).2.2.2.1
def m8:List Nat:=(ic I f).2.2.2.2.1
def Iv:Nat:=(ic I f).2.2.2.2.2
def u6:List Stmt:=uO (ic I f).1 [] fun _ b _=>b
def su:Scope:=uO (ic I f).1 default fun _ _ s=>s
def F3:Arguments:=uO (ic I f).1 default fun a _ _=>a
noncomputable def y6:Nat:=((Ψ f).map gE.np).getD 0
def iL:List Str:=((gM I f).take (y6 Ψ f)).filterMap (·.map (·.1))
noncomputable def w9:Bool:=L.2.1.any fun p=>Nat.beq p.2 f
end
noncomputable def GY (b:Bool):Str:=bif b then ofString "Machine" else ofString "Web"
def C8 (q:Program)(I:List FI)(L:LT)(f:Nat):Option (Scope×List Stmt×Arguments):=bif my I f then v6 q (lr I f) else (oA q (looseW q []) (GY (w9 L f))).bind (zh · (lr I f))
def CF (I:List FI)(Ψ:Nat->Option gE)(qual:Str)(pm cd doc:Value)(vs:List Value)(f:Nat):Option (Sem (List (Str×Value))×Sem (List (Str×Value))):=bif Nat.beq vs.length (iL I Ψ f).length then some (bindArgs (Calls.docDef (lr I f) (F3 I f) (u6 I f) (su I f) pm cd doc) ⟨vs,[]⟩,bindArgs (methDef (lr I f) qual (F3 I f) (u6 I f) (su I f) pm cd doc) ⟨vs,[]⟩) else none
def CE (I:List FI)(Ψ:Nat->Option gE)(vs:List Value)(f:Nat):Option (Sem (List (Str×Value))×Sem (List (Str×Value))):=bif Nat.beq vs.length (iL I Ψ f).length then some (pure ((iL I Ψ f).zip vs),pure ((iL I Ψ f).zip vs)) else none
structure rM (q:Program) (Ψ:Nat->Option gE) (ks:List Nat) (I:List FI) (L:LT):Prop where
 r:ks.map (C8 q I L)=ks.map fun f=>some (su I f,u6 I f,F3 I f)
 b1:∀u pm cd doc a,ks.map (CF I Ψ u pm cd doc [a])=ks.map (CE I Ψ [a])
 b2:∀u pm cd doc a b,ks.map (CF I Ψ u pm cd doc [a,b])=ks.map (CE I Ψ [a,b])
 b3:∀u pm cd doc a b c,ks.map (CF I Ψ u pm cd doc [a,b,c])=ks.map (CE I Ψ [a,b,c])
 b4:∀u pm cd doc a b c d,ks.map (CF I Ψ u pm cd doc [a,b,c,d])=ks.map (CE I Ψ [a,b,c,d])
 b5:∀u pm cd doc a b c d e,ks.map (CF I Ψ u pm cd doc [a,b,c,d,e])=ks.map (CE I Ψ [a,b,c,d,e])
 b6:∀u pm cd doc a b c d e f,ks.map (CF I Ψ u pm cd doc [a,b,c,d,e,f])=ks.map (CE I Ψ [a,b,c,d,e,f])
 p:ks.all (fun f=>(Nat.ble 1 (iL I Ψ f).length&&Nat.ble (iL I Ψ f).length 6)&&HB (su I f) (gM I f) (iL I Ψ f) (m8 I f) (y6 Ψ f))=true
 m:∀b,(L.ms b).all (fun p=>(Ψ p.2).isSome&&(!my I p.2&&((lr I p.2==p.1)&&(w9 L p.2==b))))=true
 f:L.1.all (fun p=>(Ψ p.2).isSome&&(my I p.2&&lr I p.2==p.1))=true
 a:∀b,(oA q (looseW q []) (GY b)).map (fun c=>(cD (uc b)).all (c.statics.contains ·))=some true
 o:∀b,(L.ms b).map (fun p=>(fastLookup "object" p.1).isSome)=(L.ms b).map fun _=>true
 n:jk.all (vZ q (looseW q []))=true
 t:ks.all (fun f=>!A3 f||(yg ⟨su I f,gM I f⟩&&!iN f))=true
theorem E5:∀b,(cD (uc b)).map (fastLookup "object")=(cD (uc b)).map fun _=>some none
 |true=>by kernel_rfl
 |false=>by kernel_rfl
theorem all_cons {α:Type}{p:α->Prop}{a:α}{l:List α}(h:p a)(hl:∀r∈l,p r):∀r∈a::l,p r:=fun r hr=>(au hr).elim (fun e=>e▸h) (hl r)
theorem Je {α:Type}{p:Bool->α->Prop}(h:∀b,∃x,p b x):∃f:Bool->α,∀b,p b (f b):=⟨fun b=>(h b).choose,fun b=>(h b).choose_spec⟩
theorem AB {a b:Bool}(h:(a&&b)=true):a=true/\b=true:=aj h
theorem AP {α z:Type}{f g:α->z}{l:List α}(h:l.map f=l.map g){a:α}(ha:a∈l):f a=g a:=List.map_inj_left.mp h a ha
theorem l5 {α:Type}{p:List α->Prop}(h1:∀a,p [a])(h2:∀a b,p [a,b])(h3:∀a b c,p [a,b,c])(h4:∀a b c d,p [a,b,c,d])(h5:∀a b c d e,p [a,b,c,d,e])(h6:∀a b c d e f,p [a,b,c,d,e,f]):∀l:List α,Nat.ble 1 l.length=true->Nat.ble l.length 6=true->p l
 | [],h,_=>nomatch h
 | [a],_,_=>h1 a
 | [a,b],_,_=>h2 a b
 | [a,b,c],_,_=>h3 a b c
 | [a,b,c,d],_,_=>h4 a b c d
 | [a,b,c,d,e],_,_=>h5 a b c d e
 | [a,b,c,d,e,f],_,_=>h6 a b c d e f
 |_::_::_::_::_::_::_::_,_,h=>nomatch h
structure CU (q:Program) (mg:Str->Option Value) (h:Heap) (b:Bool) (x:ClsRec×Addr×Addr×(Str->Option Value)):Prop where
 c:oA q (looseW q []) (GY b)=some x.1
 g:mg (GY b)=some (.ref x.2.1)
 A:PlainAt h x.1.withCmp x.2.1 x.2.2.1 x.2.2.2
section
variable {q:Program} {Ψ:Nat->Option gE} {ks:List Nat} {I:List FI} {L:LT} (X:rM q Ψ ks I L)
include X
theorem rM.bind {f:Nat}(hf:f∈ks)(u:Str)(pm cd doc:Value)(vs:List Value)(hv:vs.length=(iL I Ψ f).length):CF I Ψ u pm cd doc vs f=CE I Ψ vs f:=by
 have h:=(AB (AB (aA X.p f hf)).1)
 rw [<-hv] at h
 exact l5 (p:=fun vs=>CF I Ψ u pm cd doc vs f=CE I Ψ vs f) (fun a=>AP (X.b1 u pm cd doc a) hf) (fun a b=>AP (X.b2 u pm cd doc a b) hf) (fun a b c=>AP (X.b3 u pm cd doc a b c) hf) (fun a b c d=>AP (X.b4 u pm cd doc a b c d) hf) (fun a b c d e=>AP (X.b5 u pm cd doc a b c d e) hf) (fun a b c d e f=>AP (X.b6 u pm cd doc a b c d e f) hf) vs h.1 h.2
theorem rM.bnd {f:Nat}(hf:f∈ks)(u:Str)(pm cd doc:Value)(vs:List Value)(hv:vs.length=(iL I Ψ f).length):bindArgs (Calls.docDef (lr I f) (F3 I f) (u6 I f) (su I f) pm cd doc) ⟨vs,[]⟩=pure ((iL I Ψ f).zip vs)/\bindArgs (methDef (lr I f) u (F3 I f) (u6 I f) (su I f) pm cd doc) ⟨vs,[]⟩=pure ((iL I Ψ f).zip vs):=by
 have h:=X.bind hf u pm cd doc vs hv
 unfold CF CE at h
 rw [show Nat.beq vs.length (iL I Ψ f).length=true from hv▸beq_refl _] at h
 exact Prod.mk.inj (Option.some.inj h)
theorem rM.fnAt {mean:ExcName->Option Value}{mg mb:Str->Option Value}{h:Heap}(T:Top q (looseW q []) mean mg mb h){H:Bool->ClsRec×Addr×Addr×(Str->Option Value)}(K:∀b,CU q mg h b (H b)){f:Nat}(hf:f∈ks):
  ∃a d,oY h mg (H (w9 L f)).2.2.2 (my I f) (lr I f) (su I f) (u6 I f) (iL I Ψ f) a d:=by
 have r:=AP X.r hf
 unfold C8 at r
 cases hg:my I f with
 |true=>rw [hg] at r;exact Cq T _ r fun pm cd doc vs hv=>(X.bnd hf (ofString "") pm cd doc vs hv).1
 |false=>rw [hg] at r;exact BE (K _).A _ (by rw [(K (w9 L f)).c] at r;exact r) fun u pm cd doc vs hv=>(X.bnd hf u pm cd doc vs hv).2
end
theorem y0 {x:Str}{y:Option Value}(h:fastLookup "object" x=some y):typeLookup (.type "object") x=pure y:=by rw [typeLookup_type,builtinLookup_eq_fast,h]
theorem rM.laid {q:Program}{ks:List Nat}{I:List FI}{L:LT}{P:Pg}(X:rM q P.Ψ ks I L){H:Bool->ClsRec×Addr×Addr×(Str->Option Value)}(K:∀b,CU q P.mg P.h₀ b (H b))(hcl:∀b,P.cls (uc b)=(H b).2.1)(hgl:P.gl=my I)(cs:∀p∈L.2.2.2,∃u,P.mg p.1=some u/\∀g h,Rp P g h p.2 u)
  (hF:∀(f:Nat) (F:gE),P.Ψ f=some F->oY P.h₀ P.mg (H (w9 L f)).2.2.2 (my I f) (lr I f) (su I f) (u6 I f) (iL I P.Ψ f) (P.fnA f) (P.fd f)):gw P L where
 fn:=fun p hp=>by
  obtain ⟨h1,h2⟩:=AB (aA X.f p hp)
  obtain ⟨F,h1⟩:=aE h1
  exact ⟨F,h1,by rw [hgl];exact (AB h2).1,(hF _ F h1).name.trans (eq_of_beq (AB h2).2)⟩
 o:=fun b=>wZ (K b).A (hcl b) (by have:=X.a b;rw [(K b).c] at this;exact Option.some.inj this) (fun x hx=>y0 (AP (E5 b) hx)) (fun p hp=>by
  obtain ⟨h1,h2⟩:=AB (aA (X.m b) p hp)
  obtain ⟨F,h1⟩:=aE h1
  obtain ⟨h2,h3⟩:=AB h2
  obtain ⟨h3,h4⟩:=AB h3
  have y:=(hF _ F h1).asMeth (oZ h2)
  rw [eq_of_beq h3,eq_of_beq h4] at y
  exact y) fun p hp=>let ⟨y,h⟩:=aE (AP (X.o b) hp);⟨y,y0 h⟩
 me:=fun b p hp=>aE (AB (aA (X.m b) p hp)).1
 g:=fun b=>(hcl b)▸(K b).g
 cs:=cs
abbrev AJ (P:Pg)(I:List FI)(f:Nat)(p:PS):Prop:=∃C',fu P ⟨su I f,gM I f⟩ ⟨[],m8 I f,rR f⟩ (iN f) C' (u6 I f) p
def FJ {P:Pg}{L:LT}(D:gw P L)(I:List FI)(f:Nat):Option PS:=bif Nat.beq f 35||Nat.beq f 999 then none else (FG D 60 ⟨su I f,gM I f⟩ ⟨[],m8 I f,rR f⟩ (iN f) (u6 I f) (Iv I f)).map (·.1.2.1)
noncomputable def F1 (Ψ:Nat->Option gE)(f:Nat):Option PS:=bif Nat.beq f 35||Nat.beq f 999 then none else (Ψ f).map gE.body
theorem H8 {P:Pg}{L:LT}{D:gw P L}{I:List FI}{ks:List Nat}(h:ks.map (FJ D I)=ks.map (F1 P.Ψ))(h35:∀F,P.Ψ 35=some F->AJ P I 35 F.body)(h9:∀F,P.Ψ 999=some F->F.body=iJ){f:Nat}{F:gE}(hf:f∈ks)(e:P.Ψ f=some F):AJ P I f F.body:=by
 have h:=AP h hf
 unfold FJ F1 at h
 cases q5:Nat.beq f 35 with
 |true=>cases eq_of_beq_eq_true q5;exact h35 F e
 |false=>
  cases q9:Nat.beq f 999 with
  |true=>cases eq_of_beq_eq_true q9;rw [h9 F e];exact ⟨⟨[],[],false⟩,dw.badZ⟩
  |false=>rw [q5,q9,e] at h;exact CY h
theorem EL {rows:List (Nat×gE)}{f:Nat}{F:gE}(e:(rows.find? fun r=>Nat.beq r.1 f).map (·.2)=some F):f∈rows.map (·.1):=
 let ⟨_,h1,_⟩:=av e
 eq_of_beq_eq_true (find?_some (p:=fun r:Nat×gE=>Nat.beq r.1 f) h1)▸mem_map_of_mem (List.mem_of_find?_eq_some h1)
section
variable {q:Program} {mean:ExcName->Option Value} {ks:List Nat} {I:List FI} {L:LT} {A:Around} {n m:Nat} {F:gE} {bd:List Stmt} {y:Str} {k:NameKind} {s0:Int} {kk:Nat} {q1 q2 q3 q4:Pos} {p:PS} {fa l:Addr} {vs:List Value} {ns:List Int} {J:Sg} {hint:Nat} {s:Shared}
theorem EG {P:Pg}(X:rM q P.Ψ ks I L)(hk:∀f F,P.Ψ f=some F->f∈ks)(T:Top q (looseW q []) mean P.mg P.mb P.h₀){H:Bool->ClsRec×Addr×Addr×(Str->Option Value)}(K:∀b,CU q P.mg P.h₀ b (H b))(hcl:∀b,P.cls (uc b)=(H b).2.1)(hg:P.gl=my I)(cs:∀p∈L.2.2.2,∃u,P.mg p.1=some u/\∀g h,Rp P g h p.2 u)
  (hF:∀(f:Nat) (F:gE),P.Ψ f=some F->oY P.h₀ P.mg (H (w9 L f)).2.2.2 (my I f) (lr I f) (su I f) (u6 I f) (iL I P.Ψ f) (P.fnA f) (P.fd f))
  (sm:∀D:gw P L,ks.map (FJ D I)=ks.map (F1 P.Ψ))(h35:gw P L->∀F,P.Ψ 35=some F->AJ P I 35 F.body)(hL:P.Ψ 999=some F)(h9:F.body=iJ)
  (hb:u6 I 999=.Assign [.Name y q1] (.List [.Constant (.int s0) kk q2] q3) q4::bd)(ht:(gM I 999)[1]?=some (some (y,k)))(hk':(k==.local||k==.cell)=true)(hw:r7 (.List [.Constant (.int s0) kk q2] q3) y q1 q4.line (su I 999)=false)(hc:bO ⟨[],m8 I 999,false⟩ 1 false ⟨[],m8 I 999,false⟩=true)(hnp:y6 P.Ψ 999=1)(hgl:my I 999=true)
  (hlaw:∀D:gw P L,(FG D 60 ⟨su I 999,gM I 999⟩ ⟨[],m8 I 999,false⟩ false bd hint).map (·.1.2.1)=some p)(room:oW A (n+1))(hmg:P.mg (lr I 999)=some (.ref fa))(hs:P.h₀=s.heap)(hl:s.heap.IsList l vs.toArray)(hi:IntsAre vs ns)(hn:ns.length<=63)(hp:p (P.cx n) (frame [.scr ns,.spot] m) ⟨s0,none⟩ (fun _ J=>.ret .none J)=.ret (.bool true) J):
  wpAny P.M A (PySem.call (.ref fa) [.ref l]) (fun v s'=>v=.bool true/\∃h' tk,s'={s with heap:=h',toks:=tk}/\∀a o,s.heap.get? a=some o->h'.get? a=some o) (fun _ _=>False) s:=by
 have D:gw P L:=X.laid K hcl hg cs hF
 have xl:=hF 999 F hL
 have h9':∀F,P.Ψ 999=some F->F.body=iJ:=fun F' e=>by rw [hL] at e;cases e;exact h9
 have hok:∀f F,P.Ψ f=some F->xM P f F:=fun f F e=>Cn (hF f F e) (by have:=(AB (aA X.p f (hk f F e))).2;unfold y6 at this;rw [e] at this;exact this) (aA X.t f (hk f F e)) (H8 (sm D) (h35 D) h9' (hk f F e) e)
 obtain ⟨C',sl⟩:=CY (hlaw D)
 have kl:Hb P 999 1 (gM I 999) (iL I P.Ψ 999) (u6 I 999) (m8 I 999):=zY xl (by have:=(AB (aA X.p 999 (hk 999 F hL))).2;rw [hnp] at this;exact this)
 rw [hb] at kl
 have hfa:P.fnA 999=fa:=Value.ref.inj (Option.some.inj ((xl.ns hgl).symm.trans hmg))
 rw [<-hfa]
 exact zz (Ch T X.n fun f F e=>⟨_,_,_,_,_,hg▸hF f F e⟩) hok hL kl ht (EM hk') (by rw [xl.sc];exact hw) hc (by rw [xl.sc];exact sl) hs room hl hi hn hp
theorem zy {pg:Program}{w:World}{mg mb:Str->Option Value}{Ψ:Nat->Option gE}
  (X:rM q Ψ ks I L)(hk:∀f F,Ψ f=some F->f∈ks)(T:Top q (looseW q []) mean mg mb s.heap)(TE:TopE q (looseW q []) mg s.heap)(cs:∀P:Pg,∀p∈L.2.2.2,∃u,mg p.1=some u/\∀g h,Rp P g h p.2 u)
  (sm:∀P:Pg,∀D:gw P L,ks.map (FJ D I)=ks.map (F1 Ψ))(h35:∀P:Pg,gw P L->∀F,Ψ 35=some F->AJ P I 35 F.body)(hL:Ψ 999=some F)(h9:F.body=iJ)
  (hb:u6 I 999=.Assign [.Name y q1] (.List [.Constant (.int s0) kk q2] q3) q4::bd)(ht:(gM I 999)[1]?=some (some (y,k)))(hk':(k==.local||k==.cell)=true)(hw:r7 (.List [.Constant (.int s0) kk q2] q3) y q1 q4.line (su I 999)=false)(hc:bO ⟨[],m8 I 999,false⟩ 1 false ⟨[],m8 I 999,false⟩=true)(hnp:y6 Ψ 999=1)(hgl:my I 999=true)
  (hlaw:∀P:Pg,∀D:gw P L,(FG D 60 ⟨su I 999,gM I 999⟩ ⟨[],m8 I 999,false⟩ false bd hint).map (·.1.2.1)=some p)(room:oW A (n+1))(hmg:mg (lr I 999)=some (.ref fa))(hl:s.heap.IsList l vs.toArray)(hi:IntsAre vs ns)(hn:ns.length<=63)(hp:p ⟨aw Ψ n⟩ (frame [.scr ns,.spot] m) ⟨s0,none⟩ (fun _ J=>.ret .none J)=.ret (.bool true) J):
  wpAny (model pg w) A (PySem.call (.ref fa) [.ref l]) (fun v s'=>v=.bool true/\∃h' tk,s'={s with heap:=h',toks:=tk}/\∀a o,s.heap.get? a=some o->h'.get? a=some o) (fun _ _=>False) s:=by
 obtain ⟨H,K⟩:=Je (p:=CU q mg s.heap) fun b=>by
  obtain ⟨c,C,N,mN,h1,h2,h3⟩:=E2 (x:=GY b) TE (by have:=congrArg Option.isSome (X.a b);rw [Option.isSome_map] at this;exact this)
  exact ⟨(c,C,N,mN),h1,h2,h3⟩
 obtain ⟨fA,fD,hF⟩:=Ea (fun f F e=>X.fnAt T K (hk f F e)) hL
 exact EG (P:=⟨pg,w,s.heap,fun c=>(H (Nat.beq c 0)).2.1,Ψ,fA,fD,my I,mg,mb⟩) X hk T K (fun b=>by cases b<;>rfl) rfl (cs _) hF (sm _) (h35 _) hL h9 hb ht hk' hw hc hnp hgl (hlaw _) room hmg rfl hl hi hn hp
end
end
end Mine
end
section
set_option maxRecDepth 100000
namespace Mine.L07
noncomputable section
open PySem
@[reducible] def xI (i:Nat)(k:Int):PE:=p2 aL (pV i) (pC (.int k))
@[reducible] def xV (i k:Nat):PE:=p2 aL (pV i) (pV k)
@[reducible] def pI (k:Int):PE:=pC (.int k)
@[reducible] def pZ (x:String):PE:=pC (.str (ofString x))
abbrev zF:PS:=ah (aF (pC (.bool false))) am
abbrev C7:PS:=ah (aD 5 (aU (bm (p2 idxD (p1 (o3 10 6) (pV 0)) (p2 aL (pV 2) (p1 qU (pI 1))))) (ba 7) (p2 iM (pV 7) (pV 1)) (pV 7))) (ah (aF (p2 bw (pV 2) (p3 bR (ax 39 (ae (pV 0) (ae (pV 5) (ae (p3 bR (pV 1) jt (p1 cZ (pI 1))) an)))) jt (p1 cZ (p1 qU (pI 1)))))) am)
abbrev DB:PS:=ah (iI 1 iO (aU (bm (ax 500 (ae (pV 2) an))) (ba 3) (p2 fK (pV 3) (pV 1)) (pV 3))) am
abbrev jR:PS:=ah (iI 4 iO (aU (bm (pV 6)) (ba 8) aM (aT (ae (xI 8 0) (ae (xI 8 1) (ae (p2 gF (p2 gF (p1 br (pV 3)) (pI 1)) (pV 5)) (ae (pV 7) an))))))) am
abbrev jB:PS:=ah (aD 7 (pI 0)) (ah (bI (qE (ax 37 (ae (pV 2) (ae (pV 6) an)))) (ah (aD 7 (ax 38 (ae (pV 2) (ae (pV 6) an)))) (ah (bI (p2 zJ (pV 7) (pC .none)) (ah (aF (ax 42 (ae (pV 2) (ae (pV 6) an)))) am) am) am)) am) jR)
abbrev jE:PS:=ah (aF (aT (ae (pZ "keeps") (ae (pV 4) an)))) am
abbrev mR:PS:=(ah (bI (p2 cH (pV 3) (pZ "not")) (ah (aF (aU (bm (xI 5 0)) (ba 9) aM (lk (pV 9)))) am) am) (ah (bI (p2 cH (pV 3) (pZ "and")) (ah (aF (p2 (qr (·&&·)) (xI 5 0) (xI 5 1))) am) am) (ah (bI (p2 cH (pV 3) (pZ "or")) (ah (aF (p2 (qr (·||·)) (xI 5 0) (xI 5 1))) am) am) (ah (bI (p2 cH (pV 3) (pZ "next")) (ah (aF (aU (cV (ae (p1 br (pV 4)) an)) (ba 10) aM (p2 aL (xI 5 0) (p2 aL (ax 44 (ae (pV 1) (ae (pV 2) (ae (pV 10) an)))) (pI 1))))) am) am) (ah (bI (p2 cH (pV 3) (pZ "always")) (ah (aF (aU (cV (ae (p1 br (pV 4)) an)) (ba 11) aM (pB (p2 fK (pC (.bool false)) (aU (bm (ax 44 (ae (pV 1) (ae (pV 2) (ae (pV 11) an))))) (ba 12) aM (p2 aL (xI 5 0) (pV 12))))))) am) am) (ah (bI (p2 cH (pV 3) (pZ "again")) (ah (aF (aU (bm (pV 4)) (ba 13) aM (pB (p2 iM (pC (.bool true)) (p3 bR (xI 5 0) (p1 cZ (p1 br (pV 1))) jt))))) am) am) (ah (aF (aU (cV (ae (p1 br (pV 4)) an)) (ba 14) aM (ax 45 (ae (xI 5 0) (ae (xI 5 1) (ae (ax 44 (ae (pV 1) (ae (pV 2) (ae (pV 14) an)))) an)))))) am)))))))
abbrev DE:PS:=ah (bI (qE (p1 (dS .tuple) (pV 2))) (ah (aD 1 (p2 bw (pV 1) (ax 21 (ae (pV 2) an)))) am) am) am
abbrev uE:PS:=(ah (aD 3 (bW an)) (ah (bI (p2 iM (xI 2 0) (aT (ae (pZ "next") (ae (pZ "till") (ae (pZ "always") an))))) (ah (aD 3 (bW (ae (pV 2) an))) am) (ah (bI (p2 cH (xI 2 0) (pZ "again")) (ah (aD 3 (bW (ae (aT (ae (pZ "till") (ae (aT (ae (pZ "yes") an)) (ae (xI 2 1) an)))) (ae (aT (ae (pZ "always") (ae (aT (ae (pZ "till") (ae (aT (ae (pZ "yes") an)) (ae (xI 2 1) an)))) an))) an)))) am) am) am)) (ah (aD 1 (p2 bw (pV 1) (aU (bm (pV 3)) (ba 4) (p2 fK (pV 4) (pV 1)) (pV 4)))) am)))
abbrev Ht:PS:=(ah (bI (p2 cH (pV 4) (pZ "not")) (ah (aF (lk (xI 5 0))) am) am) (ah (aF (p2 aL (bW (ae (lq (xI 5 0) (xI 5 1)) (ae (AO (xI 5 0) (xI 5 1)) an))) (p1 qf (pB (p2 cH (pV 4) (pZ "or")))))) am))
abbrev oE:PS:=(ah (bI (p2 mu (xV 2 5) (pV 8)) zF am) am)
abbrev oT:PS:=(ah (bI (p2 cH (xI 6 0) (pZ "always")) (ah (aD 8 (lq (xI 7 0) (xV 4 5))) am) am) (ah (bI (p2 cH (xI 6 0) (pZ "till")) (ah (aD 8 (AO (xI 7 1) (lq (xI 7 0) (xV 4 5)))) am) am) oE))
abbrev oB:PS:=(ah (aD 7 (aU (bm (p3 bR (pV 6) (p1 cZ (pI 1)) jt)) (ba 9) aM (ax 26 (ae (pV 9) (ae (pV 1) (ae (pV 0) (ae (pV 2) an))))))) (ah (aD 8 (ax 26 (ae (xI 6 1) (ae (pV 3) (ae (pV 0) (ae (pV 4) an)))))) oT))
def Bv:PS:=aD 2 (aT (ae (pZ "mark") (ae (p2 aL (pV 1) (p2 bZ (p2 dY (pV 0) (pI 8)) (pI 3))) an)))
def Bu:PS:=aD 3 (aT (ae (pZ "mark") (ae (p2 aL (pV 1) (p2 bZ (p2 bw (p2 bw (p2 dY (pV 0) (pI 8)) (pI 1)) (p2 bZ (p2 dY (pV 0) (pI 24)) (pI 2))) (pI 3))) an)))
def Ej:PS:=(ah (aD 4 (aT (ae (pZ "till") (ae (aT (ae (pZ "yes") an)) (ae (pV 3) an))))) (ah (aD 5 (bW (ae (aT (ae (pZ "again") (ae (pV 2) an))) (ae (aT (ae (pZ "not") (ae (aT (ae (pZ "again") (ae (pV 2) an))) an))) (ae (aT (ae (pZ "always") (ae (aT (ae (pZ "or") (ae (aT (ae (pZ "not") (ae (pV 2) an))) (ae (pV 4) an)))) an))) (ae (aT (ae (pZ "not") (ae (aT (ae (pZ "always") (ae (pV 4) an))) an))) an)))))) (ah (aD 5 (p2 bw (pV 5) (bW (ae (aT (ae (pZ "not") (ae (aT (ae (pZ "always") (ae (aT (ae (pZ "or") (ae (aT (ae (pZ "not") (ae (pV 2) an))) (ae (pV 4) an)))) an))) an))) (ae (aT (ae (pZ "or") (ae (aT (ae (pZ "again") (ae (pV 2) an))) (ae (aT (ae (pZ "next") (ae (pV 3) an))) an)))) an))))) (ah (aF (p2 aL (p2 bw (pV 5) (bW (ae (aT (ae (pZ "not") (ae (aT (ae (pZ "and") (ae (aT (ae (pZ "again") (ae (pV 2) an))) (ae (pV 3) an)))) an))) (ae (aT (ae (pZ "not") (ae (aT (ae (pZ "till") (ae (aT (ae (pZ "not") (ae (pV 2) an))) (ae (pV 3) an)))) an))) an)))) (p2 bZ (pV 0) (pI 8)))) am))))
def Hi:PS:=ah (bI (gG (c9 (qE (p1 (dS .int) (pV 8)))) (gG (qE (p1 (dS .bool) (pV 8))) (gG (c9 (md EB o7 (pI 0) (pV 8) (p1 br (pV 4)))) cU))) zF am) am
def Hn:PS:=cC (bm (aT (ae (pV 2) (ae (pV 3) an)))) (ba 7) (ah (bI (c9 (qE (p1 (dS .list) (pV 7)))) zF am) (ah (cC (bm (pV 7)) (ba 8) Hi) am))
def Hm:PS:=bI (gG (p2 cH (pV 3) (bW an)) (gG (p2 fK (p2 aL (p2 bw (pV 2) (pV 3)) (pI 0)) (pV 6)) cU)) zF am
def Hl:PS:=aD 9 (p2 bw (p2 bw (pV 2) (pV 3)) (p3 bR (pV 3) jt (p1 cZ (pI 1))))
def Hk:PS:=bI (p2 iM (pC (.bool false)) (aU (cV (ae (p2 gF (p1 br (pV 9)) (pI 1)) an)) (ba 10) aM (pB (p2 iM (p2 aL (pV 9) (p2 bw (pV 10) (pI 1))) (p2 aL (pV 5) (xV 9 10)))))) zF am
def Hj:PS:=aF (lk (p2 aL (ax 46 (ae (pV 1) (ae (aU (bm (pV 2)) (ba 11) aM (xV 4 11)) (ae (aU (bm (pV 3)) (ba 12) aM (xV 4 12)) an)))) (pI 0)))
abbrev hB:PS:=ah (bI (qE (ax 27 (ae (pV 1) (ae (p2 aL (pV 4) (xI 3 0)) (ae (xI 3 1) (ae (xV 4 7) (ae (pV 8) an))))))) (ah (iI 6 dL (aT (ae (pV 7) (ae (pV 8) an)))) am) am) am
abbrev tI:PS:=(ah (bI (gG (c9 (qE (p1 (dS .int) (pV 5)))) (gG (qE (p1 (dS .bool) (pV 5))) (gG (p2 o7 (pV 5) (pI 0)) cU))) (ah (aF nQ) am) am) am)
abbrev tA:PS:=(bI (gG (c9 (qE (p1 (dS .tuple) (pV 4)))) (gG (p2 mu (p1 br (pV 4)) (pI 4)) (gG (p2 AR (aT (ae (xI 4 0) (ae (xI 4 1) an))) (pV 2)) cU))) (ah (aF nQ) am) am)
abbrev tB:PS:=(cC (bm (p3 bR (pV 4) (p1 cZ (pI 2)) jt)) (ba 5) tI)
abbrev tC:PS:=(Hg 3 (p2 HA (xI 4 3) (p1 br (pV 1))) (xI 4 2) (xI 4 3) (xI 4 3) (ah (aF nQ) am))
abbrev tD:PS:=(AM 2 d5 (aT (ae (xI 4 0) (ae (xI 4 1) an))) (p3 bR (pV 4) (p1 cZ (pI 2)) jt))
abbrev Ip:PS:=aD 4 (p2 bw (bW (ae (pC .none) an)) (aU (bm (pV 3)) (ba 12) (p2 mu (xI 12 0) (pZ "next")) (pV 12)))
abbrev IZ:PS:=cC (bm (pV 3)) (ba 6) (ah (aD 5 (ax 30 (ae (pV 5) an))) am)
abbrev GB:PS:=(ah (iI 8 iO (aU (bm (pV 5)) (ba 13) (c9 (qE (ax 26 (ae (pV 1) (ae (p2 aL (xI 0 0) (pV 9)) (ae (pV 3) (ae (pV 13) an))))))) (aT (ae (pV 9) (ae (pV 13) an))))) am)
abbrev IY:PS:=cC (bm (xI 0 2)) (ba 9) GB
abbrev IX:PS:=(ah (bI (p2 dI (pV 11) (pV 7)) zF am) (ah (bI (c9 (qE (ax 51 (ae (pV 0) (ae (pV 3) (ae (pV 4) (ae (p2 idxD (pV 7) (xV 8 10)) (ae (p2 idxD (pV 7) (pV 11)) (ae (pV 11) an))))))))) zF am) (ah (bI (p2 fK (pV 11) (pV 8)) (ah (iI 8 dL (pV 11)) am) am) am)))
abbrev Hw:PT:=p2 o7 (pV 10) (p1 br (pV 8))
abbrev Hv:PS:=(ah (bI (p2 dI (xV 8 10) (pV 7)) zF am) (ah (cC (bm (ax 31 (ae (pV 0) (ae (pV 3) (ae (pV 5) (ae (xV 8 10) an)))))) (ba 11) IX) (ah (aD 10 (p2 bw (pV 10) (pI 1))) am)))
abbrev IW:PS:=aD 2 (ax 19 (ae (ax 17 (ae (pV 0) (ae (pI 0) an))) an))
abbrev IV:PS:=pD [3,4] (ax 48 (ae (pV 0) (ae (pV 1) (ae (pV 2) (ae (pI 5) an)))))
abbrev IU:PS:=aD 5 (yU 0 1006 (ae (xI 3 0) (ae (xI 3 1) (ae (xI 3 2) an))))
abbrev Fo:PE:=ax 43 (ae (pV 5) (ae (pV 4) an))
def Fm:PT:=(gG (c9 (qE (p1 (dS .tuple) (pV 6)))) (gG (p2 fK (p1 br (pV 6)) (aT (ae (pI 2) (ae (pI 3) an)))) (gG (p2 mu (xI 6 0) (p2 aL (bW (ae (pZ "keeps") (ae (pZ "breaks") an))) (p2 gF (p1 br (pV 6)) (pI 2)))) cU)))
def Gr:PE:=(aU (bm (p3 bR (pV 6) (p1 cZ (pI 1)) jt)) (ba 10) aM (p1 xQ (p1 gz (pV 10))))
def Gw:PT:=(gG (p2 mu (aU (bm (p3 bR (pV 9) (p1 cZ (pI 1)) jt)) (ba 11) aM (p1 gz (pV 11))) (pV 7)) (gG (p2 mu (aU (bm (p3 bR (pV 6) (p1 cZ (pI 1)) jt)) (ba 12) aM (p3 bR (pV 12) jt (p1 cZ (p1 qU (pI 1))))) (pV 7)) cU))
def Dj:PS:=(ah (bI (p2 cH (xI 6 0) (pZ "keeps")) (ah (aF (ax 52 (ae (pV 3) (ae (pV 4) (ae (xI 9 1) an))))) am) am) (ah (aF (ax 49 (ae (pV 3) (ae (pV 4) (ae (xI 9 1) (ae (xI 9 2) an)))))) am))
abbrev pP:PS:=(ah (bI (gG (c9 (qE (p1 (dS .str) (pV 0)))) (gG (p2 Dp (p1 br (pV 0)) (pI 6)) cU)) zF am) (ah (aF (p1 kN (aU (p1 CC (pV 0)) (ba 1) aM (pB (p2 Hz (pV 1) (pZ "abcdefghijklmnopqrstuvwxyz")))))) am))
abbrev nH:PS:=(ah (bI (p2 cH (xI 0 0) (pZ "mark")) (ah (aF (bW an)) am) am) (ah (aF (p1 gz (p3 bR (pV 0) (p1 cZ (pI 1)) jt))) am))
abbrev nK:PS:=(ah (bI (gG (c9 (qE (p1 (dS .tuple) (pV 0)))) (gG (p2 cH (p1 br (pV 0)) (pI 0)) (gG (c9 (qE (p1 (dS .str) (xI 0 0)))) cU))) zF am) (ah (bI (p2 cH (xI 0 0) (pZ "mark")) (ah (aF (lq (pB (p2 cH (p1 br (pV 0)) (pI 2))) (lq (ax 1 (ae (xI 0 1) an)) (pB (p2 mu (xI 0 1) (pZ "")))))) am) am) (ah (bI (p2 cH (xI 0 0) (pZ "yes")) (ah (aF (pB (p2 cH (p1 br (pV 0)) (pI 1)))) am) am) (ah (bI (p2 iM (xI 0 0) (aT (ae (pZ "not") (ae (pZ "next") (ae (pZ "always") (ae (pZ "again") an)))))) (ah (aF (pB (p2 cH (p1 br (pV 0)) (pI 2)))) am) am) (ah (aF (lq (pB (p2 iM (xI 0 0) (aT (ae (pZ "and") (ae (pZ "or") (ae (pZ "till") an)))))) (pB (p2 cH (p1 br (pV 0)) (pI 3))))) am)))))
abbrev lW:PS:=(ah (bI (gG (p2 cH (pV 1) (pI 0)) (gG (c9 (qE (ax 3 (ae (pV 0) an)))) cU)) zF am) (ah (aF (p1 kN (aU (bm (ax 2 (ae (pV 0) an))) (ba 2) aM (ax 4 (ae (pV 2) (ae (p2 gF (pV 1) (pI 1)) an)))))) am))
abbrev lX:PS:=(ah (aF (ax 4 (ae (pV 0) (ae (pI 5) an)))) am)
abbrev lV:PS:=(ah (bI (p2 iM (xI 0 0) (aT (ae (pZ "next") (ae (pZ "till") (ae (pZ "always") an))))) (ah (aF (bW (ae (pV 0) an))) am) am) (ah (bI (p2 cH (xI 0 0) (pZ "again")) (ah (aD 1 (aT (ae (pZ "till") (ae (aT (ae (pZ "yes") an)) (ae (xI 0 1) an))))) (ah (aF (bW (ae (pV 1) (ae (aT (ae (pZ "always") (ae (pV 1) an))) an)))) am)) am) (ah (aF (bW an)) am)))
abbrev nM:PS:=(ah (aD 1 (bW an)) (ah (cC (bm (ax 2 (ae (pV 0) an))) (ba 2) DB) (ah (iI 1 iO (aU (bm (ax 6 (ae (pV 0) an))) (ba 4) (p2 fK (pV 4) (pV 1)) (pV 4))) (ah (aF (pV 1)) am))))
abbrev iV:PS:=(ah (bI (c9 (qE (ax 5 (ae (pV 0) an)))) (ah iJ am) am) (ah (bI (p2 Dp (p1 br (ax 500 (ae (pV 0) an))) (pI 4)) (ah iJ am) am) (ah (aF (pV 0)) am)))
abbrev iX:PS:=(ah (aD 1 (bW (ae (aT an) an))) (ah (cC (bm (pV 0)) (ba 2) (ah (aD 1 (p2 bw (aU (bm (pV 1)) (ba 3) aM (p2 bw (pV 3) (aT (ae (pC (.bool false)) an)))) (aU (bm (pV 1)) (ba 4) aM (p2 bw (pV 4) (aT (ae (pC (.bool true)) an)))))) am)) (ah (aF (pV 1)) am)))
abbrev pQ:PS:=(ah (aF (p2 aL (pV 2) (xO .list fM (pV 1) (pV 0)))) am)
abbrev vG:PS:=(ah (aD 4 (xI 0 0)) (ah (bI (p2 cH (pV 4) (pZ "mark")) (ah (aF (pB (p2 cH (pV 1) (xI 0 1)))) am) am) (ah (bI (p2 cH (pV 4) (pZ "yes")) (ah (aF (pC (.bool true))) am) am) (ah (bI (p2 cH (pV 4) (pZ "not")) (ah (aF (lk (ax 10 (ae (xI 0 1) (ae (pV 1) (ae (pV 2) (ae (pV 3) an))))))) am) am) (ah (bI (p2 cH (pV 4) (pZ "and")) (ah (aF (lq (ax 10 (ae (xI 0 1) (ae (pV 1) (ae (pV 2) (ae (pV 3) an))))) (ax 10 (ae (xI 0 2) (ae (pV 1) (ae (pV 2) (ae (pV 3) an))))))) am) am) (ah (bI (p2 cH (pV 4) (pZ "or")) (ah (aF (AO (ax 10 (ae (xI 0 1) (ae (pV 1) (ae (pV 2) (ae (pV 3) an))))) (ax 10 (ae (xI 0 2) (ae (pV 1) (ae (pV 2) (ae (pV 3) an))))))) am) am) (ah (bI (p2 cH (pV 4) (pZ "again")) (ah (aF (ax 9 (ae (aT (ae (pZ "always") (ae (aT (ae (pZ "till") (ae (aT (ae (pZ "yes") an)) (ae (xI 0 1) an)))) an))) (ae (pV 2) (ae (pV 3) an))))) am) am) (ah (aF (ax 9 (ae (pV 0) (ae (pV 2) (ae (pV 3) an))))) am))))))))
abbrev sJ:PS:=(ah (bI (p2 cH (xI 0 0) (pZ "next")) (ah (aF (ax 10 (ae (xI 0 1) (ae (xI 3 0) (ae (pV 1) (ae (xI 3 1) an)))))) am) am) (ah (bI (p2 cH (xI 0 0) (pZ "till")) (ah (bI (qE (ax 10 (ae (xI 0 2) (ae (xI 2 0) (ae (pV 1) (ae (xI 2 1) an)))))) (ah (aF (pC (.bool true))) am) am) (ah (aF (lq (ax 10 (ae (xI 0 1) (ae (xI 2 0) (ae (pV 1) (ae (xI 2 1) an))))) (ax 9 (ae (pV 0) (ae (pV 1) (ae (xI 3 1) an)))))) am)) am) (ah (aF (lq (ax 10 (ae (xI 0 1) (ae (xI 2 0) (ae (pV 1) (ae (xI 2 1) an))))) (ax 9 (ae (pV 0) (ae (pV 1) (ae (xI 3 1) an)))))) am)))
abbrev pR:PS:=(ah (cC (bm (pV 0)) (ba 3) (ah (bI (p2 mu (ax 9 (ae (pV 3) (ae (pV 0) (ae (xI 1 1) an)))) (ax 11 (ae (pV 3) (ae (pV 0) (ae (pV 1) (ae (pV 2) an)))))) zF am) am)) (ah (aF (pC (.bool true))) am))
abbrev iU:PS:=(ah (aF (p2 bw (bW (ae (pC .none) an)) (aU (bm (ax 500 (ae (pV 0) an))) (ba 1) (p2 iM (xI 1 0) (aT (ae (pZ "till") (ae (pZ "always") an)))) (pV 1)))) am)
abbrev sM:PS:=(ah (bI (p2 zJ (pV 0) (pC .none)) (ah (aF (pC (.bool true))) am) am) (ah (bI (p2 cH (xI 0 0) (pZ "till")) (ah (aF (AO (lk (ax 9 (ae (pV 0) (ae (pV 2) (ae (pV 3) an))))) (ax 10 (ae (xI 0 2) (ae (pV 1) (ae (pV 2) (ae (pV 3) an))))))) am) am) (ah (aF (AO (ax 9 (ae (pV 0) (ae (pV 2) (ae (pV 3) an)))) (lk (ax 10 (ae (xI 0 1) (ae (pV 1) (ae (pV 2) (ae (pV 3) an)))))))) am)))
abbrev jM:PS:=(ah (aD 1 (bW an)) (ah (aD 2 nQ) (ah (cC (bm (p1 (o3 10 4) (pV 0))) (ba 3) (ah (bI (p2 dI (pV 3) (pV 2)) (ah (AM 2 d5 (pV 3) (pC (.bool true))) (ah (aD 4 (bW (ae (aT (ae (pV 3) (ae (pI 0) an))) an))) (ah (eS 20000 (p2 mu (pV 4) (bW an)) (ah (yQ 4 [5,6]) (ah (bI (p2 cH (pV 6) (p1 br (p2 idxD (p1 (o3 10 6) (pV 0)) (pV 5)))) (ah (iI 1 dL (pV 5)) am) (ah (iI 4 dL (aT (ae (pV 5) (ae (p2 bw (pV 6) (pI 1)) an)))) (ah (aD 7 (p2 aL (p2 idxD (p1 (o3 10 6) (pV 0)) (pV 5)) (pV 6))) (ah (bI (p2 dI (pV 7) (pV 2)) (ah (AM 2 d5 (pV 7) (pC (.bool true))) (ah (iI 4 dL (aT (ae (pV 7) (ae (pI 0) an)))) am)) am) am)))) am))) am))) am) am)) (ah (aF (pV 1)) am))))
abbrev lY:PS:=(ah (aD 1 (ax 35 (ae (pV 0) an))) (ah (aD 2 nQ) (ah (aD 3 (bW an)) (ah (cC (bm (p1 uo (ax 34 (ae (pV 0) an)))) (ba 4) (ah (bI (p2 dI (pV 4) (pV 2)) (ah (AM 2 d5 (pV 4) (pC (.bool true))) (ah (aD 5 (bW (ae (pV 4) an))) (ah (aD 6 (pI 0)) (ah (eS 400 (p2 o7 (pV 6) (p1 br (pV 5))) (ah (cC (bm (p2 idxD (pV 1) (xV 5 6))) (ba 7) (ah (bI (p2 dI (pV 7) (pV 2)) (ah (AM 2 d5 (pV 7) (pC (.bool true))) (ah (iI 5 dL (pV 7)) am)) am) am)) (ah (aD 6 (p2 bw (pV 6) (pI 1))) am))) (ah (iI 3 dL (pV 5)) am))))) am) am)) (ah (aF (pV 3)) am)))))
abbrev jN:PS:=(ah (aF (AO (pB (p2 Dp (p1 br (pV 1)) (pI 1))) (pB (p2 iM (xI 1 0) (p2 idxD (p1 (o3 10 6) (pV 0)) (xI 1 0)))))) am)
abbrev vE:PS:=(ah (cC (cV (ae (p1 br (p1 (o3 10 1) (pV 0))) an)) (ba 2) (ah (bI (c9 (qE (p1 AA (aU (bm (pV 1)) (ba 3) aM (vH 10 1005 (pV 0) (ae (pV 3) (ae (pV 2) an))))))) (ah (aF (pV 2)) am) am) am)) (ah (aF (pC .none)) am))
abbrev pO:PS:=(ah (aD 3 (p1 tf (aU (bm (pV 1)) (ba 7) aM (aT (ae (pV 7) (ae (pC .none) an)))))) (ah (aD 4 (p1 gz (pV 1))) (ah (eS 400 (p2 mu (pV 4) (bW an)) (ah (pL 4 5) (ah (bI (p2 iM (pV 5) (pV 2)) (ah (aF (ax 40 (ae (pV 3) (ae (pV 5) an)))) am) am) (ah (cC (bm (p2 idxD (p1 (o3 10 6) (pV 0)) (pV 5))) (ba 6) (ah (bI (p2 dI (pV 6) (pV 3)) (ah (AM 3 d5 (pV 6) (pV 5)) (ah (iI 4 dL (pV 6)) am)) am) am)) am)))) (ah (aF (bW an)) am))))
abbrev lU:PS:=(ah (aD 2 (bW an)) (ah (eS 400 (p2 GC (pV 1) (pC .none)) (ah (iI 2 dL (pV 1)) (ah (aD 1 (p2 idxD (pV 0) (pV 1))) am))) (ah (aF (p1 uo (pV 2))) am)))
abbrev pN:PS:=(ah (aD 2 (bW (ae (xI 1 0) an))) (ah (cC (cV (ae (p1 br (p1 (o3 10 1) (pV 0))) an)) (ba 3) (ah (aD 4 (aU (bm (pV 1)) (ba 6) (qE (vH 10 1005 (pV 0) (ae (pV 6) (ae (pV 3) an)))) (pV 6))) (ah (aD 2 (p2 bw (pV 2) (p3 bR (ax 39 (ae (pV 0) (ae (p3 bR (pV 2) (p1 cZ (p1 qU (pI 1))) jt) (ae (pV 4) an)))) (p1 cZ (pI 1)) jt))) am))) C7))
abbrev l0:PS:=(ah (aD 2 (p3 bR (ax 39 (ae (pV 0) (ae (p3 bR (p1 (o3 10 4) (pV 0)) jt (p1 cZ (p1 (o3 10 5) (pV 0)))) (ae (p3 bR (pV 1) jt (p1 cZ (pI 1))) an)))) jt (p1 cZ (p1 qU (pI 1))))) (ah (aF (aT (ae (pZ "breaks") (ae (aU (bm (pV 2)) (ba 3) aM (xI 3 0)) (ae (aU (bm (ax 41 (ae (pV 0) (ae (pV 1) an)))) (ba 4) aM (xI 4 0)) an))))) am))
abbrev sL:PS:=(ah (aD 2 (yU 10 1001 (ae (pV 0) (ae (pV 1) an)))) (ah (aD 3 (ax 36 (ae (pV 2) an))) (ah (aD 4 (bW an)) (ah (cC (qd (pV 3)) (xN 5 6) jB) jE))))
abbrev nJ:PS:=(ah (aF (lq (p1 (dS .int) (pV 0)) (lq (lk (p1 (dS .bool) (pV 0))) (pB (md EB o7 (pI 0) (pV 0) (pV 1)))))) am)
abbrev iW:PS:=(ah (bI (gG (c9 (qE (p1 (dS .list) (pV 0)))) (gG (p2 cH (p1 br (pV 0)) (pI 0)) cU)) (ah iJ am) am) (ah (cC (qd (pV 0)) (xN 2 3) (ah (bI (gG (c9 (qE (ax 15 (ae (pV 3) (ae (pV 1) an))))) (gG (p2 iM (pV 3) (p3 bR (pV 0) jt (p1 cZ (pV 2)))) cU)) (ah iJ am) am) am)) am))
abbrev g8:PS:=(ah (bI (p2 o7 (pV 1) (p1 br (pV 0))) (ah (aF (xV 0 1)) am) am) (ah (aF (pI 0)) am))
abbrev ma:PS:=(ah (jV 1 (p2 bw (pU 1) (pI 1))) (ah (aD 2 (p2 gF (pU 1) (pI 1))) (ah (bI (p2 o7 (pV 2) (p1 br (pV 0))) (ah (aF (xV 0 2)) am) am) (ah (bI (wR (p2 Dp (p1 br (pV 0)) (pI 4)) (wR (p2 o7 (pV 2) (pI 50)) aM)) (ah (aF (p2 bZ (p2 hU (p2 bw (p2 aL (pV 0) (p2 bZ (pV 2) (p1 br (pV 0)))) (p2 hU (pI 7919) (pV 2))) (pI 48271)) (pI 1000003))) am) am) (ah (aF (pI 0)) am)))))
abbrev jP:PS:=(ah (aD 1 (pZ "abcdefghijklmnopqrstuvwxyz")) (ah (aD 2 (xO .str vR (pZ "") (aU (cV (ae (pI 6) an)) (ba 8) aM (p2 aL (pV 1) (p2 bZ (p2 bw (p2 dY (pV 0) (pI 7)) (p2 hU (pI 5) (pV 8))) (pI 26)))))) (ah (bI (p2 cH (p2 bZ (pV 0) (pI 3)) (pI 2)) (ah (aD 3 (p2 bw (pI 1) (p2 bZ (p2 dY (pV 0) (pI 3)) (pI 4)))) (ah (aF (aU (cV (ae (pI 3) an)) (ba 9) aM (p3 bR (pV 2) jt (p1 cZ (p2 bw (pV 3) (pV 9)))))) am)) am) (ah (aD 3 (p2 bZ (p2 dY (pV 0) (pI 3)) (pI 6))) (ah (aD 4 (p2 bZ (p2 dY (pV 0) (pI 18)) (p2 bw (pV 3) (pI 1)))) (ah (aD 5 (bW an)) (ah (cC (cV (ae (pI 3) an)) (ba 6) (ah (aD 7 (p2 aL (pV 1) (p2 bZ (p2 bw (p2 dY (pV 0) (pI 90)) (p2 hU (pI 7) (pV 6))) (pI 26)))) (ah (iI 5 dL (p2 bw (p2 bw (p3 bR (pV 2) jt (p1 cZ (pV 4))) (pV 7)) (p3 bR (pV 2) (p1 cZ (pV 4)) (p1 cZ (pV 3))))) am))) (ah (aF (pV 5)) am))))))))
abbrev l9:PS:=(ah (aD 4 (ax 18 (ae (pV 0) (ae (pV 1) an)))) (ah (aD 5 (p2 dY (pV 4) (pI 13))) (ah (bI (gG (p2 o7 (pV 3) (pI 2)) (gG (p2 o7 (p2 bZ (pV 4) (pI 13)) (pI 2)) cU)) (ah (bI (p2 cH (p2 bZ (pV 5) (pI 9)) (pI 4)) (ah (aF (aT (ae (pZ "yes") an))) am) am) (ah (aF (aT (ae (pZ "mark") (ae (p2 aL (pV 2) (p2 bZ (pV 5) (pI 3))) an)))) am)) am) (ah (aD 6 (pZ "not and or next till always again till always next not")) (ah (aD 7 (p2 aL (xO .str qz (pV 6) (pZ " ")) (p2 gF (p2 bZ (pV 4) (pI 13)) (pI 2)))) (ah (aD 8 (ax 20 (ae (pV 0) (ae (pV 1) (ae (pV 2) (ae (p2 gF (pV 3) (pI 1)) an)))))) (ah (bI (p2 iM (pV 7) (aT (ae (pZ "not") (ae (pZ "next") (ae (pZ "always") (ae (pZ "again") an)))))) (ah (aF (aT (ae (pV 7) (ae (pV 8) an)))) am) am) (ah (aF (aT (ae (pV 7) (ae (pV 8) (ae (ax 20 (ae (pV 0) (ae (pV 1) (ae (pV 2) (ae (p2 gF (pV 3) (pI 1)) an))))) an))))) am))))))))
abbrev nO:PS:=(ah (aD 1 (bW (ae (pV 0) an))) (ah (cC (bm (p3 bR (pV 0) (p1 cZ (pI 1)) jt)) (ba 2) DE) (ah (aF (pV 1)) am)))
abbrev jS:PS:=(ah (aD 1 (bW an)) (ah (cC (bm (ax 21 (ae (pV 0) an))) (ba 2) uE) (ah (aF (pV 1)) am)))
abbrev nN:PS:=(ah (eS 40 (p2 Dp (p1 br (ax 22 (ae (pV 0) an))) (pV 1)) (ah (aD 0 (p2 aL (pV 0) (p1 qU (pI 1)))) am)) (ah (aF (pV 0)) am))
abbrev jT:PS:=(ah (aD 3 (p2 bw (p1 br (pV 0)) (p1 br (pV 1)))) (ah (aF (p2 bw (aU (cV (ae (pV 2) (ae (pV 3) an))) (ba 4) aM (pV 4)) (aU (cV (ae (p1 br (pV 0)) (ae (pV 3) an))) (ba 5) aM (pV 5)))) am))
abbrev l7:PS:=(ah (cC (bm (pV 2)) (ba 3) (ah (bI (qE (xV 1 3)) (ah (aF (pC (.bool true))) am) am) (ah (bI (c9 (qE (xV 0 3))) zF am) am))) zF)
abbrev bv:PS:=(ah (aD 3 (xI 0 0)) (ah (aD 4 (p2 bw (pV 1) (pV 2))) (ah (bI (p2 cH (pV 3) (pZ "mark")) (ah (aF (aU (bm (pV 4)) (ba 6) aM (pB (p2 cH (pV 6) (xI 0 1))))) am) am) (ah (bI (p2 cH (pV 3) (pZ "yes")) (ah (aF (aU (bm (pV 4)) (ba 7) aM (pC (.bool true)))) am) am) (ah (aD 5 (aU (bm (p3 bR (pV 0) (p1 cZ (pI 1)) jt)) (ba 8) aM (ax 46 (ae (pV 8) (ae (pV 1) (ae (pV 2) an)))))) mR)))))
abbrev l8:PS:=(ah (aD 3 (p2 bZ (p2 hU (pV 0) (pI 48271)) (pI 1000003))) (ah (aD 4 (bW (ae (p2 bZ (pV 2) (pV 1)) an))) (ah (cC (cV (ae (pI 1) (ae (pV 1) an))) (ba 5) (ah (bI (p2 cH (p2 bZ (pV 3) (pI 3)) (pI 1)) (ah (iI 4 dL (p2 bZ (p2 bw (pV 2) (pV 5)) (pV 1))) am) am) (ah (aD 3 (p2 dY (pV 3) (pI 3))) am))) (ah (aF (pV 4)) am))))
abbrev gY:PS:=(ah (aD 4 (p2 bw (pI 1) (p2 bZ (ax 18 (ae (pV 0) (ae (pV 1) an))) (pV 3)))) (ah (aD 5 (p2 bw (pV 2) (bW (ae (pZ "") (ae (xI 2 0) (ae (xI 2 1) an)))))) (ah (aD 6 (bW an)) (ah (aD 7 (bW an)) (ah (cC (cV (ae (pV 4) an)) (ba 8) (ah (aD 9 (ax 18 (ae (pV 0) (ae (pV 1) an)))) (ah (iI 6 dL (p2 aL (pV 5) (p2 bZ (pV 9) (pI 6)))) (ah (iI 7 dL (ax 24 (ae (pV 9) (ae (pV 4) (ae (p2 dY (pV 9) (pI 6)) an))))) am)))) (ah (aD 9 (ax 18 (ae (pV 0) (ae (pV 1) an)))) (ah (bI (p2 cH (p2 bZ (pV 9) (pI 4)) (pI 3)) (ah (aF (aT (ae (pV 6) (ae (pV 7) (ae (ax 24 (ae (pV 9) (ae (pV 4) (ae (p2 dY (pV 9) (pI 4)) an)))) an))))) am) am) (ah (aF (aT (ae (pV 6) (ae (pV 7) (ae (bW (ae (p2 bZ (p2 dY (pV 9) (pI 4)) (pV 4)) an)) an))))) am))))))))
abbrev iy:PS:=(ah (aD 4 (xI 0 0)) (ah (bI (p2 cH (pV 4) (pZ "mark")) (ah (aF (pB (p2 cH (pV 1) (xI 0 1)))) am) am) (ah (bI (p2 cH (pV 4) (pZ "yes")) (ah (aF (pC (.bool true))) am) am) (ah (bI (p2 cH (pV 4) (pZ "again")) (ah (aF (p2 aL (pV 3) (xO .list fM (pV 2) (aT (ae (pZ "always") (ae (aT (ae (pZ "till") (ae (aT (ae (pZ "yes") an)) (ae (xI 0 1) an)))) an)))))) am) am) (ah (bI (p2 iM (pV 0) (pV 2)) (ah (aF (p2 aL (pV 3) (xO .list fM (pV 2) (pV 0)))) am) am) (ah (aD 5 (aU (bm (p3 bR (pV 0) (p1 cZ (pI 1)) jt)) (ba 6) aM (ax 26 (ae (pV 6) (ae (pV 1) (ae (pV 2) (ae (pV 3) an))))))) Ht))))))
abbrev pT:PS:=(ah (cC (qd (pV 0)) (xN 5 6) oB) (ah (aF (pC (.bool true))) am))
abbrev jQ:PS:=(ah (bI (p2 zJ (pV 0) (pC .none)) (ah (aF (pC (.bool true))) am) am) (ah (aD 4 (p2 aL (pV 3) (xO .list fM (pV 2) (pV 0)))) (ah (bI (p2 cH (xI 0 0) (pZ "till")) (ah (aF (AO (lk (pV 4)) (ax 26 (ae (xI 0 2) (ae (pV 1) (ae (pV 2) (ae (pV 3) an))))))) am) am) (ah (aF (AO (pV 4) (lk (ax 26 (ae (xI 0 1) (ae (pV 1) (ae (pV 2) (ae (pV 3) an)))))))) am))))
abbrev eB:PS:=(ah Bv (ah Bu Ej))
abbrev jO:PS:=(ah (aD 4 (p2 bZ (p2 dY (ax 17 (ae (pV 0) (ae (pI 0) an))) (pI 5)) (pI 16))) (ah (aD 5 (p2 aL (bW (ae (pI 4) (ae (pI 3) (ae (pI 2) (ae (pI 12) (ae (pI 8) an)))))) (p2 hU (pV 4) (p1 qf (pB (p2 o7 (pV 4) (pI 5))))))) (ah (aD 6 (p2 aL (bW (ae (pI 2) (ae (pI 3) (ae (pI 4) (ae (pI 1) (ae (pI 1) an)))))) (p2 hU (pV 4) (p1 qf (pB (p2 o7 (pV 4) (pI 5))))))) (ah (aD 7 (ax 25 (ae (pV 0) (ae (pV 1) (ae (pV 2) (ae (pV 5) an)))))) (ah (aD 8 (ax 23 (ae (ax 20 (ae (pV 0) (ae (pV 1) (ae (pV 2) (ae (pV 3) an))))) (ae (pV 6) an)))) (ah (aD 9 (ax 18 (ae (pV 0) (ae (pV 1) an)))) (ah (bI (wR (p2 cH (p2 bZ (pV 9) (pI 3)) (pI 0)) (wR (p2 fK (pV 4) (aT (ae (pI 3) (ae (pI 4) an)))) aM)) (ah (aD 8 (ax 47 (ae (p2 dY (pV 9) (pI 3)) (ae (pV 2) an)))) am) am) (ah (aF (aT (ae (pV 7) (ae (pV 8) an)))) am))))))))
abbrev di:PS:=(ah (pD [4,5,6] (pV 0)) (ah Hn (ah Hm (ah Hl (ah Hk (ah Hj am))))))
abbrev iY:PS:=(ah (aD 1 (bW an)) (ah (cC (bm (pV 0)) (ba 2) (ah (iI 1 iO (bW (ae (p2 bw (pV 2) (aT (ae (pC (.bool false)) an))) (ae (p2 bw (pV 2) (aT (ae (pC (.bool true)) an))) an)))) am)) (ah (aF (pV 1)) am)))
abbrev iZ:PS:=(ah (pD [4,5] (p3 bR (pV 0) jt (p1 cZ (pI 2)))) (ah (aD 6 (bW an)) (ah (cC (bm (p2 aL (pV 5) (xI 3 0))) (ba 7) (ah (cC (bm (pV 2)) (ba 8) hB) am)) (ah (aF (pV 6)) am))))
abbrev l6:PS:=(ah (aD 2 nQ) (ah (aD 3 nQ) (ah (cC (bm (pV 0)) (ba 4) (ah tA (ah tB (ah tC (ah tD am))))) (ah (aF (pV 2)) am))))
abbrev d6:PS:=(ah (bI (p2 mu (xI 4 0) (xI 3 0)) (ah (aF (pB (p2 o7 (xI 4 0) (xI 3 0)))) am) am) (ah (aF (lk (ax 28 (ae (p2 aL (pV 2) (xI 3 1)) (ae (p2 aL (xI 0 0) (xI 5 0)) (ae (pV 1) (ae (xI 5 1) an))))))) am))
abbrev gZ:PS:=(ah (bI (c9 (qE (p1 (dS .list) (pV 2)))) zF am) (ah (aD 3 (ax 500 (ae (pV 1) an))) (ah Ip (ah (aD 5 (bW (ae (aT an) an))) (ah IZ (ah (aD 7 (ax 50 (ae (pV 2) (ae (pV 4) an)))) (ah (aD 8 (bW an)) (ah IY (ah (aD 10 (pI 0)) (ah (eS 400 Hw Hv) (ah (aF (pB (p2 cH (p1 br (pV 2)) (p1 br (pV 8))))) am)))))))))))
abbrev vF:PS:=(ah IW (ah IV (ah IU (lR 6 7 8 Fo Fm Gr (ah (aD 9 Fo) (ah (bI Gw zF am) Dj))))))
abbrev g9:PS:=(ah (m6 (ax 7 (ae (pV 2) an))) (ah (uw 10 0 (ax 500 (ae (pV 2) an))) (ah (uw 10 1 (ax 13 (ae (pV 2) an))) (ah (uw 10 2 (pV 1)) (ah (uw 10 3 nQ) (ah (uw 10 4 (bW an)) (ah (cC (bm (vH 0 1009 (pV 1) an)) (ba 3) (ah (cC (bm (ax 8 (ae (fJ 10 0) an))) (ba 4) (ah (bI (c9 (qE (ax 10 (ae (pV 2) (ae (vH 0 1007 (pV 1) (ae (pV 3) an)) (ae (fJ 10 0) (ae (pV 4) an))))))) (ah (sO 10 4 (aT (ae (pV 3) (ae (pV 4) an)))) am) am) am)) am)) (ah (uw 10 5 (p1 br (qM 10 4))) (ah (uw 10 6 nQ) (ah (m6 (ux 10 1002 an)) am))))))))))
abbrev nP:PS:=(ah (aD 1 (p1 tf (qN 10 4 (ba 5) (aT (ae (pV 5) (ae (pC (.bool true)) an)))))) (ah (aD 2 (pI 0)) (ah (eS 400 (p2 o7 (pV 2) (p1 br (qM 10 4))) (ah (aD 3 (Ef 10 4 aL (pV 2))) (ah (sN 10 6 (pV 3) (ux 10 1003 (ae (pV 3) an))) (ah (cC (bm (Ef 10 6 idxD (pV 3))) (ba 4) (ah (bI (p2 dI (pV 4) (pV 1)) (ah (AM 1 d5 (pV 4) (pC (.bool true))) (ah (sO 10 4 (pV 4)) am)) am) am)) (ah (aD 2 (p2 bw (pV 2) (pI 1))) am))))) am)))
abbrev jU:PS:=(ah (aD 2 (aT (ae (vH 0 1007 (fJ 10 2) (ae (xI 1 0) an)) (ae (xI 1 1) an)))) (ah (aD 3 (bW an)) (ah (cC (bm (vH 0 1008 (fJ 10 2) (ae (xI 1 0) an))) (ba 4) (ah (iI 3 iO (aU (bm (ux 10 1004 (ae (pV 2) (ae (vH 0 1007 (fJ 10 2) (ae (pV 4) an)) an)))) (ba 5) aM (aT (ae (pV 4) (ae (pV 5) an))))) am)) (ah (aF (pV 3)) am))))
abbrev dR:PS:=(ah (bI (p2 dI (aT (ae (pV 1) (ae (pV 2) an))) (qM 10 3)) (ah (aD 3 (aU (bm (ax 8 (ae (fJ 10 0) an))) (ba 4) (qE (ax 12 (ae (fJ 10 0) (ae (pV 1) (ae (aT (ae (pV 2) (ae (pV 4) an))) an))))) (pV 4))) (ah (sN 10 3 (aT (ae (pV 1) (ae (pV 2) an))) (pV 3)) am)) am) (ah (aF (Ef 10 3 idxD (aT (ae (pV 1) (ae (pV 2) an))))) am))
abbrev mc:PS:=(ah (aF (ax 14 (ae (p2 aL (fJ 10 1) (pV 2)) (ae (vH 0 1007 (fJ 10 2) (ae (xI 1 0) an)) (ae (fJ 10 0) (ae (xI 1 1) an)))))) am)
abbrev eZ:PS:=(ah (bI (gG (c9 (qE (p1 (dS .list) (pV 1)))) (gG (c9 (md EB EB (pI 1) (p1 br (pV 1)) (pI 12))) cU)) (ah iJ am) am) (ah (bI (c9 (qE (p1 kN (aU (bm (pV 1)) (ba 5) aM (ax 1 (ae (pV 5) an)))))) (ah iJ am) am) (ah (bI (gG (c9 (qE (p1 (dS .list) (pV 2)))) (gG (p2 mu (p1 br (pV 2)) (p1 br (pV 1))) cU)) (ah iJ am) am) (ah (cC (bm (pV 2)) (ba 4) (ah (m6 (ax 16 (ae (pV 4) (ae (p1 br (pV 1)) an)))) am)) (ah (m6 (ax 16 (ae (pV 3) (ae (p1 br (pV 1)) an)))) (ah (uw 0 0 (p1 gz (pV 1))) (ah (uw 0 1 (aU (bm (pV 2)) (ba 6) aM (p1 gz (pV 6)))) (ah (uw 0 2 (p1 gz (pV 3))) am))))))))
abbrev hH:PS:=(ah (aF (p2 aL (fJ 0 0) (pV 1))) am)
abbrev gy:PS:=(ah (aF (p1 gz (p2 aL (fJ 0 1) (pV 1)))) am)
abbrev fU:PS:=(ah (aF (p1 gz (fJ 0 2))) am)
def rows:List (Nat×gE):=[(1,⟨1,1,pP⟩),
 (2,⟨1,0,nH⟩),
 (3,⟨1,0,nK⟩),
 (4,⟨2,1,lW⟩),
 (5,⟨1,0,lX⟩),
 (6,⟨1,1,lV⟩),
 (500,⟨1,4,nM⟩),
 (7,⟨1,0,iV⟩),
 (8,⟨1,4,iX⟩),
 (9,⟨3,0,pQ⟩),
 (10,⟨4,1,vG⟩),
 (11,⟨4,0,sJ⟩),
 (12,⟨3,1,pR⟩),
 (13,⟨1,1,iU⟩),
 (14,⟨4,0,sM⟩),
 (34,⟨1,7,jM⟩),
 (35,⟨1,4,xZ⟩),
 (36,⟨1,7,lY⟩),
 (37,⟨2,0,jN⟩),
 (38,⟨2,2,vE⟩),
 (39,⟨3,5,pO⟩),
 (40,⟨2,1,lU⟩),
 (41,⟨2,6,pN⟩),
 (42,⟨2,3,l0⟩),
 (43,⟨2,7,sL⟩),
 (15,⟨2,0,nJ⟩),
 (16,⟨2,2,iW⟩),
 (17,⟨2,0,g8⟩),
 (18,⟨2,1,ma⟩),
 (19,⟨1,9,jP⟩),
 (20,⟨4,5,l9⟩),
 (21,⟨1,2,nO⟩),
 (22,⟨1,4,jS⟩),
 (23,⟨2,0,nN⟩),
 (44,⟨3,3,jT⟩),
 (45,⟨3,1,l7⟩),
 (46,⟨3,12,bv⟩),
 (24,⟨3,3,l8⟩),
 (25,⟨4,6,gY⟩),
 (26,⟨4,3,iy⟩),
 (27,⟨5,5,pT⟩),
 (28,⟨4,1,jQ⟩),
 (47,⟨2,4,eB⟩),
 (48,⟨4,6,jO⟩),
 (49,⟨4,9,di⟩),
 (30,⟨1,2,iY⟩),
 (31,⟨4,5,iZ⟩),
 (50,⟨2,4,l6⟩),
 (51,⟨6,0,d6⟩),
 (52,⟨3,11,gZ⟩),
 (999,⟨1,12,iJ⟩),
 (1001,⟨3,2,g9⟩),
 (1002,⟨1,5,nP⟩),
 (1003,⟨2,4,jU⟩),
 (1004,⟨3,2,dR⟩),
 (1005,⟨3,0,mc⟩),
 (1006,⟨4,3,eZ⟩),
 (1007,⟨2,0,hH⟩),
 (1008,⟨2,0,gy⟩),
 (1009,⟨1,0,fU⟩)]
noncomputable def Ψ (f:Nat):Option gE:=(rows.find? fun r=>Nat.beq r.1 f).map (·.2)
end
end Mine.L07
end
section
set_option maxRecDepth 100000
set_option maxHeartbeats 4000000
namespace Mine.L07
noncomputable section
open PySem PySem.W PyProof.Rows
def mh:List FI:=[(1,bL pw_uf020006_07 10,(ofString "is_mark"),true,[lo "thing"],[1],10101010000000000),
 (2,bL pw_uf020006_07 11,(ofString "parts_of"),true,[lo "saying"],[],0),
 (3,bL pw_uf020006_07 12,(ofString "has_form"),true,[lo "thing"],[],0),
 (4,bL pw_uf020006_07 13,(ofString "is_within"),true,[lo "thing",ce "deep"],[2],20000000000),
 (5,bL pw_uf020006_07 14,(ofString "is_saying"),true,[lo "thing"],[],0),
 (6,bL pw_uf020006_07 15,(ofString "own_bonds"),true,[lo "saying",lo "ahead"],[],0),
 (500,bL pw_uf020006_07 16,(ofString "bonds_in"),true,[lo "saying",ce "found",lo "part"],[3,4],4010000000003010000000100),
 (7,bL pw_uf020006_07 17,(ofString "need_saying"),true,[lo "saying"],[],0),
 (8,bL pw_uf020006_07 19,(ofString "all_guesses"),true,[lo "bonds",lo "found",lo "bond"],[3,4],40003000000000000),
 (9,bL pw_uf020006_07 20,(ofString "guessed"),true,[lo "bond",lo "bonds",lo "guess"],[],0),
 (10,bL pw_uf020006_07 21,(ofString "is_so"),true,[lo "saying",lo "mark",lo "bonds",lo "guess",lo "word"],[],0),
 (11,bL pw_uf020006_07 22,(ofString "wanted"),true,[lo "bond",lo "bonds",lo "now",lo "then"],[],0),
 (12,bL pw_uf020006_07 23,(ofString "goes_on"),true,[lo "bonds",lo "now",lo "then",lo "bond"],[],0),
 (13,bL pw_uf020006_07 24,(ofString "promises_of"),true,[lo "saying"],[1],100),
 (14,bL pw_uf020006_07 25,(ofString "is_met"),true,[lo "promise",lo "mark",lo "bonds",lo "guess"],[],0),
 (34,bL pw_uf020006_07 29,(ofString "left_order"),true,[lo "web",lo "found",lo "met",lo "start",lo "stack",lo "knot",lo "at",lo "other"],[],2000000050000000001000100010000010000000100000100010000000004020001000100010000000001000100),
 (35,bL pw_uf020006_07 30,(ofString "led_from"),true,[lo "web",lo "found",lo "knot",lo "other"],[4],0),
 (36,bL pw_uf020006_07 31,(ofString "clumps_of"),true,[lo "web",lo "backs",lo "met",lo "found",lo "start",lo "clump",lo "at",lo "other"],[],400000001000600000000000001000100010000000100000204000000010001000100000000010001000000),
 (37,bL pw_uf020006_07 32,(ofString "goes_round"),true,[lo "web",lo "clump"],[],1000000),
 (38,bL pw_uf020006_07 33,(ofString "unmet"),true,[ce "web",lo "clump",ce "number"],[3],300000000),
 (39,bL pw_uf020006_07 34,(ofString "path_to"),true,[lo "web",lo "starts",lo "goals",lo "came",lo "waiting",lo "here",lo "other"],[7],10001000100000100000000040000000300020400010000070100),
 (40,bL pw_uf020006_07 35,(ofString "path_back"),true,[lo "came",lo "knot",lo "found"],[],100000100000204000100),
 (41,bL pw_uf020006_07 36,(ofString "ring_in"),true,[ce "web",ce "clump",lo "found",ce "number",lo "goals",lo "behind"],[6,7],1000700020000000000060002000000000000),
 (42,bL pw_uf020006_07 37,(ofString "broken_by"),true,[lo "web",lo "clump",lo "way"],[3,4],4000003000000),
 (43,bL pw_uf020006_07 38,(ofString "judged"),true,[lo "machine",lo "saying",lo "web",ce "clumps",lo "rows",ce "at",lo "clump",ce "number"],[8],801000000000000000000000000000000010000000000),
 (15,bL pw_uf020006_07 41,(ofString "is_place"),true,[lo "thing",lo "many"],[],0),
 (16,bL pw_uf020006_07 42,(ofString "need_places"),true,[lo "thing",lo "many",lo "at",lo "place"],[],0),
 (17,bL pw_uf020006_07 45,(ofString "_law_cell_at"),true,[lo "_law_script",lo "_law_k"],[],0),
 (18,bL pw_uf020006_07 46,(ofString "_law_draw"),true,[lo "_law_script",lo "_law_spot",lo "_law_k"],[],0),
 (19,bL pw_uf020006_07 47,(ofString "_law_names"),true,[ce "_law_cell",ce "_law_letters",ce "_law_rest",ce "_law_size",lo "_law_at",lo "_law_found",lo "_law_k",lo "_law_letter"],[8,9],60001000000000000010000000000000009000000000000000800000000),
 (20,bL pw_uf020006_07 48,(ofString "_law_made"),true,[lo "_law_script",lo "_law_spot",lo "_law_names_here",lo "_law_deep",lo "_law_cell",lo "_law_more",lo "_law_kinds",lo "_law_kind",lo "_law_one"],[],0),
 (21,bL pw_uf020006_07 49,(ofString "_law_all"),true,[lo "_law_saying",lo "_law_found",lo "_law_part"],[],0),
 (22,bL pw_uf020006_07 50,(ofString "_law_bonds"),true,[lo "_law_saying",ce "_law_found",lo "_law_one",lo "_law_more"],[4],400000000000000000000000000000000000000000000000000),
 (23,bL pw_uf020006_07 51,(ofString "_law_fit"),true,[lo "_law_saying",lo "_law_most"],[],10400),
 (44,bL pw_uf020006_07 52,(ofString "_law_after"),true,[lo "_law_way",lo "_law_ring",lo "_law_at",lo "_law_size"],[4,5],50004000000),
 (45,bL pw_uf020006_07 53,(ofString "_law_till"),true,[lo "_law_ones",lo "_law_others",lo "_law_moments",lo "_law_k"],[],0),
 (46,bL pw_uf020006_07 54,(ofString "_law_means"),true,[ce "_law_saying",ce "_law_way",ce "_law_ring",lo "_law_word",lo "_law_run",ce "_law_rows"],[6,7,8,9,10,11,12,13,14],1400000000001300000000000000120000110000000000000000100000000000000000000000000000000000000900000000080000000007000000000000060000000000000000),
 (24,bL pw_uf020006_07 55,(ofString "_law_some"),true,[lo "_law_cell",lo "_law_many",lo "_law_first",lo "_law_rest",lo "_law_found",lo "_law_k"],[],5000000000001000000000001000000),
 (25,bL pw_uf020006_07 56,(ofString "_law_machine"),true,[lo "_law_script",lo "_law_spot",lo "_law_names_here",lo "_law_most",lo "_law_many",lo "_law_some_here",lo "_law_marks",lo "_law_ways",lo "_law_k",lo "_law_cell"],[],70800000708000000000001000001000000000001000100000000000000),
 (26,bL pw_uf020006_07 57,(ofString "_law_so"),true,[lo "_law_saying",ce "_law_mark",ce "_law_bonds_here",ce "_law_guess",lo "_law_word",lo "_law_parts"],[6],6000200000000000000000000000000000000000000000000000000),
 (27,bL pw_uf020006_07 58,(ofString "_law_on"),true,[ce "_law_bonds_here",ce "_law_mark",ce "_law_guess",lo "_law_after_here",lo "_law_other",lo "_law_k",lo "_law_bond",lo "_law_parts",lo "_law_due"],[9],900020000),
 (28,bL pw_uf020006_07 59,(ofString "_law_meets"),true,[lo "_law_promise",lo "_law_mark",lo "_law_bonds_here",lo "_law_guess",lo "_law_truth"],[],0),
 (47,bL pw_uf020006_07 60,(ofString "_law_often"),true,[lo "_law_cell",lo "_law_names_here",lo "_law_one",lo "_law_other",lo "_law_ever",lo "_law_some_here"],[],0),
 (48,bL pw_uf020006_07 61,(ofString "_law_small"),true,[lo "_law_script",lo "_law_spot",lo "_law_names_here",lo "_law_deep",lo "_law_way",lo "_law_places",lo "_law_bonds_here",lo "_law_drawn",lo "_law_saying",lo "_law_cell"],[],0),
 (49,bL pw_uf020006_07 62,(ofString "_law_walk_breaks"),true,[lo "_law_drawn",lo "_law_saying",lo "_law_way",lo "_law_ring",ce "_law_marks",ce "_law_ways",lo "_law_begins",lo "_law_row",lo "_law_place",ce "_law_whole"],[10,11,12],1200001100000000000000000010000000000000000000000000000000000000000000000000000100),
 (30,bL pw_uf020006_07 63,(ofString "_law_longer"),true,[lo "_law_found",lo "_law_rows",lo "_law_row"],[],200010000000100),
 (31,bL pw_uf020006_07 64,(ofString "_law_behind"),true,[lo "_law_drawn",lo "_law_bonds_here",lo "_law_guesses",lo "_law_knot",lo "_law_marks",lo "_law_ways",lo "_law_found",lo "_law_place",lo "_law_guess"],[],700000000010000000000000000000000000001000100),
 (50,bL pw_uf020006_07 65,(ofString "_law_told"),true,[lo "_law_rows",lo "_law_promises",lo "_law_found",lo "_law_by_rank",lo "_law_row",lo "_law_number"],[],3000000010000000000000100000000000000000000000000010000000001000100),
 (51,bL pw_uf020006_07 66,(ofString "_law_thread_right"),true,[lo "_law_drawn",lo "_law_bonds_here",lo "_law_promises",lo "_law_one",lo "_law_other",lo "_law_knot"],[],0),
 (52,bL pw_uf020006_07 67,(ofString "_law_kept"),true,[ce "_law_drawn",ce "_law_saying",lo "_law_rows",ce "_law_bonds_here",lo "_law_promises",lo "_law_guesses",lo "_law_bond",lo "_law_told_here",lo "_law_knots",ce "_law_place",lo "_law_at",lo "_law_other"],[12,13],10000000000000100010000000001000000000000000001000002040000000000000013010000000001000000000000000000000000120000000000000000),
 (999,bL pw_uf020006_07 68,(ofString "law"),true,[lo "_law_script",lo "_law_spot",lo "_law_names_here",lo "_law_drawn",lo "_law_saying",lo "_law_machine_here",lo "_law_found",lo "_law_kept_here",lo "_law_part",lo "_law_again"],[10,11,12],0),
 (1001,qW pw_uf020006_07 27 0,(ofString "__init__"),false,[lo "self",lo "machine",lo "saying",lo "place",lo "guess"],[],10000000000000000000000000000),
 (1002,qW pw_uf020006_07 27 1,(ofString "spin"),false,[lo "self",lo "met",lo "at",lo "knot",lo "other"],[5],1000100010000010000000000000204000000050100),
 (1003,qW pw_uf020006_07 27 2,(ofString "led_to"),false,[lo "self",lo "knot",lo "now",lo "found",ce "place"],[5],40000050100000000010000000000),
 (1004,qW pw_uf020006_07 27 3,(ofString "guesses_behind"),false,[ce "self",ce "now",ce "mark",lo "some"],[4],1000000000004000200010000),
 (1005,qW pw_uf020006_07 27 4,(ofString "meets"),false,[lo "self",lo "knot",lo "number"],[],0),
 (1006,qW pw_uf020006_07 43 0,(ofString "__init__"),false,[lo "self",lo "marks",lo "ways",lo "begins",lo "row"],[5,6],60000000000000000000000000000000005000000000000),
 (1007,qW pw_uf020006_07 43 1,(ofString "mark"),false,[lo "self",lo "place"],[],0),
 (1008,qW pw_uf020006_07 43 2,(ofString "leads"),false,[lo "self",lo "place"],[],0),
 (1009,qW pw_uf020006_07 43 3,(ofString "starts"),false,[lo "self"],[],0)]
noncomputable def yj:LT:=([((ofString "is_mark"),1),((ofString "parts_of"),2),((ofString "has_form"),3),((ofString "is_within"),4),((ofString "is_saying"),5),((ofString "own_bonds"),6),((ofString "bonds_in"),500),((ofString "need_saying"),7),((ofString "all_guesses"),8),((ofString "guessed"),9),((ofString "is_so"),10),((ofString "wanted"),11),((ofString "goes_on"),12),((ofString "promises_of"),13),((ofString "is_met"),14),((ofString "left_order"),34),((ofString "led_from"),35),((ofString "clumps_of"),36),((ofString "goes_round"),37),((ofString "unmet"),38),((ofString "path_to"),39),((ofString "path_back"),40),((ofString "ring_in"),41),((ofString "broken_by"),42),((ofString "judged"),43),((ofString "is_place"),15),((ofString "need_places"),16),((ofString "_law_cell_at"),17),((ofString "_law_draw"),18),((ofString "_law_names"),19),((ofString "_law_made"),20),((ofString "_law_all"),21),((ofString "_law_bonds"),22),((ofString "_law_fit"),23),((ofString "_law_after"),44),((ofString "_law_till"),45),((ofString "_law_means"),46),((ofString "_law_some"),24),((ofString "_law_machine"),25),((ofString "_law_so"),26),((ofString "_law_on"),27),((ofString "_law_meets"),28),((ofString "_law_often"),47),((ofString "_law_small"),48),((ofString "_law_walk_breaks"),49),((ofString "_law_longer"),30),((ofString "_law_behind"),31),((ofString "_law_told"),50),((ofString "_law_thread_right"),51),((ofString "_law_kept"),52)],
 [((ofString "__init__"),1006),((ofString "mark"),1007),((ofString "leads"),1008),((ofString "starts"),1009)],[((ofString "__init__"),1001),((ofString "spin"),1002),((ofString "led_to"),1003),((ofString "guesses_behind"),1004),((ofString "meets"),1005)],
 [((ofString "LETTERS"),.str (ofString "abcdefghijklmnopqrstuvwxyz")),((ofString "MOST_BONDS"),.int 4),((ofString "MOST_DEEP"),.int 5),((ofString "MOST_LETTERS"),.int 6),((ofString "MOST_PLACES"),.int 12)])
noncomputable def ks:List Nat:=rows.map (·.1)
theorem Iw:rM q Ψ ks mh yj:=⟨by kernel_rfl,fun _ _ _ _ _=>by kernel_rfl,fun _ _ _ _ _ _=>by kernel_rfl,fun _ _ _ _ _ _ _=>by kernel_rfl,fun _ _ _ _ _ _ _ _=>by kernel_rfl,fun _ _ _ _ _ _ _ _ _=>by kernel_rfl,fun _ _ _ _ _ _ _ _ _ _=>by kernel_rfl,by kernel_rfl,fun b=>by cases b<;>kernel_rfl,by kernel_rfl,fun b=>by cases b<;>kernel_rfl,fun b=>by cases b<;>kernel_rfl,by kernel_rfl,by kernel_rfl⟩
theorem A9 (P:Pg)(D:gw P yj):ks.map (FJ D mh)=ks.map (F1 Ψ):=by kernel_rfl
theorem BQ (P:Pg)(D:gw P yj)(F:gE)(e:Ψ 35=some F):AJ P mh 35 F.body:=by
 have h:F.body=xZ:=congrArg gE.body (Option.some.inj e.symm)
 rw [h]
 exact ⟨⟨[],[4],false⟩,Ey (D.o false) (by decide+kernel) rfl rfl rfl rfl rfl rfl rfl (.inl rfl) (.inl rfl) (.inl rfl) (by decide+kernel) (by decide+kernel) rf rfl rf⟩
theorem EE (P:Pg)(D:gw P yj):(FG D 60 ⟨su mh 999,gM mh 999⟩ ⟨[],m8 mh 999,false⟩ false (u6 mh 999).tail 12001100000000001000000099000000000001000000).map (·.1.2.1)=some vF:=by kernel_rfl
theorem Cz {mean:ExcName->Option Value}{mg mb:Str->Option Value}{h:Heap}(T:Top q (looseW q []) mean mg mb h)(P:Pg):∀p∈yj.2.2.2,∃u,mg p.1=some u/\∀g h,Rp P g h p.2 u:=all_cons (xt T (by kernel_rfl) (by decide+kernel)) (all_cons (iC T (by kernel_rfl)) (all_cons (iC T (by kernel_rfl)) (all_cons (iC T (by kernel_rfl)) (all_cons (iC T (by kernel_rfl)) (fun _ h=>nomatch h)))))
end
end Mine.L07
end
section
set_option tactic.hygienic false
namespace Mine.Ltl
noncomputable section
open PySem
inductive Sy where
 |mark (x:Str)
 |yes
 |not (a:Sy)
 |and (a c:Sy)
 |or (a c:Sy)
 |next (a:Sy)
 |till (a c:Sy)
 |always (a:Sy)
 |again (a:Sy)
noncomputable instance:DecidableEq Sy:=fun a b=>Classical.propDecidable (a=b)
noncomputable def nx (n b i:Nat):Nat:=if i+1=n then b else i+1
def U (n b:Nat)(p q:Nat->Bool):Nat->Nat->Bool
 | 0,_=>false
 |k+1,i=>q i||(p i&&U n b p q k (nx n b i))
def it (n b:Nat):Nat->Nat->Nat
 | 0,i=>i
 |t+1,i=>it n b t (nx n b i)
theorem HG {n b k i:Nat}{p q:Nat->Bool}:U n b p q (k+1) i=(q i||(p i&&U n b p q k (nx n b i))):=rfl
theorem EN {n b t i:Nat}:it n b (t+1) i=it n b t (nx n b i):=rfl
theorem tY {n b:Nat}{p q:Nat->Bool}:∀{k i:Nat},U n b p q k i=true↔∃t,t < k/\q (it n b t i)=true/\∀u,u < t->p (it n b u i)=true
 | 0,i=>⟨fun h=>(nomatch h),fun ⟨_,h,_⟩=>absurd h (not_lt_zero _)⟩
 |k+1,i=>by
  rw [HG,or_eq_true,and_eq_true,tY]
  constructor
  .rintro (h | ⟨h,t,h1,h2,h3⟩)
   .exact ⟨0,by lia,h,fun u hu=>by lia⟩
   .refine ⟨t+1,by lia,h2,fun u hu=>?_⟩
    cases u with
    |zero=>exact h
    |succ u=>exact h3 u (by lia)
  .rintro ⟨t,h1,h2,h3⟩
   cases t with
   |zero=>exact .inl h2
   |succ t=>exact .inr ⟨h3 0 (by lia),t,by lia,h2,fun u hu=>h3 (u+1) (by lia)⟩
theorem Dd {n b i:Nat}(hb:b < n)(hi:i < n):nx n b i < n:=by
 unfold nx;split<;>lia
theorem fb {n b:Nat}:∀(s t i:Nat),it n b (s+t) i=it n b t (it n b s i)
 | 0,t,i=>by rw [zero_add];rfl
 |s+1,t,i=>by rw [show s+1+t=(s+t)+1 by lia,EN,fb s t];rfl
theorem uI {n b:Nat}(hb:b < n):∀(t i:Nat),i+t<=b->it n b t i=i+t
 | 0,i,_=>rfl
 |t+1,i,h=>by
  rw [EN,show nx n b i=i+1 by unfold nx;rw [if_neg (by lia)],uI hb t (i+1) (by lia)];lia
theorem eC {n b:Nat}(hb:b < n):∀(t r:Nat),r < n - b->it n b t (b+r)=b+(r+t) % (n - b)
 | 0,r,h=>by rw [Nat.add_zero,Nat.mod_eq_of_lt h];rfl
 |t+1,r,h=>by
  rw [EN]
  by_cases e:b+r+1=n
  .rw [show nx n b (b+r)=b+0 by unfold nx;rw [if_pos e];rfl,eC hb t 0 (sub_pos_of_lt hb)]
   have:r+(t+1)=(0+t)+(n - b):=by lia
   rw [this,Nat.add_mod_right]
  .rw [show nx n b (b+r)=b+(r+1) by unfold nx;rw [if_neg e];rfl,eC hb t (r+1) (by lia)]
   rw [add_assoc,add_comm 1 t]
theorem xi {n b:Nat}(hb:b < n){i t:Nat}(hi:i < n)(ht:b - i<=t):it n b (t+(n - b)) i=it n b t i:=by
 by_cases h:b<=i
 .obtain ⟨r,rfl⟩:=exists_eq_add_of_le h
  rw [eC hb _ r (by lia),eC hb _ r (by lia),<-add_assoc,Nat.add_mod_right]
 .have e:it n b (b - i) i=b+0:=by rw [uI hb _ _ (by lia)];lia
  obtain ⟨u,rfl⟩:=exists_eq_add_of_le ht
  have e1:it n b (b - i+u) i=it n b u (b+0):=by rw [fb,e]
  have e2:it n b (b - i+u+(n - b)) i=it n b (u+(n - b)) (b+0):=by rw [add_assoc,fb,e]
  rw [e1,e2,eC hb _ 0 (sub_pos_of_lt hb),eC hb _ 0 (sub_pos_of_lt hb),<-add_assoc,Nat.add_mod_right]
theorem AI {n b:Nat}{p q:Nat->Bool}{k k' i:Nat}(h:k<=k')(hu:U n b p q k i=true):U n b p q k' i=true:=by
 rw [tY] at hu ⊢
 obtain ⟨t,h1,h2⟩:=hu
 exact ⟨t,by lia,h2⟩
theorem wu {n b:Nat}{p q:Nat->Bool}(hb:b < n){i:Nat}(hi:i < n):∀(t:Nat),q (it n b t i)=true->(∀u,u < t->p (it n b u i)=true)->U n b p q ((b - i)+(n - b)) i=true:=by
 intro t
 induction t using Nat.strongRecOn with
 |ind t ih=>
  intro h1 h2
  by_cases ht:t < (b - i)+(n - b)
  .exact tY.mpr ⟨t,ht,h1,h2⟩
  .have ht:=cw ht
   have L:=le_trans (le_add_left _ _) ht
   have p:=sub_pos_of_lt hb
   refine ih (t - (n - b)) (Nat.sub_lt (lt_of_lt_of_le p L) p) ?_ fun u hu=>h2 u (lt_of_lt_of_le hu (sub_le _ _))
   have:=xi hb (t:=t - (n - b)) hi (Nat.le_sub_of_add_le ht)
   rw [Nat.sub_add_cancel L] at this
   rw [<-this];exact h1
def mr (p q:Nat->Bool):List Nat->Bool
 | []=>false
 |k::m=>q k||(p k&&mr p q m)
theorem qF {p q:Nat->Bool}{k:Nat}{m:List Nat}:mr p q (k::m)=(q k||(p k&&mr p q m)):=rfl
theorem pJ {n b:Nat}{p q:Nat->Bool}:∀(m i:Nat),i+m=n->mr p q (range' i m)=U n b p q m i
 | 0,_,_=>rfl
 |m+1,i,h=>by
  rw [range'_succ,qF,HG]
  by_cases e:i+1=n
  .obtain rfl:m=0:=by lia
   rfl
  .rw [pJ (n:=n) (b:=b) m (i+1) (by lia)]
   unfold nx;rw [if_neg e]
theorem sk {n b:Nat}{p q:Nat->Bool}(hb:b < n):∀(m i:Nat),i+(m+1)=n->mr p q (range' i (m+1)++range' b (n - b))=U n b p q ((m+1)+(n - b)) i
 | 0,i,h=>by
  rw [range'_succ,List.range'_zero,cons_append,List.nil_append,qF,pJ (b:=b) (n:=n) _ b (by lia),show 0+1+(n - b)=(n - b)+1 by lia,HG]
  unfold nx;rw [if_pos (by lia)]
 |m+1,i,h=>by
  rw [range'_succ,cons_append,qF,sk hb m (i+1) (by lia),show m+1+1+(n - b)=(m+1+(n - b))+1 by lia,HG]
  unfold nx;rw [if_neg (by lia)]
theorem sr {n b i:Nat}{p q:Nat->Bool}(hb:b < n)(hi:i < n):mr p q (range' i (n - i)++range' b (n - b))=U n b p q ((n - i)+(n - b)) i:=by
 obtain ⟨m,hm⟩:∃m,n - i=m+1:=⟨n - i - 1,(Nat.sub_add_cancel (sub_pos_of_lt hi)).symm⟩
 rw [hm];exact sk hb m i (by lia)
theorem pH {q:Nat->Bool}:∀m,mr (fun _=>true) (fun j=>!q j) m=!m.all q
 | []=>rfl
 |k::m=>by rw [qF,pH m,List.all_cons];cases q k<;>rfl
theorem hY {n b i:Nat}:i∈(List.range n).drop b↔b<=i/\i < n:=by
 rw [List.mem_drop_iff_getElem]
 constructor
 .rintro ⟨j,hj,rfl⟩
  simp at hj ⊢;lia
 .rintro ⟨h1,h2⟩
  refine ⟨i - b,by simp;lia,by simp;lia⟩
noncomputable def cr:Sy->List Sy
 |.next a=>[.next a]
 |.till a c=>[.till a c]
 |.always a=>[.always a]
 |.again a=>[.till .yes a,.always (.till .yes a)]
 |_=>[]
noncomputable def ci:Sy->List Sy
 |.mark _=>[]
 |.yes=>[]
 |.not a=>[a]
 |.and a c=>[a,c]
 |.or a c=>[a,c]
 |.next a=>[a]
 |.till a c=>[a,c]
 |.always a=>[a]
 |.again a=>[a]
noncomputable def ext (f xs:List Sy):List Sy:=f++xs.filter fun x=>!f.contains x
def ao:Sy->List Sy
 |.mark x=>ext [] (cr (.mark x))
 |.yes=>ext [] (cr .yes)
 |.not a=>ext (ext [] (ao a)) (cr (.not a))
 |.and a c=>ext (ext (ext [] (ao a)) (ao c)) (cr (.and a c))
 |.or a c=>ext (ext (ext [] (ao a)) (ao c)) (cr (.or a c))
 |.next a=>ext (ext [] (ao a)) (cr (.next a))
 |.till a c=>ext (ext (ext [] (ao a)) (ao c)) (cr (.till a c))
 |.always a=>ext (ext [] (ao a)) (cr (.always a))
 |.again a=>ext (ext [] (ao a)) (cr (.again a))
noncomputable def all:Sy->List Sy
 |.mark x=>[.mark x]
 |.yes=>[.yes]
 |.not a=>.not a::all a
 |.and a c=>.and a c::(all a++all c)
 |.or a c=>.or a c::(all a++all c)
 |.next a=>.next a::all a
 |.till a c=>.till a c::(all a++all c)
 |.always a=>.always a::all a
 |.again a=>.again a::all a
def lb (s:Sy):List Sy:=(all s).foldl (fun f t=>ext f (cr t)) []
theorem j0 {f xs:List Sy}{x:Sy}:x∈ext f xs↔x∈f\/x∈xs:=by
 simp only [ext,mem_append,List.mem_filter,not_eq_true',List.contains_eq_mem,decide_eq_false_iff_not]
 constructor
 .rintro (h |h)
  .exact .inl h
  .exact .inr h.1
 .rintro (h |h)
  .exact .inl h
  .by_cases q:x∈f
   .exact .inl q
   .exact .inr ⟨h,q⟩
theorem be {f xs:List Sy}(h1:f.Nodup)(h2:xs.Nodup):(ext f xs).Nodup:=by
 rw [ext,nodup_append]
 refine ⟨h1,h2.filter _,fun a ha b hb e=>?_⟩
 subst e
 simp [ha] at hb
theorem cI (s:Sy):(cr s).Nodup:=by
 cases s with
 |again a=>exact nodup_cons.mpr ⟨fun h=>(nomatch aa h),pairwise_singleton _ _⟩
 |next |till |always=>exact pairwise_singleton _ _
 |_=>exact .nil
theorem jJ (s:Sy):s∈all s:=by cases s<;>exact .head _
theorem bD:∀s:Sy,(ao s).Nodup
 |.mark x=>be .nil (cI _)
 |.yes=>be .nil (cI _)
 |.not a=>be (be .nil (bD a)) (cI _)
 |.and a c=>be (be (be .nil (bD a)) (bD c)) (cI _)
 |.or a c=>be (be (be .nil (bD a)) (bD c)) (cI _)
 |.next a=>be (be .nil (bD a)) (cI _)
 |.till a c=>be (be (be .nil (bD a)) (bD c)) (cI _)
 |.always a=>be (be .nil (bD a)) (cI _)
 |.again a=>be (be .nil (bD a)) (cI _)
theorem BF {x s:Sy}{f l:List Sy}(ih:x∈f↔∃t∈l,x∈cr t):x∈ext f (cr s)↔∃t∈s::l,x∈cr t:=by
 rw [j0,ih]
 exact ⟨fun h=>h.elim (fun ⟨t,a,b⟩=>⟨t,.tail _ a,b⟩) fun b=>⟨s,.head _,b⟩,fun ⟨t,a,b⟩=>(au a).elim (fun e=>.inr (e▸b)) fun a=>.inl ⟨t,a,b⟩⟩
theorem AQ {x:Sy}{f g l m:List Sy}(ih:x∈f↔∃t∈l,x∈cr t)(ih':x∈g↔∃t∈m,x∈cr t):x∈ext f g↔∃t∈l++m,x∈cr t:=by
 rw [j0,ih,ih']
 exact ⟨fun h=>h.elim (fun ⟨t,a,b⟩=>⟨t,mem_append_left _ a,b⟩) fun ⟨t,a,b⟩=>⟨t,mem_append_right _ a,b⟩,fun ⟨t,a,b⟩=>(ai a).elim (fun a=>.inl ⟨t,a,b⟩) fun a=>.inr ⟨t,a,b⟩⟩
theorem BG {x:Sy}:x∈([]:List Sy)↔∃t∈([]:List Sy),x∈cr t:=⟨fun h=>(nomatch h),fun ⟨_,h,_⟩=>(nomatch h)⟩
theorem bf {x:Sy}:∀{s:Sy},x∈ao s↔∃t∈all s,x∈cr t
 |.mark _=>BF BG
 |.yes=>BF BG
 |.not a=>BF (AQ BG (bf (s:=a)))
 |.and a c=>BF (AQ (AQ BG (bf (s:=a))) (bf (s:=c)))
 |.or a c=>BF (AQ (AQ BG (bf (s:=a))) (bf (s:=c)))
 |.next a=>BF (AQ BG (bf (s:=a)))
 |.till a c=>BF (AQ (AQ BG (bf (s:=a))) (bf (s:=c)))
 |.always a=>BF (AQ BG (bf (s:=a)))
 |.again a=>BF (AQ BG (bf (s:=a)))
theorem zx:∀(ts f:List Sy),f.Nodup->(ts.foldl (fun f t=>ext f (cr t)) f).Nodup/\∀x,x∈ts.foldl (fun f t=>ext f (cr t)) f↔x∈f\/∃t∈ts,x∈cr t
 | [],f,h=>⟨h,fun x=>by simp⟩
 |t::r,f,h=>by
  obtain ⟨h1,h2⟩:=zx r (ext f (cr t)) (be h (cI t))
  refine ⟨h1,fun x=>?_⟩
  simp only [List.foldl_cons]
  rw [h2,j0]
  simp [or_assoc]
theorem EC (s:Sy):(lb s).length=(ao s).length:=by
 obtain ⟨h1,h2⟩:=zx (all s) [] .nil
 refine ((List.perm_ext_iff_of_nodup h1 (bD s)).mpr fun x=>?_).length_eq
 rw [h2,bf];simp
noncomputable def look (bs:List Sy)(g:List Bool)(x:Sy):Bool:=(g[bs.idxOf x]?).getD false
def so (m:Str)(bs:List Sy)(g:List Bool):Sy->Bool
 |.mark x=>PyData.eqv (.str m) (.str x)
 |.yes=>true
 |.not a=>!so m bs g a
 |.and a c=>so m bs g a&&so m bs g c
 |.or a c=>so m bs g a||so m bs g c
 |.next a=>look bs g (.next a)
 |.till a c=>look bs g (.till a c)
 |.always a=>look bs g (.always a)
 |.again a=>look bs g (.always (.till .yes a))
def eU (bs:List Sy)(m:Str)(g:List Bool)(m':Str)(g':List Bool):Sy->Bool
 |.next a=>so m' bs g' a
 |.till a c=>so m bs g c||(so m bs g a&&look bs g' (.till a c))
 |.always a=>so m bs g a&&look bs g' (.always a)
 |_=>false
def lC (bs:List Sy)(m:Str)(g:List Bool)(m':Str)(g':List Bool):Bool:=bs.all fun x=>look bs g x==eU bs m g m' g' x
def met (bs:List Sy)(m:Str)(g:List Bool):Sy->Bool
 |.till a c=>!look bs g (.till a c)||so m bs g c
 |.always a=>look bs g (.always a)||!so m bs g a
 |_=>true
section
variable {bs:List Sy} {m m':Str} {g g':List Bool} {a c:Sy}
theorem rU:eU bs m g m' g' (.next a)=so m' bs g' a:=rfl
theorem gJ:eU bs m g m' g' (.till a c)=(so m bs g c||(so m bs g a&&look bs g' (.till a c))):=rfl
theorem fI:eU bs m g m' g' (.always a)=(so m bs g a&&look bs g' (.always a)):=rfl
theorem nU:met bs m g (.till a c)=(!look bs g (.till a c)||so m bs g c):=rfl
theorem jb:met bs m g (.always a)=(look bs g (.always a)||!so m bs g a):=rfl
end
def dk (bs:List Sy)(s:Sy):Prop:=∀t∈all s,∀x∈cr t,x∈bs
theorem oS {s p t:Sy}(hp:p∈ci s)(ht:t∈all p):t∈all s:=by
 cases s with
 |mark |yes=>cases hp
 |not |next |always |again=>cases aa hp;exact .tail _ ht
 |and |or |till=>
  refine .tail _ ?_
  rcases au hp with rfl |hp
  .exact mem_append_left _ ht
  .cases aa hp;exact mem_append_right _ ht
theorem aY {bs:List Sy}{s p:Sy}(h:dk bs s)(hp:p∈ci s):dk bs p:=fun t ht x hx=>h t (oS hp ht) x hx
theorem bb {bs:List Sy}{s:Sy}(h:dk bs s):∀x∈cr s,x∈bs:=h s (jJ s)
theorem eG (s:Sy):dk (ao s) s:=fun t ht x hx=>bf.mpr ⟨t,ht,hx⟩
theorem HE {s a t u:Sy}(h:t∈s::all a)(k:u∈all t)(e:all s=s::all a)(ih:t∈all a->u∈all a):u∈s::all a:=(au h).elim (fun q=>e▸q▸k) fun h=>.tail _ (ih h)
theorem ID {s a c t u:Sy}(h:t∈s::(all a++all c))(k:u∈all t)(e:all s=s::(all a++all c))(ih:t∈all a->u∈all a)(ih':t∈all c->u∈all c):u∈s::(all a++all c):=
 (au h).elim (fun q=>e▸q▸k) fun h=>.tail _ ((ai h).elim (fun h=>mem_append_left _ (ih h)) fun h=>mem_append_right _ (ih' h))
theorem cv:∀{s t u:Sy},t∈all s->u∈all t->u∈all s
 |.mark x,t,u,h,k=>aa h▸k
 |.yes,t,u,h,k=>aa h▸k
 |.not a,t,u,h,k=>HE h k rfl fun h=>cv h k
 |.and a c,t,u,h,k=>ID h k rfl (fun h=>cv h k) fun h=>cv h k
 |.or a c,t,u,h,k=>ID h k rfl (fun h=>cv h k) fun h=>cv h k
 |.next a,t,u,h,k=>HE h k rfl fun h=>cv h k
 |.till a c,t,u,h,k=>ID h k rfl (fun h=>cv h k) fun h=>cv h k
 |.always a,t,u,h,k=>HE h k rfl fun h=>cv h k
 |.again a,t,u,h,k=>HE h k rfl fun h=>cv h k
theorem uS {bs:List Sy}{s t:Sy}(h:dk bs s)(ht:t∈all s):dk bs t:=fun u hu x hx=>h u (cv ht hu) x hx
theorem gv {s x p:Sy}(hx:x∈ao s)(hp:p∈ci x):dk (ao s) p:=by
 obtain ⟨t,ht,hx'⟩:=bf.mp hx
 have ct:=uS (eG s) ht
 cases t with
 |next |till |always=>cases aa hx';exact aY ct hp
 |again a=>
  have ca:dk (ao s) a:=aY ct (.head _)
  have cy:dk (ao s) .yes:=fun u hu y hy=>by cases aa hu;cases hy
  rcases au hx' with rfl |hx'
  .rcases au hp with rfl |hp
   .exact cy
   .cases aa hp;exact ca
  .cases aa hx'
   cases aa hp
   intro u hu y hy
   rcases au hu with rfl |hu
   .cases aa hy;exact bf.mpr ⟨_,ht,.head _⟩
   .exact (ai hu).elim (fun hu=>cy u hu y hy) fun hu=>ca u hu y hy
 |_=>cases hx'
theorem cL {s x:Sy}(hx:x∈ao s):(∃a,x=.next a)\/(∃a c,x=.till a c)\/∃a,x=.always a:=by
 obtain ⟨t,_,hx'⟩:=bf.mp hx
 cases t with
 |next=>exact .inl ⟨_,aa hx'⟩
 |till=>exact .inr (.inl ⟨_,_,aa hx'⟩)
 |always=>exact .inr (.inr ⟨_,aa hx'⟩)
 |again=>
  rcases au hx' with h |h
  .exact .inr (.inl ⟨_,_,h⟩)
  .exact .inr (.inr ⟨_,aa h⟩)
 |_=>cases hx'
theorem sZ {n b:Nat}(hb:b < n):∀(t i:Nat),i < n->it n b t i < n
 | 0,_,h=>h
 |t+1,i,h=>sZ hb t _ (Dd hb h)
theorem ja {n b i j:Nat}(hb:b < n)(hi:i < n)(h1:b<=j)(h2:j < n):∃t,it n b t i=j:=by
 obtain ⟨s,rfl⟩:=exists_eq_add_of_le h1
 have hs:s < n - b:=Nat.lt_sub_of_add_lt (by rw [add_comm];exact h2)
 by_cases h:b<=i
 .obtain ⟨r,rfl⟩:=exists_eq_add_of_le h
  have hr:r < n - b:=Nat.lt_sub_of_add_lt (by rw [add_comm];exact hi)
  exact ⟨s+(n - b - r),by rw [eC hb _ r hr,Nat.add_left_comm,Nat.add_sub_cancel' (le_of_lt hr),Nat.add_mod_right,Nat.mod_eq_of_lt hs]⟩
 .have h:=le_of_lt (Nat.not_le.mp h)
  exact ⟨(b - i)+s,by
   rw [fb,uI hb (b - i) i (le_of_eq (Nat.add_sub_cancel' h)),Nat.add_sub_cancel' h]
   exact (eC hb s 0 (sub_pos_of_lt hb)).trans (by rw [zero_add,Nat.mod_eq_of_lt hs])⟩
theorem wM {n b:Nat}(hb:b < n){j:Nat}(h1:b<=j)(h2:j < n)(t:Nat):b<=it n b t j:=by
 obtain ⟨r,rfl⟩:=exists_eq_add_of_le h1
 rw [eC hb _ r (by lia)];lia
end
end Mine.Ltl
end
section
set_option tactic.hygienic false
section
namespace Mine
noncomputable section
section
variable {α:Type} {th:α->List α}
inductive lP (th:α->List α):α->α->Prop
 |refl (a:α):lP th a a
 |step {a b c:α}:b∈th a->lP th b c->lP th a c
theorem lP.trans {a b c:α}(h:lP th a b)(h':lP th b c):lP th a c:=by
 induction h with
 |refl=>exact h'
 |step e _ ih=>exact .step e (ih h')
theorem lP.one {a b:α}(h:b∈th a):lP th a b:=.step h (.refl _)
inductive ir (th:α->List α) (P:α->Prop):α->α->Prop
 |refl {a:α}:P a->ir th P a a
 |step {a b c:α}:P a->b∈th a->ir th P b c->ir th P a c
theorem ir.mono {P Q:α->Prop}(h:∀a,P a->Q a){a b:α}(r:ir th P a b):ir th Q a b:=by
 induction r with
 |refl p=>exact .refl (h _ p)
 |step p e _ ih=>exact .step (h _ p) e ih
def HI (th:α->List α)(L:List α):Prop:=∀A x B,L=A++x::B->∀u∈A++[x],∀v∈th u,v∈A++[x]\/lP th v x
inductive rL (th:α->List α) (P:α->Prop):Nat->α->α->Prop
 |refl {a:α}:P a->rL th P 0 a a
 |step {n:Nat} {a b c:α}:P a->b∈th a->rL th P n b c->rL th P (n+1) a c
theorem ir.n {P:α->Prop}{a b:α}(r:ir th P a b):∃n,rL th P n a b:=by
 induction r with
 |refl p=>exact ⟨0,.refl p⟩
 |step p e _ ih=>obtain ⟨n,h⟩:=ih;exact ⟨n+1,.step p e h⟩
theorem rL.head {P:α->Prop}{n:Nat}{a b:α}(r:rL th P n a b):P a:=by cases r<;>assumption
theorem wX {A:List α}{x:α}(h:∀u∈A++[x],∀v∈th u,v∈A++[x]\/lP th v x){P:α->Prop}{s:α}:∀{n:Nat} {y:α},rL th P n y s->y∈A++[x]->s∈A++[x]\/∃v m,m < n/\lP th v x/\rL th P m v s:=by
 intro n y r
 induction r with
 |refl _=>exact .inl
 |step p e r ih=>
  intro hy
  rcases h _ hy _ e with h1 |h1
  .rcases ih h1 with h2 | ⟨v,m,h2,h3,h4⟩
   .exact .inl h2
   .exact .inr ⟨v,m,Nat.lt_succ_of_lt h2,h3,h4⟩
  .exact .inr ⟨_,_,lt_succ_self _,h1,r⟩
theorem yV {L A B:List α}{s:α}(h:HI th L)(hn:L.Nodup)(e:L=A++s::B):∀(n:Nat) (y:α),rL th (fun a=>a∈A++[s]) n y s->lP th s y:=by
 intro n
 induction n using Nat.strongRecOn with
 |ind n ih=>
  intro y r
  rcases ai r.head with hy |hy
  .obtain ⟨A',A'',rfl⟩:=List.append_of_mem hy
   have sA:s∉A'++[y]:=fun q=>by
    rw [e] at hn
    refine (aG hn).2.2 s ?_ s (.head _) rfl
    rcases ai q with q |q
    .exact mem_append_left _ q
    .exact mem_append_right _ (aa q▸.head _)
   have h1:=h A' y (A''++s::B) (by rw [e,List.append_assoc];rfl)
   rcases wX h1 r (mem_append_right _ (.head _)) with h2 | ⟨v,m,h2,h3,h4⟩
   .exact absurd h2 sA
   .exact (ih m h2 v h4).trans h3
  .rw [aa hy];exact .refl _
end
theorem gn {w:Type}{l:List w}{y:w}(h:l.Nodup)(hy:y∉l):(l++[y]).Nodup:=nodup_append.mpr ⟨h,pairwise_singleton _ _,fun a ha b hb q=>hy (aa hb▸q▸ha)⟩
section
variable {α:Type} {th:α->List α} {K:List α}
structure rS (th:α->List α) (K found:List α) (st:List (α×Nat)) (met:List α):Prop where
 sub:∀x∈met,x∈K
 same:∀x,x∈met↔x∈found\/x∈st.map Prod.fst
 nd:(found++st.map Prod.fst).Nodup
 fin:∀x∈found,∀y∈th x,y∈met
 take:∀p∈st,p.2<=(th p.1).length/\∀y∈(th p.1).take p.2,y∈met
 chain:∀A p B,st=A++p::B->∀q∈A,lP th q.1 p.1
 ord:HI th found
 ndm:met.Nodup
theorem qR {w:Type}{A B:List w}{x:w}{p:Prop}(e:[]=A++x::B):p:=absurd e.symm (List.append_ne_nil_of_right_ne_nil _ nofun)
theorem rS.nil:rS th K [] [] []:=⟨fun _ h=>(nomatch h),fun x=>⟨.inl,fun h=>h.elim id id⟩,.nil,fun _ h=>(nomatch h),fun _ h=>(nomatch h),fun A p B e=>qR e,fun A x B e=>qR e,.nil⟩
theorem eX {w:Type}{S A B:List w}{p q:w}(h:S++[p]=A++q::B):(A=S/\q=p/\B=[])\/∃B',B=B'++[p]/\S=A++q::B':=by
 rcases eq_nil_or_concat B with rfl | ⟨B',b,rfl⟩
 .have:=List.append_inj' h rfl
  exact .inl ⟨this.1.symm,(List.singleton_inj.mp this.2).symm,rfl⟩
 .rw [concat_eq_append] at h ⊢
  have h2:S++[p]=(A++q::B')++[b]:=by rw [h,List.append_assoc];rfl
  have:=List.append_inj' h2 rfl
  exact .inr ⟨B',by rw [List.singleton_inj.mp this.2],this.1⟩
theorem rS.start {found met:List α}{s:α}(D:rS th K found [] met)(hs:s∈K)(hm:s∉met):rS th K found [(s,0)] (met++[s]) where
 sub x hx:=(ai hx).elim (D.sub x) fun h=>aa h▸hs
 same x:=mem_append.trans (or_congr_left ((D.same x).trans (or_iff_left fun h=>nomatch h)))
 nd:=by
  have:=D.nd
  rw [map_nil,append_nil] at this
  exact gn this fun q=>hm ((D.same s).mpr (.inl q))
 fin x hx y hy:=mem_append_left _ (D.fin x hx y hy)
 take p hp:=by cases aa hp;exact ⟨zero_le _,fun y hy=>by rw [List.take_zero] at hy;cases hy⟩
 chain A p B e q hq:=by
  rcases A with _ | ⟨a,A⟩
  .cases hq
  .exact qR (List.cons.inj e).2
 ord:=D.ord
 ndm:=gn D.ndm hm
theorem rS.leave {found met:List α}{S:List (α×Nat)}{k:α}{n:Nat}(D:rS th K found (S++[(k,n)]) met)(hn:n=(th k).length):rS th K (found++[k]) S met where
 sub:=D.sub
 same x:=by rw [D.same,map_append,mem_append,mem_append,or_comm (a:=x∈S.map _)];exact or_assoc.symm
 nd:=by
  have:=D.nd
  rw [map_append,<-List.append_assoc] at this
  have h1:=aG this
  rw [List.append_assoc]
  have h2:=aG h1.1
  rw [nodup_append]
  refine ⟨h2.1,nodup_cons.mpr ⟨fun q=>h1.2.2 k (mem_append_right _ q) k (.head _) rfl,h2.2.1⟩,fun a ha b hb q=>?_⟩
  rcases au hb with hb |hb
  .exact h1.2.2 a (mem_append_left _ ha) b (by rw [hb];exact .head _) q
  .exact h2.2.2 a ha b hb q
 fin x hx y hy:=by
  rcases ai hx with hx |hx
  .exact D.fin x hx y hy
  .rw [aa hx] at hy
   refine (D.take (k,n) (mem_append_right _ (.head _))).2 y ?_
   rw [hn,take_length];exact hy
 take p hp:=D.take p (mem_append_left _ hp)
 chain A p B e q hq:=D.chain A p (B++[(k,n)]) (by rw [e,List.append_assoc];rfl) q hq
 ord A x B e:=by
  rcases eX e with ⟨rfl,rfl,rfl⟩ | ⟨B',rfl,e'⟩
  .intro u hu v hv
   have hv':v∈met:=by
    rcases ai hu with hu |hu
    .exact D.fin u hu v hv
    .rw [aa hu] at hv
     refine (D.take (x,n) (mem_append_right _ (.head _))).2 v ?_
     rw [hn,take_length];exact hv
   rcases (D.same v).mp hv' with h |h
   .exact .inl (mem_append_left _ h)
   .rw [map_append] at h
    rcases ai h with h |h
    .obtain ⟨q,hq,rfl⟩:=aC h
     exact .inr (D.chain S (x,n) [] rfl q hq)
    .exact .inl (mem_append_right _ h)
  .exact D.ord A x B' e'
 ndm:=D.ndm
theorem rS.on {found met:List α}{S:List (α×Nat)}{k y:α}{n:Nat}(D:rS th K found (S++[(k,n)]) met)(hn:(th k)[n]?=some y)(hy:y∈met):rS th K found (S++[(k,n+1)]) met where
 sub:=D.sub
 same x:=by have:=D.same x;rw [map_append] at this ⊢;exact this
 nd:=by have:=D.nd;rw [map_append] at this ⊢;exact this
 fin:=D.fin
 take p hp:=by
  rcases ai hp with hp |hp
  .exact D.take p (mem_append_left _ hp)
  .cases aa hp
   have h1:=D.take (k,n) (mem_append_right _ (.head _))
   have h2:=(ak hn).1
   refine ⟨h2,fun z hz=>?_⟩
   rw [List.take_succ,hn] at hz
   rcases ai hz with hz |hz
   .exact h1.2 z hz
   .rw [aa hz];exact hy
 chain A p B e q hq:=by
  rcases eX e with ⟨rfl,rfl,rfl⟩ | ⟨B',rfl,e'⟩
  .exact D.chain A (k,n) [] rfl q hq
  .exact D.chain A p (B'++[(k,n)]) (by rw [e',List.append_assoc];rfl) q hq
 ord:=D.ord
 ndm:=D.ndm
theorem sG {S:List (α×Nat)}{k y:α}{n m:Nat}:(S++[(k,m)]++[(y,0)]).map Prod.fst=(S++[(k,n)]).map Prod.fst++[y]:=by rw [map_append,map_append,map_append];rfl
theorem rS.push {found met:List α}{S:List (α×Nat)}{k y:α}{n:Nat}(D:rS th K found (S++[(k,n)]) met)(hn:(th k)[n]?=some y)(hk:y∈K)(hy:y∉met):rS th K found (S++[(k,n+1)]++[(y,0)]) (met++[y]) where
 sub x hx:=(ai hx).elim (D.sub x) fun h=>aa h▸hk
 same x:=by rw [sG (n:=n),mem_append,mem_append,D.same];exact or_assoc
 nd:=by rw [sG (n:=n),<-List.append_assoc];exact gn D.nd fun q=>hy ((D.same y).mpr (ai q))
 fin x hx z hz:=mem_append_left _ (D.fin x hx z hz)
 take p hp:=by
  rcases ai hp with hp |hp
  .rcases ai hp with hp |hp
   .exact (D.take p (mem_append_left _ hp)).imp id fun h z hz=>mem_append_left _ (h z hz)
   .cases aa hp
    have h1:=D.take (k,n) (mem_append_right _ (.head _))
    refine ⟨(ak hn).1,fun z hz=>?_⟩
    rw [List.take_succ,hn] at hz
    rcases ai hz with hz |hz
    .exact mem_append_left _ (h1.2 z hz)
    .exact mem_append_right _ hz
  .cases aa hp
   exact ⟨zero_le _,fun z hz=>by rw [List.take_zero] at hz;cases hz⟩
 chain A p B e q hq:=by
  rcases eX e with ⟨rfl,rfl,rfl⟩ | ⟨B',rfl,e'⟩
  .have ky:lP th k y:=.one (mem_of_getElem? hn)
   rcases ai hq with hq |hq
   .exact (D.chain S (k,n) [] rfl q hq).trans ky
   .cases aa hq;exact ky
  .rcases eX e' with ⟨rfl,rfl,rfl⟩ | ⟨B',rfl,e''⟩
   .exact D.chain A (k,n) [] rfl q hq
   .exact D.chain A p (B'++[(k,n)]) (by rw [e'',List.append_assoc];rfl) q hq
 ord:=D.ord
 ndm:=gn D.ndm hy
end
end
end Mine
end
section
namespace Mine
noncomputable section
section
variable {α:Type} [DecidableEq α] {th:α->List α} {K:List α}
def eT (th:α->List α)(met:List α):List α->Nat
 | []=>0
 |x::r=>(if x∈met then 0 else (th x).length+2)+eT th met r
theorem kZ {met:List α}{x:α}{r:List α}:eT th met (x::r)=(if x∈met then 0 else (th x).length+2)+eT th met r:=rfl
theorem vg {met:List α}{y:α}:∀K:List α,eT th (met++[y]) K<=eT th met K
 | []=>le_refl _
 |x::r=>by
  rw [kZ,kZ]
  refine add_le_add ?_ (vg r)
  by_cases h:x∈met
  .rw [if_pos h,if_pos (mem_append_left _ h)];exact le_refl _
  .rw [if_neg h]
   by_cases h':x∈met++[y]
   .rw [if_pos h'];exact zero_le _
   .rw [if_neg h'];exact le_refl _
theorem kY {met:List α}{y:α}(hy:y∉met):∀{K:List α},y∈K->eT th (met++[y]) K+((th y).length+2)<=eT th met K
 |x::r,h=>by
  rw [kZ,kZ]
  by_cases q:x=y
  .subst q
   rw [if_neg hy,if_pos (mem_append_right _ (.head _)),zero_add,add_comm];exact add_le_add_left (vg r) _
  .have ih:=kY (K:=r) hy ((au h).elim (fun e=>absurd e.symm q) id)
   by_cases hx:x∈met
   .rw [if_pos hx,if_pos (mem_append_left _ hx),zero_add,zero_add];exact ih
   .rw [if_neg hx,if_neg fun h=>(ai h).elim hx fun h=>q (aa h),add_assoc];exact add_le_add_left ih _
noncomputable def gk (th:α->List α):List (α×Nat)->Nat
 | []=>0
 |p::r=>(th p.1).length - p.2+1+gk th r
omit [DecidableEq α] in
theorem yp {p:α×Nat}{r:List (α×Nat)}:gk th (p::r)=(th p.1).length - p.2+1+gk th r:=rfl
omit [DecidableEq α] in
theorem jG:∀(a b:List (α×Nat)),gk th (a++b)=gk th a+gk th b
 | [],b=>(zero_add _).symm
 |p::a,b=>by rw [cons_append,yp,yp,jG a b,add_assoc (_+1)]
omit [DecidableEq α] in
theorem aS:∀{l m:List α},l.Nodup->(∀x∈l,x∈m)->l.length<=m.length
 | [],m,_,_=>zero_le _
 |x::l,m,hn,hs=>by
  obtain ⟨a,b,rfl⟩:=List.append_of_mem (hs x (.head _))
  have:=aS (l:=l) (m:=a++b) (aX hn).2 fun y hy=>by
   rcases ai (hs y (.tail _ hy)) with h |h
   .exact mem_append_left _ h
   .rcases au h with h |h
    .exact absurd (h▸hy) (aX hn).1
    .exact mem_append_right _ h
  rw [List.length_append] at this ⊢
  rw [length_cons,length_cons];lia
end
section
variable {α:Type} {th:α->List α} {K:List α}
structure DK (th:α->List α) (K met:List α) (s:α) (C:List α):Prop where
 nd:(met++C).Nodup
 sub:∀x∈C,x∈K
 to:∀x∈C,ir th (fun a=>a∈C) x s
 hd:s∈C
theorem DK.start {met:List α}{s:α}(hm:met.Nodup)(hs:s∈K)(h:s∉met):DK th K met s [s] where
 nd:=gn hm h
 sub x hx:=aa hx▸hs
 to x hx:=by rw [aa hx];exact .refl (.head _)
 hd:=.head _
theorem DK.push {met C:List α}{s y c:α}(HHH:DK th K met s C)(hy:y∉met++C)(hk:y∈K)(hc:c∈C)(e:c∈th y):DK th K met s (C++[y]) where
 nd:=by
  rw [<-List.append_assoc];exact gn HHH.nd hy
 sub x hx:=(ai hx).elim (HHH.sub x) fun h=>aa h▸hk
 to x hx:=by
  have m:∀a,a∈C->a∈C++[y]:=fun a h=>mem_append_left _ h
  rcases ai hx with h |h
  .exact (HHH.to x h).mono m
  .rw [aa h];exact .step (mem_append_right _ (.head _)) e ((HHH.to c hc).mono m)
 hd:=mem_append_left _ HHH.hd
structure xW (th:α->List α) (K:List α) (Cs:List (List α)):Prop where
 nd:Cs.flatten.Nodup
 sub:∀x∈Cs.flatten,x∈K
 ne:∀C∈Cs,C≠[]
 scc:∀C∈Cs,∀a∈C,∀b∈C,lP th a b
 back:∀A C B,Cs=A++C::B->∀c∈C,∀x∈K,c∈th x->x∈A.flatten++C
theorem xW.nil:xW th K []:=⟨.nil,fun _ h=>(nomatch h),fun _ h=>(nomatch h),fun _ h=>(nomatch h),fun A C B e=>qR e⟩
theorem ir.r {P:α->Prop}{a b:α}(r:ir th P a b):lP th a b:=by
 induction r with
 |refl _=>exact .refl _
 |step _ e _ ih=>exact .step e ih
theorem cW {z:Type}(Cs:List (List z))(C:List z):(Cs++[C]).flatten=Cs.flatten++C:=by rw [flatten_append,flatten_cons,List.flatten_nil,append_nil]
theorem xW.add {Cs:List (List α)}{L A B C:List α}{s:α}(HHH:xW th K Cs)(ho:HI th L)(hn:L.Nodup)(hL:∀x∈K,x∈L)(e:L=A++s::B)(hB:∀x∈B,x∈Cs.flatten)(c:DK th K Cs.flatten s C)(cl:∀c∈C,∀x∈K,c∈th x->x∈Cs.flatten++C):xW th K (Cs++[C]) where
 nd:=by rw [cW];exact c.nd
 sub x hx:=by rw [cW] at hx;exact (ai hx).elim (HHH.sub x) (c.sub x)
 ne D hD:=(ai hD).elim (HHH.ne D) fun h=>by rw [aa h];exact fun q=>by have:=c.hd;rw [q] at this;cases this
 scc D hD:=by
  rcases ai hD with h |h
  .exact HHH.scc D h
  .rw [aa h]
   intro a ha b hb
   refine (c.to a ha).r.trans ?_
   have inA:∀x,x∈C->x∈A++[s]:=fun x hx=>by
    have:=hL x (c.sub x hx)
    rw [e] at this
    rcases ai this with h |h
    .exact mem_append_left _ h
    .rcases au h with h |h
     .exact mem_append_right _ (h▸.head _)
     .exact absurd rfl ((aG c.nd).2.2 x (hB x h) x hx)
   obtain ⟨n,r⟩:=((c.to b hb).mono inA).n
   exact yV ho hn e n b r
 back A' D B' q:=by
  rcases eX q with ⟨rfl,rfl,rfl⟩ | ⟨B'',rfl,q'⟩
  .exact cl
  .exact HHH.back A' D B'' q'
theorem xW.within {A B:List (List α)}{C:List α}(HHH:xW th K (A++C::B)){u s d:α}(hu:u∈C)(e:s∈th u)(hK:∀k∈K,∀y∈th k,y∈K)(r:lP th s d)(hd:d∈C):s∈C:=by
 have uK:u∈K:=HHH.sub u (by rw [flatten_append,flatten_cons];exact mem_append_right _ (mem_append_left _ hu))
 have back:∀x y,lP th x y->x∈K->y∈A.flatten++C->x∈A.flatten++C:=fun x y r=>by
  induction r with
  |refl _=>exact fun _ h=>h
  | @step a b c e _ ih=>
   intro ha hc
   rcases ai (ih (hK a ha b e) hc) with h |h
   .obtain ⟨D,hD,hb⟩:=mem_flatten.mp h
    obtain ⟨A',B',rfl⟩:=List.append_of_mem hD
    have:=HHH.back A' D (B'++C::B) (by rw [List.append_assoc];rfl) b hb a ha e
    rw [flatten_append,flatten_cons]
    rcases ai this with h |h
    .exact mem_append_left _ (mem_append_left _ h)
    .exact mem_append_left _ (mem_append_right _ (mem_append_left _ h))
   .exact HHH.back A C B rfl b h a ha e
 rcases ai (back s d r (hK u uK s e) (mem_append_right _ hd)) with h |h
 .obtain ⟨D,hD,hb⟩:=mem_flatten.mp h
  obtain ⟨A',B',rfl⟩:=List.append_of_mem hD
  have:=HHH.back A' D (B'++C::B) (by rw [List.append_assoc];rfl) s hb u uK e
  have nd:=HHH.nd
  rw [flatten_append,flatten_append,flatten_cons] at nd
  refine absurd rfl ((aG nd).2.2 u ?_ u (by rw [flatten_cons];exact mem_append_left _ hu))
  rcases ai this with h |h
  .exact mem_append_left _ h
  .exact mem_append_right _ (mem_append_left _ h)
 .exact h
theorem tV {z:Type}{l:List z}{i:Nat}{x:z}(h:l[i]?=some x):∃A B,l=A++x::B/\A.length=i:=by
 obtain ⟨hi,rfl⟩:=ak h
 exact ⟨l.take i,l.drop (i+1),by rw [List.getElem_cons_drop,List.take_append_drop],by rw [length_take];lia⟩
end
end
end Mine
end
section
namespace Mine
noncomputable section
section
variable {α:Type} {th:α->List α}
def dT (th:α->List α)(P:List α):Prop:=∀(i:Nat) (a b:α),P[i]?=some a->P[i+1]?=some b->b∈th a
theorem dT.one (a:α):dT th [a]:=fun i x y _ h=>by
 rw [List.getElem?_eq_none (by simp)] at h;cases h
theorem dT.app {P Q:List α}(hP:dT th P)(hQ:dT th Q)(h:∀a b,P.getLast?=some a->Q.head?=some b->b∈th a):dT th (P++Q):=fun i a b ha hb=>by
 by_cases h1:i+1 < P.length
 .rw [getElem?_append_left (lt_of_succ_lt h1)] at ha
  rw [getElem?_append_left h1] at hb
  exact hP i a b ha hb
 .by_cases h2:i < P.length
  .have e:i+1=P.length:=le_antisymm h2 (cw h1)
   rw [getElem?_append_left h2] at ha
   rw [getElem?_append_right (cw h1),e,sub_self] at hb
   refine h a b ?_ ?_
   .rw [List.getLast?_eq_getElem?,<-e];exact ha
   .rw [List.head?_eq_getElem?];exact hb
  .rw [getElem?_append_right (cw h2)] at ha
   rw [getElem?_append_right (cw h1),Nat.succ_sub (cw h2)] at hb
   exact hQ _ a b ha hb
theorem dT.drop {P:List α}(hP:dT th P)(n:Nat):dT th (P.drop n):=fun i a b ha hb=>by
 rw [List.getElem?_drop] at ha hb
 exact hP (n+i) a b ha hb
inductive lQ (f:α->Option α):α->List α->Prop
 |nil {x:α}:f x=none->lQ f x [x]
 |cons {x y:α} {p:List α}:f x=some y->lQ f y p->lQ f x (x::p)
structure ud (th:α->List α) (K starts goals done wait:List α) (f:α->Option α):Prop where
 nd:(done++wait).Nodup
 sub:∀x∈done++wait,x∈K
 st:∀x∈starts,x∈done++wait
 par:∀x∈done++wait,(f x=none->x∈starts)/\∀y,f x=some y->x∈th y
 back:∀x∈done++wait,∃p,lQ f x p/\p.length<=(done++wait).length/\∀y∈p,y∈done++wait
 clo:∀x∈done,x∉goals/\∀y∈th x,y∈done++wait
theorem ud.start {K starts goals:List α}(hn:starts.Nodup)(hs:∀x∈starts,x∈K):ud th K starts goals [] starts (fun _=>none) where
 nd:=hn
 sub:=hs
 st:=fun _ h=>h
 par x hx:=⟨fun _=>hx,fun y h=>by cases h⟩
 back x hx:=⟨[x],.nil rfl,List.length_pos_of_mem hx,fun y hy=>aa hy▸hx⟩
 clo x hx:=nomatch hx
theorem lQ.mono {f f':α->Option α}{x:α}{p:List α}(h:lQ f x p):(∀y∈p,f' y=f y)->lQ f' x p:=by
 induction h with
 |nil e=>exact fun h=>.nil ((h _ (.head _)).trans e)
 |cons e _ ih=>exact fun h=>.cons ((h _ (.head _)).trans e) (ih fun y hy=>h y (.tail _ hy))
theorem ud.push [DecidableEq α] {K starts goals done wait:List α}{f:α->Option α}{here y:α}(B:ud th K starts goals done wait f)(hh:here∈done++wait)(e:y∈th here)(hk:y∈K)(hy:y∉done++wait):ud th K starts goals done (wait++[y]) (fun x=>if x=y then some here else f x):=by
 have ne:∀x,x∈done++wait->x≠y:=fun x hx q=>hy (q▸hx)
 have mem:∀x,x∈done++(wait++[y])↔x∈done++wait\/x=y:=fun x=>by rw [<-List.append_assoc,mem_append,mem_singleton]
 refine ⟨?_,fun x hx=>?_,fun x hx=>(mem x).mpr (.inl (B.st x hx)),fun x hx=>?_,fun x hx=>?_,fun x hx=>⟨(B.clo x hx).1,fun z hz=>(mem z).mpr (.inl ((B.clo x hx).2 z hz))⟩⟩
 .rw [<-List.append_assoc];exact gn B.nd hy
 .exact ((mem x).mp hx).elim (B.sub x) fun h=>h▸hk
 .rcases (mem x).mp hx with h |rfl
  .rw [if_neg (ne x h)];exact B.par x h
  .rw [if_pos rfl];exact ⟨fun h=>(by cases h),fun z h=>Option.some.inj h▸e⟩
 .rw [<-List.append_assoc,List.length_append]
  have old:∀x,x∈done++wait->∃p,lQ (fun x=>if x=y then some here else f x) x p/\p.length<=(done++wait).length/\∀z∈p,z∈done++wait:=fun x hx=>by
   obtain ⟨p,h1,h2,h3⟩:=B.back x hx
   exact ⟨p,h1.mono fun z hz=>if_neg (ne z (h3 z hz)),h2,h3⟩
  rcases (mem x).mp hx with h |rfl
  .obtain ⟨p,h1,h2,h3⟩:=old x h
   exact ⟨p,h1,le_trans h2 (le_add_right _ _),fun z hz=>mem_append_left _ (h3 z hz)⟩
  .obtain ⟨p,h1,h2,h3⟩:=old here hh
   refine ⟨x::p,.cons (if_pos rfl) h1,succ_le_succ h2,fun z hz=>?_⟩
   rcases au hz with rfl |hz
   .exact mem_append_right _ (.head _)
   .exact mem_append_left _ (h3 z hz)
theorem ud.done {K starts goals done wait:List α}{f:α->Option α}{here:α}(B:ud th K starts goals done (here::wait) f)(hg:here∉goals)(hc:∀y∈th here,y∈done++here::wait):ud th K starts goals (done++[here]) wait f:=by
 have e:(done++[here])++wait=done++here::wait:=by rw [List.append_assoc];rfl
 refine ⟨by rw [e];exact B.nd,by rw [e];exact B.sub,by rw [e];exact B.st,by rw [e];exact B.par,by rw [e];exact B.back,fun x hx=>?_⟩
 rw [e]
 rcases ai hx with h |h
 .exact B.clo x h
 .rw [aa h];exact ⟨hg,hc⟩
theorem ud.none {K starts goals done:List α}{f:α->Option α}(B:ud th K starts goals done [] f){s g:α}(hs:s∈starts)(hg:g∈goals)(r:lP th s g):False:=by
 have:∀x y,lP th x y->x∈done->y∈goals->False:=fun x y r=>by
  induction r with
  |refl a=>exact fun hx hg=>(B.clo a hx).1 hg
  |step e _ ih=>
   intro hx hg
   have:=(B.clo _ hx).2 _ e
   rw [append_nil] at this
   exact ih this hg
 have h:=B.st s hs
 rw [append_nil] at h
 exact this s g r h hg
structure CP (th:α->List α) (K starts:List α) (g:α) (P:List α):Prop where
 walk:dT th P
 hd:∃a,P.head?=some a/\a∈starts
 lst:P.getLast?=some g
 sub:∀x∈P,x∈K
 len:P.length<=K.length
theorem lQ.way {K starts goals done wait:List α}{f:α->Option α}(B:ud th K starts goals done wait f){x:α}{p:List α}(h:lQ f x p):(∀y∈p,y∈done++wait)->dT th p.reverse/\(∃a,p.reverse.head?=some a/\a∈starts)/\p.reverse.getLast?=some x:=by
 induction h with
 | @nil x e=>exact fun h=>⟨.one _,⟨x,rfl,(B.par x (h x (.head _))).1 e⟩,rfl⟩
 | @cons x y p e _ ih=>
  intro h
  obtain ⟨h1,⟨a,h2,h3⟩,h4⟩:=ih fun z hz=>h z (.tail _ hz)
  rw [List.reverse_cons]
  refine ⟨h1.app (.one _) fun u v hu hv=>?_,⟨a,?_,h3⟩,by rw [List.getLast?_append];rfl⟩
  .rw [h4] at hu;cases hu;cases hv
   exact (B.par x (h x (.head _))).2 _ e
  .rw [head?_append,h2];rfl
theorem ud.way {K starts goals done wait:List α}{f:α->Option α}(B:ud th K starts goals done wait f){x:α}(hx:x∈done++wait):∃p,lQ f x p/\(∀y∈p,y∈done++wait)/\CP th K starts x p.reverse:=by
 obtain ⟨p,h1,h2,h3⟩:=B.back x hx
 obtain ⟨h4,h5,h6⟩:=h1.way B h3
 exact ⟨p,h1,h3,h4,h5,h6,fun y hy=>B.sub y (h3 y (List.mem_reverse.mp hy)),by rw [length_reverse];exact le_trans h2 (aS B.nd B.sub)⟩
end
end
end Mine
end
namespace Mine.Ltl
noncomputable section
open PySem
noncomputable def Sem (w:Nat->Str):Sy->Nat->Prop
 |.mark x,i=>PyData.eqv (.str (w i)) (.str x)=true
 |.yes,_=>True
 |.not a,i=>¬Sem w a i
 |.and a c,i=>Sem w a i/\Sem w c i
 |.or a c,i=>Sem w a i\/Sem w c i
 |.next a,i=>Sem w a (i+1)
 |.till a c,i=>∃t,Sem w c (i+t)/\∀u,u < t->Sem w a (i+u)
 |.always a,i=>∀t,Sem w a (i+t)
 |.again a,i=>∀t,∃u,Sem w a (i+t+u)
theorem wL {w:Nat->Str}{a:Sy}{i:Nat}:Sem w (.again a) i↔Sem w (.always (.till .yes a)) i:=
 ⟨fun h t=>let ⟨u,hu⟩:=h t;⟨u,hu,fun _ _=>trivial⟩,fun h t=>let ⟨u,hu,_⟩:=h t;⟨u,hu⟩⟩
theorem nq {w:Nat->Str}{a c:Sy}{i:Nat}:Sem w (.till a c) i↔Sem w c i\/(Sem w a i/\Sem w (.till a c) (i+1)):=by
 constructor
 .rintro ⟨t,h1,h2⟩
  cases t with
  |zero=>exact .inl h1
  |succ t=>exact .inr ⟨h2 0 (succ_pos _),t,by rw [add_assoc,add_comm 1];exact h1,fun u hu=>by rw [add_assoc,add_comm 1];exact h2 (u+1) (Nat.succ_lt_succ hu)⟩
 .rintro (h | ⟨h,t,h1,h2⟩)
  .exact ⟨0,h,fun u hu=>absurd hu (not_lt_zero _)⟩
  .refine ⟨t+1,by rw [add_assoc,add_comm 1] at h1;exact h1,fun u hu=>?_⟩
   cases u with
   |zero=>exact h
   |succ u=>have:=h2 u (Nat.lt_of_succ_lt_succ hu);rw [add_assoc,add_comm 1] at this;exact this
theorem uj {w:Nat->Str}{a:Sy}{i:Nat}:Sem w (.always a) i↔Sem w a i/\Sem w (.always a) (i+1):=by
 constructor
 .exact fun h=>⟨h 0,fun t=>by rw [add_assoc,add_comm 1];exact h (t+1)⟩
 .rintro ⟨h1,h2⟩ t
  cases t with
  |zero=>exact h1
  |succ t=>have:=h2 t;rw [add_assoc,add_comm 1] at this;exact this
theorem nt {b:Bool}{p:Prop}(h:b=true↔p):(!b)=true↔¬p:=by rw [not_eq_true',<-Bool.not_eq_true,h]
theorem Fk {w w':Nat->Str}{i i':Nat}(h:∀j,w (i+j)=w' (i'+j))(t j:Nat):w (i+t+j)=w' (i'+t+j):=by rw [add_assoc,add_assoc];exact h (t+j)
theorem cn {w w':Nat->Str}:∀(s:Sy) (i i':Nat),(∀j,w (i+j)=w' (i'+j))->(Sem w s i↔Sem w' s i')
 |.mark x,i,i',h=>by
  show PyData.eqv (.str (w (i+0))) (.str x)=true↔PyData.eqv (.str (w' (i'+0))) (.str x)=true
  rw [h 0]
 |.yes,_,_,_=>.rfl
 |.not a,i,i',h=>not_congr (cn a i i' h)
 |.and a c,i,i',h=>and_congr (cn a i i' h) (cn c i i' h)
 |.or a c,i,i',h=>or_congr (cn a i i' h) (cn c i i' h)
 |.next a,i,i',h=>cn a (i+1) (i'+1) (Fk h 1)
 |.till a c,i,i',h=>exists_congr fun t=>and_congr (cn c (i+t) (i'+t) (Fk h t)) (forall_congr' fun u=>imp_congr_right fun _=>cn a (i+u) (i'+u) (Fk h u))
 |.always a,i,i',h=>forall_congr' fun t=>cn a (i+t) (i'+t) (Fk h t)
 |.again a,i,i',h=>forall_congr' fun t=>exists_congr fun u=>cn a (i+t+u) (i'+t+u) (Fk (Fk h t) u)
theorem ia {bs:List Sy}{m m':Str}{g g':List Bool}{x:Sy}(h:lC bs m g m' g'=true)(hx:x∈bs):look bs g x=eU bs m g m' g' x:=by
 rw [lC,all_eq_true] at h;exact beq_iff_eq.mp (h x hx)
section
variable {bs:List Sy} {w:Nat->Str} {γ:Nat->List Bool} (hg:∀i,lC bs (w i) (γ i) (w (i+1)) (γ (i+1))=true) (hm:∀x∈bs,∀i,∃j,i<=j/\met bs (w j) (γ j) x=true)
include hg hm
theorem m9 {a c:Sy}(hx:.till a c∈bs)(ha:∀i,so (w i) bs (γ i) a=true↔Sem w a i)(hc:∀i,so (w i) bs (γ i) c=true↔Sem w c i)(i:Nat):look bs (γ i) (.till a c)=true↔Sem w (.till a c) i:=by
 have st:∀i,look bs (γ i) (.till a c)=true↔Sem w c i\/(Sem w a i/\look bs (γ (i+1)) (.till a c)=true):=fun i=>by
  rw [ia (hg i) hx,gJ,or_eq_true,and_eq_true,ha,hc]
 constructor
 .intro h
  obtain ⟨j,h1,h2⟩:=hm _ hx i
  obtain ⟨d,rfl⟩:=exists_eq_add_of_le h1
  clear h1
  induction d generalizing i with
  |zero=>
   rw [nU,or_eq_true,Nat.add_zero,h] at h2
   exact nq.mpr (.inl ((hc i).mp (h2.resolve_left (by decide))))
  |succ d ih=>
   rcases (st i).mp h with h3 | ⟨h3,h4⟩
   .exact nq.mpr (.inl h3)
   .exact nq.mpr (.inr ⟨h3,ih (i+1) h4 (by rw [add_assoc,add_comm 1];exact h2)⟩)
 .rintro ⟨t,h1,h2⟩
  induction t generalizing i with
  |zero=>exact (st i).mpr (.inl h1)
  |succ t ih=>exact (st i).mpr (.inr ⟨h2 0 (succ_pos _),ih (i+1) (by rw [add_assoc,add_comm 1];exact h1) fun u hu=>by rw [add_assoc,add_comm 1];exact h2 (u+1) (Nat.succ_lt_succ hu)⟩)
theorem kM {a:Sy}(hx:.always a∈bs)(ha:∀i,so (w i) bs (γ i) a=true↔Sem w a i)(i:Nat):look bs (γ i) (.always a)=true↔Sem w (.always a) i:=by
 have st:∀i,look bs (γ i) (.always a)=true↔Sem w a i/\look bs (γ (i+1)) (.always a)=true:=fun i=>by
  rw [ia (hg i) hx,fI,and_eq_true,ha]
 constructor
 .intro h t
  induction t generalizing i with
  |zero=>exact ((st i).mp h).1
  |succ t ih=>have:=ih (i+1) ((st i).mp h).2;rw [add_assoc,add_comm 1] at this;exact this
 .intro h
  cases q:look bs (γ i) (.always a) with
  |true=>rfl
  |false=>
   exfalso
   obtain ⟨j,h1,h2⟩:=hm _ hx i
   obtain ⟨d,rfl⟩:=exists_eq_add_of_le h1
   clear h1
   induction d generalizing i with
   |zero=>
    rw [jb,Nat.add_zero,q,Bool.false_or,not_eq_true'] at h2
    rw [(ha i).mpr (h 0)] at h2;cases h2
   |succ d ih=>
    refine ih (i+1) (uj.mp h).2 ?_ (by rw [add_assoc,add_comm 1];exact h2)
    cases e:look bs (γ (i+1)) (.always a) with
    |false=>rfl
    |true=>rw [(st i).mpr ⟨h 0,e⟩] at q;cases q
theorem cS:∀(s:Sy),dk bs s->∀i,so (w i) bs (γ i) s=true↔Sem w s i
 |.mark x,_,i=>.rfl
 |.yes,_,i=>⟨fun _=>trivial,fun _=>rfl⟩
 |.not a,h,i=>nt (cS a (aY h (.head _)) i)
 |.and a c,h,i=>(and_eq_true_iff).trans (and_congr (cS a (aY h (.head _)) i) (cS c (aY h (.tail _ (.head _))) i))
 |.or a c,h,i=>(Bool.or_eq_true_iff).trans (or_congr (cS a (aY h (.head _)) i) (cS c (aY h (.tail _ (.head _))) i))
 |.next a,h,i=>(Bool.eq_iff_iff.mp (ia (hg i) (bb h _ (.head _)))).trans (cS a (aY h (.head _)) (i+1))
 |.till a c,h,i=>m9 hg hm (bb h _ (.head _)) (cS a (aY h (.head _))) (cS c (aY h (.tail _ (.head _)))) i
 |.always a,h,i=>kM hg hm (bb h _ (.head _)) (cS a (aY h (.head _))) i
 |.again a,h,i=>by
  rw [wL]
  exact kM (a:=.till .yes a) hg hm (bb h _ (.tail _ (.head _))) (m9 (a:=.yes) (c:=a) hg hm (bb h _ (.head _)) (fun _=>⟨fun _=>trivial,fun _=>rfl⟩) (cS a (aY h (.head _)))) i
end
def JD (w:Nat->Str)(bs:List Sy)(i:Nat):List Bool:=open Classical in bs.map fun x=>decide (Sem w x i)
end
end Mine.Ltl
namespace Mine
noncomputable section
open Ltl
section
variable {α:Type} {th:α->List α}
theorem dT.left {P Q:List α}(h:dT th (P++Q)):dT th P:=fun i a b ha hb=>
 h i a b ((getElem?_append_left (ak ha).1).trans ha) ((getElem?_append_left (ak hb).1).trans hb)
theorem dT.snoc {P:List α}{a b:α}(h:dT th (P++[b]))(e:P.getLast?=some a):b∈th a:=by
 obtain ⟨Q,rfl⟩:=List.getLast?_eq_some_iff.mp e
 refine h Q.length a b ?_ ?_
 .rw [List.append_assoc,getElem?_append_right (le_refl _),sub_self];rfl
 .rw [List.append_assoc,getElem?_append_right (le_add_right _ 1),Nat.add_sub_cancel_left];rfl
theorem dT.close {K S F P:List α}{z c:α}(h:dT th (F++[z]))(W:CP th K S c P)(hS:∀x∈S,x∈th z):dT th (F++[z]++P.dropLast)/\∃y,(F++[z]++P.dropLast).getLast?=some y/\c∈th y:=by
 obtain ⟨Q,rfl⟩:=List.getLast?_eq_some_iff.mp W.lst
 obtain ⟨a,ha,hs⟩:=W.hd
 rw [dropLast_concat]
 refine ⟨h.app W.walk.left fun u v hu hv=>?_,?_⟩
 .rw [getLast?_concat] at hu;cases hu
  rw [head?_append,hv] at ha;cases ha
  exact hS _ hs
 .rcases eq_nil_or_concat Q with rfl | ⟨R,y,rfl⟩
  .cases ha
   exact ⟨z,by rw [append_nil,getLast?_concat],hS _ hs⟩
  .rw [concat_eq_append] at W ⊢
   exact ⟨y,by rw [<-List.append_assoc,getLast?_concat],W.walk.snoc getLast?_concat⟩
structure kQ (th:α->List α) (S:List α) (P R:List α):Prop where
 walk:dT th (P++R)
 hd:∃a,(P++R).head?=some a/\a∈S
 back:∃c y,R.head?=some c/\R.getLast?=some y/\c∈th y
theorem CP.lasso {K S P R:List α}{c:α}(W:CP th K S c P)(h:dT th R)(hc:R.head?=some c)(hb:∃y,R.getLast?=some y/\c∈th y):kQ th S P.dropLast R:=by
 obtain ⟨Q,rfl⟩:=List.getLast?_eq_some_iff.mp W.lst
 obtain ⟨a,ha,hs⟩:=W.hd
 obtain ⟨y,h1,h2⟩:=hb
 rw [dropLast_concat]
 refine ⟨W.walk.left.app h fun u v hu hv=>?_,⟨a,?_,hs⟩,c,y,hc,h1,h2⟩
 .rw [hc] at hv;cases hv
  exact W.walk.snoc hu
 .rw [head?_append] at ha ⊢
  rw [hc];exact ha
theorem kQ.step {S P R:List α}(L:kQ th S P R){i:Nat}{a b:α}(ha:(P++R)[i]?=some a)(hb:(P++R)[nx (P++R).length P.length i]?=some b):b∈th a:=by
 unfold nx at hb
 by_cases q:i+1=(P++R).length
 .rw [if_pos q] at hb
  obtain ⟨c,y,h1,h2,h3⟩:=L.back
  rw [getElem?_append_right (le_refl _),sub_self,<-List.head?_eq_getElem?,h1] at hb
  have e:(P++R).getLast?=some a:=by rw [List.getLast?_eq_getElem?,<-q];exact ha
  rw [List.getLast?_append,h2] at e
  cases hb;cases e;exact h3
 .rw [if_neg q] at hb
  exact L.walk i a b ha hb
theorem kQ.lt {S P R:List α}(L:kQ th S P R):P.length < (P++R).length:=by
 obtain ⟨c,y,h1,_⟩:=L.back
 cases R with
 |nil=>cases h1
 |cons=>rw [List.length_append,length_cons];lia -abstractProof
end
end
end Mine
namespace Mine
noncomputable section
open PySem Mine.Ltl
noncomputable def bo:Sy->T
 |.mark x=>.tup [.str (ofString "mark"),.str x]
 |.yes=>.tup [.str (ofString "yes")]
 |.not a=>.tup [.str (ofString "not"),bo a]
 |.and a c=>.tup [.str (ofString "and"),bo a,bo c]
 |.or a c=>.tup [.str (ofString "or"),bo a,bo c]
 |.next a=>.tup [.str (ofString "next"),bo a]
 |.till a c=>.tup [.str (ofString "till"),bo a,bo c]
 |.always a=>.tup [.str (ofString "always"),bo a]
 |.again a=>.tup [.str (ofString "again"),bo a]
noncomputable def gB:Sy->PyData
 |.mark x=>.tuple [.str (ofString "mark"),.str x]
 |.yes=>.tuple [.str (ofString "yes")]
 |.not a=>.tuple [.str (ofString "not"),gB a]
 |.and a c=>.tuple [.str (ofString "and"),gB a,gB c]
 |.or a c=>.tuple [.str (ofString "or"),gB a,gB c]
 |.next a=>.tuple [.str (ofString "next"),gB a]
 |.till a c=>.tuple [.str (ofString "till"),gB a,gB c]
 |.always a=>.tuple [.str (ofString "always"),gB a]
 |.again a=>.tuple [.str (ofString "again"),gB a]
noncomputable def dep:Sy->Nat
 |.mark _=>1
 |.yes=>1
 |.not a=>dep a+1
 |.and a c=>max (dep a) (dep c)+1
 |.or a c=>max (dep a) (dep c)+1
 |.next a=>dep a+1
 |.till a c=>max (dep a) (dep c)+1
 |.always a=>dep a+1
 |.again a=>dep a+1
theorem kh (n:Nat)(s:Str):cX n (.str s)=some (.str s):=by cases n<;>rfl
theorem mY (n:Nat)(i:Int):cX n (.int i)=some (.int i):=by cases n<;>rfl
theorem tm (n:Nat)(b:Bool):cX n (.bool b)=some (.bool b):=by cases n<;>rfl
theorem oU {f:T->Option PyData}{x:T}{r:List T}{d:PyData}{ds:List PyData}(h:f x=some d)(hr:fO f r=some ds):fO f (x::r)=some (d::ds):=by
 show (match f x with |none=>none |some d=>(fO f r).map (d::·))=_
 rw [h,hr];rfl
theorem mQ {n:Nat}{xs:List T}{ds:List PyData}(h:fO (cX n) xs=some ds):cX (n+1) (.tup xs)=some (.tuple ds):=congrArg (Option.map PyData.tuple) h
theorem tq {n:Nat}{w:Str}{a:T}{d:PyData}(h:cX n a=some d):cX (n+1) (.tup [.str w,a])=some (.tuple [.str w,d]):=mQ (oU (kh _ _) (oU h rfl))
theorem Ab {n:Nat}{w:Str}{a c:T}{d e:PyData}(h:cX n a=some d)(h':cX n c=some e):cX (n+1) (.tup [.str w,a,c])=some (.tuple [.str w,d,e]):=mQ (oU (kh _ _) (oU h (oU h' rfl)))
theorem fi:∀(s:Sy) (n:Nat),dep s<=n->cX n (bo s)=some (gB s)
 |.mark x,n+1,_=>tq (kh _ _)
 |.yes,n+1,_=>mQ (oU (kh _ _) rfl)
 |.not a,n+1,h=>tq (fi a n (le_of_succ_le_succ h))
 |.next a,n+1,h=>tq (fi a n (le_of_succ_le_succ h))
 |.always a,n+1,h=>tq (fi a n (le_of_succ_le_succ h))
 |.again a,n+1,h=>tq (fi a n (le_of_succ_le_succ h))
 |.and a c,n+1,h=>Ab (fi a n (le_trans (le_max_left _ _) (le_of_succ_le_succ h))) (fi c n (le_trans (le_max_right _ _) (le_of_succ_le_succ h)))
 |.or a c,n+1,h=>Ab (fi a n (le_trans (le_max_left _ _) (le_of_succ_le_succ h))) (fi c n (le_trans (le_max_right _ _) (le_of_succ_le_succ h)))
 |.till a c,n+1,h=>Ab (fi a n (le_trans (le_max_left _ _) (le_of_succ_le_succ h))) (fi c n (le_trans (le_max_right _ _) (le_of_succ_le_succ h)))
noncomputable def idx:Sy->Nat
 |.mark _=>0
 |.yes=>1
 |.not _=>2
 |.and _ _=>3
 |.or _ _=>4
 |.next _=>5
 |.till _ _=>6
 |.always _=>7
 |.again _=>8
theorem j8 {a c:Sy}(h1:PyData.eqv (gB a) (gB c)=false)(h2:Nat.beq (idx a) (idx c)=false):PyData.eqv (gB a) (gB c)=true↔a=c:=⟨fun h=>(by rw [h1] at h;cases h),fun h=>(by rw [h,beq_refl] at h2;cases h2)⟩
theorem ii:∀a c:Sy,PyData.eqv (gB a) (gB c)=true↔a=c
 |.mark x,c=>by
  cases c with
  |mark y=>
   show ((x==y)&&true)=true↔_
   rw [Bool.and_true,beq_iff_eq];exact ⟨fun h=>(by rw [h]),fun h=>(by cases h;rfl)⟩
  |_=>exact j8 rfl rfl
 |.yes,c=>by
  cases c with
  |yes=>exact ⟨fun _=>rfl,fun _=>rfl⟩
  |_=>exact j8 rfl rfl
 |.not a,c=>by
  cases c with
  |not c=>
   show (PyData.eqv (gB a) (gB c)&&true)=true↔_
   rw [Bool.and_true,ii a c];exact ⟨fun h=>(by rw [h]),fun h=>(by cases h;rfl)⟩
  |_=>exact j8 rfl rfl
 |.next a,c=>by
  cases c with
  |next c=>
   show (PyData.eqv (gB a) (gB c)&&true)=true↔_
   rw [Bool.and_true,ii a c];exact ⟨fun h=>(by rw [h]),fun h=>(by cases h;rfl)⟩
  |_=>exact j8 rfl rfl
 |.always a,c=>by
  cases c with
  |always c=>
   show (PyData.eqv (gB a) (gB c)&&true)=true↔_
   rw [Bool.and_true,ii a c];exact ⟨fun h=>(by rw [h]),fun h=>(by cases h;rfl)⟩
  |_=>exact j8 rfl rfl
 |.again a,c=>by
  cases c with
  |again c=>
   show (PyData.eqv (gB a) (gB c)&&true)=true↔_
   rw [Bool.and_true,ii a c];exact ⟨fun h=>(by rw [h]),fun h=>(by cases h;rfl)⟩
  |_=>exact j8 rfl rfl
 |.and a b,c=>by
  cases c with
  |and c d=>
   show (PyData.eqv (gB a) (gB c)&&(PyData.eqv (gB b) (gB d)&&true))=true↔_
   rw [Bool.and_true,and_eq_true,ii a c,ii b d];exact ⟨fun h=>(by rw [h.1,h.2]),fun h=>(by cases h;exact ⟨rfl,rfl⟩)⟩
  |_=>exact j8 rfl rfl
 |.or a b,c=>by
  cases c with
  |or c d=>
   show (PyData.eqv (gB a) (gB c)&&(PyData.eqv (gB b) (gB d)&&true))=true↔_
   rw [Bool.and_true,and_eq_true,ii a c,ii b d];exact ⟨fun h=>(by rw [h.1,h.2]),fun h=>(by cases h;exact ⟨rfl,rfl⟩)⟩
  |_=>exact j8 rfl rfl
 |.till a b,c=>by
  cases c with
  |till c d=>
   show (PyData.eqv (gB a) (gB c)&&(PyData.eqv (gB b) (gB d)&&true))=true↔_
   rw [Bool.and_true,and_eq_true,ii a c,ii b d];exact ⟨fun h=>(by rw [h.1,h.2]),fun h=>(by cases h;exact ⟨rfl,rfl⟩)⟩
  |_=>exact j8 rfl rfl
structure jw {α:Type} (e:α->T) (d:α->PyData) (n:Nat) (P:α->Prop):Prop where
 dat:∀a m,P a->n<=m->cX m (e a)=some (d a)
 eq:∀a c,PyData.eqv (d a) (d c)=true↔a=c
theorem rt (n:Nat):jw bo gB n (fun s=>dep s<=n):=⟨fun a m h hm=>fi a m (le_trans h hm),ii⟩
theorem Cr:jw T.str PyData.str 0 (fun _=>True):=⟨fun a m _ _=>kh m a,fun _ _=>beq_iff_eq⟩
theorem io:jw T.bool PyData.bool 0 (fun _=>True):=⟨fun a m _ _=>tm m a,fun _ _=>beq_iff_eq⟩
theorem fE:jw (fun n:Nat=>T.int n) (fun n:Nat=>PyData.int n) 0 (fun _=>True):=⟨fun a m _ _=>mY m a,fun a c=>by show (((a:Int)==(c:Int))=true)↔_;rw [beq_iff_eq];exact ⟨fun h=>ofNat.inj h,fun h=>by rw [h]⟩⟩
section
variable {α:Type} {e:α->T} {d:α->PyData} {n:Nat} {P:α->Prop}
theorem jw.all (E:jw e d n P){m:Nat}(hm:n<=m):∀l:List α,(∀a∈l,P a)->fO (cX m) (l.map e)=some (l.map d)
 | [],_=>rfl
 |a::l,h=>by rw [map_cons,fO,E.dat a m (h a (.head _)) hm];simp only [E.all hm l fun b hb=>h b (.tail _ hb)];rfl
theorem jw.eqs (E:jw e d n P):∀l l':List α,PyData.eqvAll (l.map d) (l'.map d)=true↔l=l'
 | [],[]=>⟨fun _=>rfl,fun _=>rfl⟩
 | [],_::_=>⟨fun h=>(by cases h),fun h=>(by cases h)⟩
 |_::_,[]=>⟨fun h=>(by cases h),fun h=>(by cases h)⟩
 |a::l,c::l'=>by
  show (PyData.eqv (d a) (d c)&&PyData.eqvAll (l.map d) (l'.map d))=true↔_
  rw [and_eq_true,E.eq,E.eqs l l']
  exact ⟨fun h=>(by rw [h.1,h.2]),fun h=>(by cases h;exact ⟨rfl,rfl⟩)⟩
theorem jw.tup (E:jw e d n P):jw (fun l:List α=>T.tup (l.map e)) (fun l=>PyData.tuple (l.map d)) (n+1) (fun l=>∀a∈l,P a):=
 ⟨fun l m h hm=>by
  obtain ⟨m,rfl⟩:=Nat.exists_eq_add_of_le' hm
  show (fO (cX (m+n)) (l.map e)).map PyData.tuple=_
  rw [E.all (le_add_left _ _) l h];rfl,fun a c=>E.eqs a c⟩
theorem jw.lst (E:jw e d n P):jw (fun l:List α=>T.lst (l.map e)) (fun l=>PyData.list (l.map d)) (n+1) (fun l=>∀a∈l,P a):=
 ⟨fun l m h hm=>by
  obtain ⟨m,rfl⟩:=Nat.exists_eq_add_of_le' hm
  show (fO (cX (m+n)) (l.map e)).map PyData.list=_
  rw [E.all (le_add_left _ _) l h];rfl,fun a c=>E.eqs a c⟩
variable [DecidableEq α]
theorem jw.eqb (E:jw e d n P)(a c:α):PyData.eqv (d a) (d c)=decide (a=c):=by
 cases h:PyData.eqv (d a) (d c) with
 |true=>exact (decide_eq_true ((E.eq a c).mp h)).symm
 |false=>exact (decide_eq_false fun q=>by rw [(E.eq a c).mpr q] at h;cases h).symm
theorem jw.is (E:jw e d n P)(hn:n<=du){a c:α}(ha:P a)(hc:P c):cH (e a) (e c)=some (decide (a=c)):=by
 rw [cH,E.dat a du ha hn,E.dat c du hc hn];exact congrArg some (E.eqb a c)
theorem jw.isN (E:jw e d n P)(hn:n<=du){a c:α}(ha:P a)(hc:P c):mu (e a) (e c)=some (!decide (a=c)):=by rw [mu,E.is hn ha hc];rfl
theorem jw.mem (E:jw e d n P)(hn:n<=du){a:α}{l:List α}(ha:P a)(hl:∀c∈l,P c){s:T}(hs:gO s=some (l.map e)):iM (e a) s=some (decide (a∈l)):=by
 rw [iM,hs]
 show o2 (cX du (e a)) (ox (l.map e)) _=_
 rw [E.dat a du ha hn,ox,E.all hn l hl]
 refine congrArg some ?_
 show (l.map d).any _=_
 rw [Bool.eq_iff_iff,any_eq_true,decide_eq_true_eq]
 constructor
 .rintro ⟨y,hy,h⟩
  obtain ⟨c,hc,rfl⟩:=aC hy
  rw [<-(E.eq c a).mp h];exact hc
 .exact fun h=>⟨d a,dK ⟨a,h,rfl⟩,(E.eq a a).mpr rfl⟩
theorem jw.nin (E:jw e d n P)(hn:n<=du){a:α}{l:List α}(ha:P a)(hl:∀c∈l,P c){s:T}(hs:gO s=some (l.map e)):fK (e a) s=some (!decide (a∈l)):=by rw [fK,E.mem hn ha hl hs];rfl
omit [DecidableEq α] in
theorem oh {z:Type}(f:α->z)(p:z->Bool):∀l:List α,(l.map f).findIdx? p=l.findIdx? (p ∘ f)
 | []=>rfl
 |a::l=>by rw [map_cons,findIdx?_cons,findIdx?_cons,oh f p l];rfl
theorem oj {a:α}:∀{l:List α},a∈l->l.findIdx? (fun c=>decide (c=a))=some (l.idxOf a)
 | [],h=>by cases h
 |c::l,h=>by
  rw [findIdx?_cons,idxOf_cons]
  by_cases q:c=a
  .rw [decide_eq_true q,beq_iff_eq.mpr q];rfl
  .rw [decide_eq_false q,beq_eq_false_iff_ne.mpr q]
   have:a∈l:=by cases h with
    |head=>exact absurd rfl q
    |tail _ h=>exact h
   rw [oj this];rfl
theorem jw.idx (E:jw e d n P)(hn:n<=du){a:α}{l:List α}(ha:P a)(hl:∀c∈l,P c)(hm:a∈l):fM (.lst (l.map e)) (e a)=some (.int (l.idxOf a)):=by
 show o2 (cX du (e a)) (ox (l.map e)) _=_
 rw [E.dat a du ha hn,ox,E.all hn l hl]
 show o1 ((l.map d).findIdx? fun y=>PyData.eqv y (d a)) _=_
 rw [oh,show (fun y=>PyData.eqv y (d a)) ∘ d=fun c=>decide (c=a) from funext fun c=>E.eqb c a,oj hm];rfl
end
end
end Mine
namespace Mine
noncomputable section
open PySem
theorem az {o r:cj}{t:T}{J:Sg}{k:PK T}(h:o=.ret t J)(h2:k t J=r):vI o k=r:=by rw [h,vI];exact h2
theorem af {α:Type}{o:Option α}{a:α}{J:Sg}{k:PK α}{r:cj}(h:o=some a)(h2:k a J=r):up o J k=r:=by rw [h];exact h2
theorem mt {α:Type}{o:Option α}{a:α}{f:α->cj}{b r:cj}(h:o=some a)(h2:f a=r):(match (generalizing:=false) o with |some a=>f a |none=>b)=r:=by rw [h];exact h2
theorem c7 {c:Bool}{a b r:cj}(h:c=true)(h2:a=r):(bif c then a else b)=r:=by rw [h];exact h2
theorem bP {c:Bool}{a b r:cj}(h:c=false)(h2:b=r):(bif c then a else b)=r:=by rw [h];exact h2
@[reducible] noncomputable def E4 (bd:PB)(body:PS)(c:eO)(v:T)(V:aP)(J:S5)(k:PK aP):cj:=match bd v V with
 |none=>.bad
 |some ρ'=>body c ρ' J k
theorem vq {l:List T}{lo hi:Option Int}:bR (.lst l) lo hi=some (.lst (cut lo hi l)):=by unfold bR;rfl
theorem fZ {bd:PB}{body:PS}{c:eO}{v:T}{l:List T}{V ρ':aP}{J:Sg}{k:PK aP}{r:cj}(hb:bd v V=some ρ')(h:body c ρ' J (fun V J=>cu bd body c l V J k)=r):cu bd body c (v::l) V J k=r:=by
 show (match bd v V with |none=>.bad |some ρ'=>body c ρ' J fun V J=>cu bd body c l V J k)=r
 rw [hb];exact h
def ck (Q:T->Sg->Prop)(o:cj):Prop:=∃t J,o=.ret t J/\Q t J
section
variable {Q:T->Sg->Prop}
theorem cT {t:T}{J:Sg}(h:Q t J):ck Q (.ret t J):=⟨t,J,rfl,h⟩
theorem jX {o:cj}{t:T}{J:Sg}{k:PK T}(h:o=.ret t J)(h2:ck Q (k t J)):ck Q (vI o k):=by rw [h,vI];exact h2
theorem b9 {P:T->Sg->Prop}{o:cj}{k:PK T}(h:ck P o)(h2:∀t J,P t J->ck Q (k t J)):ck Q (vI o k):=by obtain ⟨t,J,rfl,h⟩:=h;rw [vI];exact h2 t J h
theorem aH {α:Type}{o:Option α}{a:α}{J:Sg}{k:PK α}(h:o=some a)(h2:ck Q (k a J)):ck Q (up o J k):=by rw [h];exact h2
theorem d7 {α:Type}{o:Option α}{a:α}{f:α->cj}{b:cj}(h:o=some a)(h2:ck Q (f a)):ck Q (match (generalizing:=false) o with |some a=>f a |none=>b):=by rw [h];exact h2
theorem o5 {V:aP}{i:Nat}{t:T}{J:Sg}{k:PK T}(h:bX V i=some t)(h2:ck Q (k t J)):ck Q (up (bX V i) J k):=by rw [h];exact h2
theorem fN {c:Bool}{a b:cj}(h1:c=true->ck Q a)(h2:c=false->ck Q b):ck Q (bif c then a else b):=by
 cases c with
 |true=>exact h1 rfl
 |false=>exact h2 rfl
theorem CG {x y:cj}(h:ck Q y):ck Q (bif false then x else y):=h
theorem G0 {x y:cj}(h:ck Q x):ck Q (bif true then x else y):=h
theorem o8 {l:List T}{x y:cj}(hl:Nat.ble l.length 100=true)(h:ck Q x):ck Q (bif bS l.length then x else y):=by
 rw [show bS l.length=true from ble_eq_true_of_le (le_trans (le_of_ble_eq_true hl) (by decide))];exact h
theorem GG {bd:PB}{body:PS}{c:eO}{v:T}{l:List T}{V ρ':aP}{J:Sg}{k:PK aP}(hb:bd v V=some ρ')(h:ck Q (body c ρ' J fun V J=>cu bd body c l V J k)):ck Q (cu bd body c (v::l) V J k):=by
 show ck Q (match bd v V with |none=>.bad |some ρ'=>body c ρ' J fun V J=>cu bd body c l V J k)
 rw [hb];exact h
theorem td {α:Type}{e:α->T}{bd:PB}{body:PS}{c:eO}{k:PK aP}(I:List α->aP->Sg->Prop){l:List α}
  (h:∀pre a suf V J,l=pre++a::suf->I pre V J->∀k,(∀ρ' J',I (pre++[a]) ρ' J'->ck Q (k ρ' J'))->ck Q (E4 bd body c (e a) V J k))(h1:∀V J,I l V J->ck Q (k V J)):
  ∀{suf pre:List α} {V:aP} {J:Sg},l=pre++suf->I pre V J->ck Q (cu bd body c (suf.map e) V J k)
 | [],pre,V,J,hl,hi=>h1 V J (by rw [hl,append_nil];exact hi)
 |a::suf,pre,V,J,hl,hi=>h pre a suf V J hl hi _ fun ρ' J' hi'=>td I h h1 (suf:=suf) (pre:=pre++[a]) (by rw [hl,List.append_assoc];rfl) hi'
theorem k6 {t:PT}{body:PS}{c:eO}{k:PK aP}{S:Type}(I:S->aP->Sg->Prop)(go:S->Bool)(ms:S->Nat)(ht:∀s V J,I s V J->∀k:PK Bool,ck Q (k (go s) J)->ck Q (t c V J k))
  (hb:∀s V J,I s V J->go s=true->∀k,(∀s' ρ' J',ms s' < ms s->I s' ρ' J'->ck Q (k ρ' J'))->ck Q (body c V J k))(h1:∀s V J,I s V J->go s=false->ck Q (k V J)):
  ∀{n:Nat} {s:S} {V:aP} {J:Sg},ms s < n->I s V J->ck Q (fG t body c n V J k)
 | 0,s,V,J,h,_=>absurd h (not_lt_zero _)
 |n+1,s,V,J,h,hi=>by rw [jx];exact ht s V J hi _ (fN (fun e=>hb s V J hi e _ fun s' ρ' J' h' hi'=>k6 I go ms ht hb h1 (n:=n) (lt_of_lt_of_le h' (le_of_lt_succ h)) hi') (h1 s V J hi))
end
theorem fk {α:Type}{e:α->T}{bd:PB}{cond:PT}{elt:PE}{c:eO}{V:aP}{J:Sg}{k:PK (List T)}{r:cj}(p:α->Bool)(f:α->T):∀{l:List α} {acc:List T},
  (∀a∈l,∃ρ',bd (e a) V=some ρ'/\(∀k,cond c ρ' J k=k (p a) J)/\(p a=true->∀k,elt c ρ' J k=k (f a) J))->k (acc++(l.filter p).map f) J=r->bx bd cond elt c V (l.map e) J acc k=r
 | [],acc,_,hk=>by rw [filter_nil,map_nil,append_nil] at hk;rw [map_nil,wf];exact hk
 |a::l,acc,h,hk=>by
  obtain ⟨ρ',h1,h2,h3⟩:=h a (.head _)
  have ih:=fun acc=>fk (e:=e) (bd:=bd) (cond:=cond) (elt:=elt) (c:=c) (V:=V) (J:=J) (k:=k) (r:=r) p f (l:=l) (acc:=acc) fun b hb=>h b (.tail _ hb)
  rw [map_cons,wg]
  simp only [h1,h2]
  cases e:p a with
  |false=>rw [List.filter_cons_of_neg (by rw [e];decide)] at hk;exact ih acc hk
  |true=>
   rw [cond_true,h3 e]
   rw [List.filter_cons_of_pos e,map_cons] at hk
   exact ih (acc++[f a]) (by rw [List.append_assoc];exact hk)
theorem bn {α:Type}{e:α->T}{bd:PB}{elt:PE}{c:eO}{V:aP}{J:Sg}{k:PK (List T)}{r:cj}(f:α->T){l:List α}(h:∀a∈l,∃ρ',bd (e a) V=some ρ'/\∀k,elt c ρ' J k=k (f a) J)(hk:k (l.map f) J=r):bx bd aM elt c V (l.map e) J [] k=r:=
 fk (fun _=>true) f (fun a ha=>let ⟨ρ',h1,h2⟩:=h a ha;⟨ρ',h1,fun _=>rfl,fun _=>h2⟩) (by rw [List.filter_eq_self.mpr fun _ _=>rfl];exact hk)
theorem Aj {Q:T->Sg->Prop}{α:Type}{e:α->T}{bd:PB}{cond:PT}{elt:PE}{c:eO}{V:aP}{J:Sg}{k:PK (List T)}(p:α->Bool)(f:α->T){l:List α}
  (h:∀a∈l,∃ρ',bd (e a) V=some ρ'/\(∀k,cond c ρ' J k=k (p a) J)/\(p a=true->∀k,elt c ρ' J k=k (f a) J))(hk:ck Q (k ((l.filter p).map f) J)):ck Q (bx bd cond elt c V (l.map e) J [] k):=by
 rw [fk p f h rfl];exact hk
theorem gt {Q:T->Sg->Prop}{α:Type}{e:α->T}{bd:PB}{elt:PE}{c:eO}{V:aP}{J:Sg}{k:PK (List T)}(f:α->T){l:List α}(h:∀a∈l,∃ρ',bd (e a) V=some ρ'/\∀k,elt c ρ' J k=k (f a) J)(hk:ck Q (k (l.map f) J)):ck Q (bx bd aM elt c V (l.map e) J [] k):=by
 rw [bn f h rfl];exact hk
structure t5 {α:Type} (e:α->T) (H:α->Ky):Prop where
 ky:∀a,zC (e a)=some (H a)
 inj:∀a c,H a=H c->a=c
section
variable {α:Type} {e:α->T} {H:α->Ky} [DecidableEq α]
omit [DecidableEq α] in
theorem t5.kys (K:t5 e H):∀l:List α,fW (l.map e)=some (l.map H)
 | []=>rfl
 |a::l=>by
  have:=K.kys l
  rw [fW] at this ⊢
  rw [map_cons,xn,K.ky a,this];rfl
theorem t5.at_ (K:t5 e H)(l:List α)(a:α):q8 (l.map H) (H a)=if a∈l then some (l.idxOf a) else none:=by
 unfold q8
 rw [oh]
 have:(fun x=>decide (x=H a)) ∘ H=fun c=>decide (c=a):=funext fun c=>by
  show decide (H c=H a)=_
  by_cases q:c=a
  .rw [q,decide_eq_true rfl,decide_eq_true rfl]
  .rw [decide_eq_false q,decide_eq_false fun h=>q (K.inj c a h)]
 rw [this]
 by_cases h:a∈l
 .rw [if_pos h,oj h]
 .rw [if_neg h,List.findIdx?_eq_none_iff]
  exact fun x hx=>decide_eq_false fun q=>h (q▸hx)
theorem t5.fd (K:t5 e H)(l:List α)(a:α):kU (l.map e) (e a)=some (if a∈l then some (l.idxOf a) else none):=by
 rw [kU,K.kys,K.ky];exact congrArg some (K.at_ l a)
theorem rj {z:Type}(f:α->z):∀{l:List α} {a:α},a∈l->(l.map f)[l.idxOf a]?=some (f a)
 |c::l,a,h=>by
  rw [idxOf_cons]
  by_cases q:c=a
  .rw [beq_iff_eq.mpr q,cond_true,q];rfl
  .rw [beq_eq_false_iff_ne.mpr q,cond_false,map_cons,List.getElem?_cons_succ]
   exact rj f (by cases h with
    |head=>exact absurd rfl q
    |tail _ h=>exact h)
theorem t5.get (K:t5 e H){l:List α}{f:α->T}{a:α}(h:a∈l):idxD (.dct (l.map e) (l.map f)) (e a)=some (f a):=by
 show o1 (kU (l.map e) (e a)) _=_
 rw [K.fd,if_pos h];exact rj f h
theorem t5.has (K:t5 e H){l:List α}{vs:List T}(a:α):AR (e a) (.dct (l.map e) vs)=some (decide (a∈l)):=by
 show o1 (kU (l.map e) (e a)) _=_
 rw [K.fd]
 by_cases h:a∈l
 .rw [if_pos h,decide_eq_true h];rfl
 .rw [if_neg h,decide_eq_false h];rfl
theorem t5.put (K:t5 e H){l:List α}{vs:List T}{a:α}{v:T}(h:a∉l)(hl:l.length < lim):d5 (.dct (l.map e) vs) (e a) v=some (.dct ((l++[a]).map e) (vs++[v])):=by
 show o1 (kU (l.map e) (e a)) _=_
 rw [K.fd,if_neg h]
 show mi _ _=_
 rw [mi,length_map,show bS (l.length+1)=true from ble_eq_true_of_le hl,map_append];rfl
theorem t5.fresh (K:t5 e H):∀(l us:List α),(us++l).Nodup->fg (l.map e) (us.map e)=true
 | [],_,_=>rfl
 |a::l,us,h=>by
  have ha:a∉us:=fun q=>(aG h).2.2 a q a (.head _) rfl
  rw [map_cons,od,K.fd,if_neg ha]
  show fg (l.map e) (us.map e++[e a])=true
  have:=K.fresh l (us++[a]) (by rw [List.append_assoc];exact h)
  rw [map_append] at this;exact this
end
structure Kn where
 p:Nat
 g:List Bool
noncomputable instance:DecidableEq Kn:=fun a b=>Classical.propDecidable (a=b)
theorem zD:∀{a c:Kn},a.p=c.p->a.g=c.g->a=c
 | ⟨_,_⟩,⟨_,_⟩,rfl,rfl=>rfl
noncomputable def aV (k:Kn):T:=.tup [.int k.p,.tup (k.g.map .bool)]
noncomputable def Hx (k:Kn):PyData:=.tuple [.int k.p,.tuple (k.g.map .bool)]
def Jo (k:Kn):Ky:=.tup [.int k.p,.tup (k.g.map fun b=>.int (u7 b))]
theorem n6 (n:Nat):∀g:List Bool,kS.go (kS n) (g.map .bool)=some (g.map fun b=>.int (u7 b))
 | []=>rfl
 |b::g=>by
  rw [map_cons,xn,n6 n g,show kS n (.bool b)=some (.int (u7 b)) by cases n<;>rfl];rfl
theorem CL {a b:Bool}(h:u7 a=u7 b):a=b:=by revert h;cases a<;>cases b<;>decide
theorem lM:∀{g g':List Bool},(g.map fun b=>Ky.int (u7 b))=g'.map (fun b=>Ky.int (u7 b))->g=g'
 | [],[],_=>rfl
 | [],_::_,h=>by cases h
 |_::_,[],h=>by cases h
 |a::g,b::g',h=>by
  have h1:=List.cons.inj h
  rw [CL (Ky.int.inj h1.1),lM h1.2]
theorem cg:t5 aV Jo:=⟨fun a=>by
  show o1 (kS.go (kS 5) [.int a.p,.tup (a.g.map .bool)]) _=_
  rw [xn,xn,show kS 5 (.tup (a.g.map .bool))=some (.tup (a.g.map fun b=>.int (u7 b))) by rw [Dk,n6];rfl];rfl,
 fun a c h=>by
  have h1:=List.cons.inj (Ky.tup.inj h)
  have h2:=List.cons.inj h1.2
  exact zD (ofNat.inj (Ky.int.inj h1.1)) (lM (Ky.tup.inj h2.1))⟩
theorem jd:jw aV Hx 2 (fun _=>True):=⟨fun a m _ hm=>by
  obtain ⟨m,rfl⟩:=Nat.exists_eq_add_of_le' hm
  show (fO (cX (m+1)) [.int a.p,.tup (a.g.map .bool)]).map PyData.tuple=_
  rw [fO,mY,fO,io.tup.dat a.g (m+1) (fun _ _=>trivial) (le_add_left _ _)];rfl,
 fun a c=>by
  show (((a.p:Int)==(c.p:Int))&&(PyData.eqvAll (a.g.map .bool) (c.g.map .bool)&&true))=true↔_
  rw [Bool.and_true,and_eq_true,beq_iff_eq,io.eqs]
  exact ⟨fun h=>zD (ofNat.inj h.1) h.2,fun h=>by rw [h];exact ⟨rfl,rfl⟩⟩⟩
def lu (l:List Kn):T:=.dct (l.map aV) (l.map fun _=>.bool true)
def fH (b p m kn:T)(K:List Kn)(n:Nat)(th:Kn->List Kn):T:=.obj 10 [b,p,m,kn,.lst (K.map aV),.int n,.dct (K.map aV) (K.map fun k=>.lst ((th k).map aV))]
theorem Er (l:List Kn)(k:Kn):AR (aV k) (lu l)=some (decide (k∈l)):=cg.has k
theorem iB (l:List Kn)(k:Kn):dI (aV k) (lu l)=some (!decide (k∈l)):=by show (AR _ _).map _=_;rw [Er];rfl
theorem jZ {l:List Kn}{k:Kn}(h:k∉l)(hl:l.length < lim):d5 (lu l) (aV k) (.bool true)=some (lu (l++[k])):=by
 rw [lu,cg.put h hl,lu,map_append (f:=fun _=>T.bool true)];rfl
theorem ik (a c:Int):cH (.int a) (.int c)=some (decide (a=c)):=congrArg some (by show (a==c)=_;by_cases h:a=c<;>simp [h])
def C0 (s:Kn×Nat):T:=.tup [aV s.1,.int s.2]
def Jc (s:Kn×Nat):PyData:=.tuple [Hx s.1,.int s.2]
theorem EW:jw C0 Jc 3 (fun _=>True):=⟨fun a m _ hm=>by
  obtain ⟨m,rfl⟩:=Nat.exists_eq_add_of_le' hm
  show (fO (cX (m+2)) [aV a.1,.int a.2]).map PyData.tuple=_
  rw [fO,jd.dat a.1 (m+2) trivial (le_add_left _ _),fO,mY];rfl,
 fun a c=>by
  show (PyData.eqv (Hx a.1) (Hx c.1)&&(((a.2:Int)==(c.2:Int))&&true))=true↔_
  rw [Bool.and_true,and_eq_true,beq_iff_eq,jd.eq]
  exact ⟨fun h=>Prod.ext h.1 (ofNat.inj h.2),fun h=>by rw [h];exact ⟨rfl,rfl⟩⟩⟩
theorem jw.some {α:Type}{e:α->T}{d:α->PyData}{n:Nat}(E:jw e d n (fun _=>True))(hn:n < du)(l:List α):mu (.lst (l.map e)) (.lst [])=Option.some (!l.isEmpty):=by
 have h1:=E.lst.dat l du (fun _ _=>trivial) hn
 show (cH _ _).map _=_
 rw [cH,h1]
 cases l with
 |nil=>rfl
 |cons a l=>rfl
theorem Az {l:List T}{v:T}(h:l.length < lim):dL (.lst l) v=some (.lst (l++[v])):=by
 show mi _ _=_
 rw [mi,show bS (l.length+1)=true from ble_eq_true_of_le h];rfl
theorem uP {l m:List T}(h:l.length+m.length<=lim):iO (.lst l) (.lst m)=some (.lst (l++m)):=by
 show mi _ _=_
 rw [mi,show bS (l.length+m.length)=true from ble_eq_true_of_le h];rfl
theorem dX:lim=1000000:=rfl
theorem cO {α:Type}{e:α->T}{l:List α}(a:α)(h:l.length < lim):dL (.lst (l.map e)) (e a)=some (.lst ((l++[a]).map e)):=by
 rw [Az (by rw [length_map];exact h),map_append];rfl
theorem rq {α:Type}{e:α->T}{l m:List α}(h:l.length+m.length<=lim):iO (.lst (l.map e)) (.lst (m.map e))=some (.lst ((l++m).map e)):=by
 rw [uP (by rw [length_map,length_map];exact h),map_append]
theorem lh {i:Nat}(h:i<=lim):sm (i:Int)=true:=ble_eq_true_of_le (le_trans (m:=i) (le_of_eq (Int.natAbs_natCast i)) (le_trans h (by decide)))
theorem jI {i n:Nat}(h:i < n):seqIndex? (i:Int) n=some i:=by
 show (if (decide (0<=(if (i:Int) < 0 then (i:Int)+n else i))&&decide ((if (i:Int) < 0 then (i:Int)+n else i) < (n:Int)))=true then some (if (i:Int) < 0 then (i:Int)+n else i).toNat else none)=some i
 rw [if_neg (Int.not_lt.mpr (natCast_nonneg i)),decide_eq_true (natCast_nonneg i),decide_eq_true (bN h)];rfl
theorem vb {α:Type}{e:α->T}{l:List α}{i:Nat}{a:α}(h:l[i]?=some a)(hi:i<=lim):AS i (l.map e)=some (e a):=by
 rw [AS,lh hi,cond_true,jI (by rw [length_map];exact (ak h).1)]
 show (l.map e)[i]?=_
 rw [getElem?_map,h];rfl
theorem Dc {α z:Type}(a:α)(f:α->Option z):o1 (some a) f=f a:=rfl
theorem vW (xs:List T)(i:Int):aL (.lst xs) (.int i)=AS i xs:=by
 rw [aL,show i7 (.int i)=some i from rfl,Dc,show gO (.lst xs)=some xs from rfl]
theorem bq {α:Type}{e:α->T}{l:List α}{i:Nat}{a:α}(h:l[i]?=some a)(hi:i<=lim):aL (.lst (l.map e)) (.int i)=some (e a):=(vW _ _).trans (vb h hi)
theorem vt {z:Type}{f:Kn->z}{o:Kn}{v:z}:∀{K:List Kn},K.Nodup->o∈K->(K.map f).set (K.idxOf o) v=K.map fun k=>if k=o then v else f k
 |k::K,hn,ho=>by
  have h1:=aX hn
  rw [idxOf_cons]
  by_cases q:k=o
  .subst q
   rw [beq_iff_eq.mpr rfl,cond_true,map_cons,List.set_cons_zero,map_cons,if_pos rfl]
   refine congrArg _ (map_congr_left fun x hx=>?_)
   exact (if_neg fun (e:x=k)=>h1.1 (e▸hx)).symm
  .rw [beq_eq_false_iff_ne.mpr q,cond_false,map_cons,List.set_cons_succ,map_cons,if_neg q,vt h1.2 (by cases ho with
    |head=>exact absurd rfl q
    |tail _ h=>exact h)]
theorem sV {K:List Kn}{kn:Kn}(hK:K.Nodup):∀(os:List Kn) (h:Kn->List Kn),(∀o∈os,o∈K)->(∀k,(h k).length+os.length<=lim)->
  ∃h':Kn->List Kn,lA (K.map aV) (aV kn) (os.map aV) (K.map fun k=>(h k).map aV)=some (K.map fun k=>(h' k).map aV)/\(∀k x,x∈h' k↔x∈h k\/(x=kn/\k∈os))/\∀k,(h' k).length<=(h k).length+os.length
 | [],h,_,_=>⟨h,rfl,fun k x=>⟨.inl,fun q=>q.elim id fun q=>nomatch q.2⟩,fun k=>le_refl _⟩
 |o::os,h,hs,hl=>by
  have ho:=hs o (.head _)
  have l1:bS ((h o).length+1)=true:=ble_eq_true_of_le (by have:=hl o;rw [length_cons] at this;lia -abstractProof)
  obtain ⟨h',e1,e2,e3⟩:=sV (kn:=kn) hK os (fun k=>if k=o then h k++[kn] else h k) (fun x hx=>hs x (.tail _ hx)) fun k=>by
   have:=hl k
   rw [length_cons] at this
   by_cases q:k=o
   .simp only [if_pos q,List.length_append,length_cons,length_nil];lia
   .simp only [if_neg q];lia
  refine ⟨h',?_,fun k x=>?_,fun k=>?_⟩
  .rw [map_cons,EA,cg.fd,if_pos ho]
   show (o1 (K.map fun k=>(h k).map aV)[K.idxOf o]? _)=_
   rw [rj _ ho]
   show (bif bS (((h o).map aV).length+1) then lA _ _ _ ((K.map fun k=>(h k).map aV).set (K.idxOf o) ((h o).map aV++[aV kn])) else none)=_
   rw [length_map,l1,cond_true,vt hK ho,<-e1]
   congr 1
   refine map_congr_left fun k hk=>?_
   by_cases q:k=o
   .rw [if_pos q,if_pos q,q,map_append];rfl
   .rw [if_neg q,if_neg q]
  .refine (e2 k x).trans ?_
   by_cases q:k=o
   .rw [if_pos q,mem_append,mem_singleton]
    constructor
    .rintro ((h |h) |h)
     .exact .inl h
     .exact .inr ⟨h,q▸.head _⟩
     .exact .inr ⟨h.1,.tail _ h.2⟩
    .rintro (h |h)
     .exact .inl (.inl h)
     .exact .inl (.inr h.1)
   .rw [if_neg q,mem_cons]
    exact ⟨fun h=>h.imp id fun h=>⟨h.1,.inr h.2⟩,fun h=>h.imp id fun h=>⟨h.1,h.2.resolve_left q⟩⟩
  .have:=e3 k
   rw [length_cons]
   by_cases q:k=o
   .simp only [if_pos q,List.length_append,length_cons,length_nil] at this;lia
   .simp only [if_neg q] at this;lia
theorem sT {K:List Kn}{th:Kn->List Kn}(hK:K.Nodup)(hc:∀k∈K,∀y∈th k,y∈K)(hw:∀k∈K,(th k).length<=1000):∀(ns:List Kn) (h:Kn->List Kn),(∀n∈ns,n∈K)->(∀k,(h k).length+ns.length * 1000<=lim)->
  ∃h':Kn->List Kn,sU (K.map aV) (.dct (K.map aV) (K.map fun k=>.lst ((th k).map aV))) (ns.map aV) (K.map fun k=>(h k).map aV)=some (K.map fun k=>(h' k).map aV)/\∀k x,x∈h' k↔x∈h k\/(x∈ns/\k∈th x)
 | [],h,_,_=>⟨h,rfl,fun k x=>⟨.inl,fun q=>q.elim id fun q=>nomatch q.1⟩⟩
 |n::ns,h,hs,hl=>by
  have hn:=hs n (.head _)
  have lw:=hw n hn
  obtain ⟨ha,e1,e2,e3⟩:=sV (kn:=n) hK (th n) h (fun o ho=>hc n hn o ho) fun k=>by have:=hl k;rw [length_cons] at this;lia
  obtain ⟨h2,e4,e5⟩:=sT hK hc hw ns ha (fun x hx=>hs x (.tail _ hx)) fun k=>by have:=hl k;have:=e3 k;rw [length_cons] at *;lia
  refine ⟨h2,?_,fun k x=>?_⟩
  .rw [map_cons,Ez,cg.get hn]
   show (o1 (lA (K.map aV) (aV n) ((th n).map aV) _) _)=_
   rw [e1];exact e4
  .rw [e5,e2]
   constructor
   .rintro ((h | ⟨rfl,h⟩) | ⟨h,h'⟩)
    .exact .inl h
    .exact .inr ⟨.head _,h⟩
    .exact .inr ⟨.tail _ h,h'⟩
   .rintro (h | ⟨h,h'⟩)
    .exact .inl (.inl h)
    .rcases au h with rfl |h
     .exact .inl (.inr ⟨rfl,h'⟩)
     .exact .inr ⟨h,h'⟩
theorem BR {b p m kn:T}{K:List Kn}{bg:Nat}{th:Kn->List Kn}(hK:K.Nodup)(hl:K.length<=1000)(hc:∀k∈K,∀y∈th k,y∈K)(hw:∀k∈K,(th k).length<=1000):
  ∃bk:Kn->List Kn,zu (fH b p m kn K bg th)=some (.dct (K.map aV) (K.map fun k=>.lst ((bk k).map aV)))/\∀k x,x∈bk k↔x∈K/\k∈th x:=by
 obtain ⟨bk,e1,e2⟩:=sT hK hc hw K (fun _=>[]) (fun _ h=>h) fun k=>by rw [dX,length_nil];lia -abstractProof
 refine ⟨bk,?_,fun k x=>⟨fun h=>((e2 k x).mp h).elim (fun h=>nomatch h) id,fun h=>(e2 k x).mpr (.inr h)⟩⟩
 show (bif bS (K.map aV).length&&fg (K.map aV) [] then o1 (sU (K.map aV) _ (K.map aV) ((K.map aV).map fun _=>[])) fun ds=>some (T.dct (K.map aV) (ds.map .lst)) else none)=_
 have f1:bS (K.map aV).length=true:=by rw [length_map];exact ble_eq_true_of_le (by rw [dX];lia -abstractProof)
 have f2:fg (K.map aV) []=true:=cg.fresh K [] hK
 rw [f1,f2,map_map]
 show o1 (sU _ _ _ (K.map fun k=>((fun _=>[]) k:List Kn).map aV)) _=_
 rw [e1]
 show some (T.dct (K.map aV) ((K.map fun k=>(bk k).map aV).map .lst))=_
 rw [map_map];rfl
theorem yy (n:Nat):Builtin.Range.rangeSize 0 n 1=n:=by
 unfold Builtin.Range.rangeSize
 simp only [show (1:Int) > 0 by decide,if_true,ediv_one]
 split<;>lia -abstractProof
theorem gQ {n:Nat}(h:n<=100000):vy [.int n]=some ((List.range n).map fun j:Nat=>T.int j):=by
 have e:dJ 0 n 1=(List.range n).map fun j:Nat=>T.int j:=by
  rw [dJ,yy]
  exact map_congr_left fun k _=>by rw [Int.zero_add,Int.mul_one]
 unfold vy
 show rg 0 n=_
 rw [rg,e,show sm 0=true from rfl,lh (by rw [dX];lia),length_map,length_range,show bS n=true from ble_eq_true_of_le (by rw [dX];lia)];rfl
theorem i8 {α:Type}(q:α->Bool):∀C:List α,ej (C.map fun k=>.bool (q k))=some (C.map q)
 | []=>rfl
 |a::C=>by rw [map_cons,show ej (_::C.map fun k=>.bool (q k))=o2 (some (q a)) (ej (C.map fun k=>.bool (q k))) fun b bs=>some (b::bs) from rfl,i8 q C];rfl
theorem any_map {α:Type}(C:List α)(q:α->Bool):AA (.lst (C.map fun k=>.bool (q k)))=some (.bool (C.any q)):=by
 show o1 (ej _) _=_
 rw [i8]
 exact congrArg (fun b=>some (T.bool b)) (List.any_map.trans rfl)
theorem all_map {α:Type}(C:List α)(q:α->Bool):kN (.lst (C.map fun k=>.bool (q k)))=some (.bool (C.all q)):=by
 show o1 (ej _) _=_
 rw [i8]
 exact congrArg (fun b=>some (T.bool b)) (List.all_map.trans rfl)
theorem Ae {α:Type}(l:List α):cut (some 1) none l=l.drop 1:=by
 cases l with
 |nil=>rfl
 |cons a l=>
  have e:clipAt (a::l).length 1=1:=(kq _ 1).trans (Nat.min_eq_left (succ_le_succ (zero_le _)))
  simp only [cut,Option.elim,e]
  rw [List.drop_one,List.tail_cons,length_cons,Nat.add_sub_cancel,take_length]
theorem je {α:Type}(n:Nat)(l:List α):cut none (some (n:Int)) l=l.take n:=by
 have e:clipAt l.length n=min n l.length:=kq _ _
 simp only [cut,Option.elim,e,drop_zero,Nat.sub_zero]
 rw [<-List.take_take,take_length]
theorem oy {α:Type}(l:List α):cut none (some (-1)) l=l.dropLast:=by
 have e:clipAt l.length (-1)=l.length - 1:=wi _
 simp only [cut,Option.elim,e,drop_zero,Nat.sub_zero,List.dropLast_eq_take]
theorem Ad {α:Type}(l:List α)(a:α):cut (some (-1)) none (l++[a])=[a]:=by
 have e:clipAt (l++[a]).length (-1)=l.length:=by rw [wi,List.length_append];rfl
 simp only [cut,Option.elim,e]
 rw [List.drop_left,List.length_append,length_cons,length_nil,Nat.add_sub_cancel_left];rfl
theorem wd {α z:Type}(f:α->z)(lo hi:Option Int)(l:List α):cut lo hi (l.map f)=(cut lo hi l).map f:=by
 unfold cut;rw [length_map,List.map_take,List.map_drop]
end
end Mine
namespace Mine.L07
noncomputable section
open PySem
abbrev kE (f:Nat):PK aP:=fun _ J=>bif iN f then .bad else .ret .none J
theorem aO {n f:Nat}{args:List T}{J:Sg}{F:gE}{o:cj}(h:Ψ f=some F)(hl:Nat.beq args.length F.np=true)(hb:F.body ⟨aw Ψ n⟩ (frame args F.ns) J (kE f)=o)(ho:(match o with |.ret _ _=>true |.exc _ _=>true |_=>false)=true):aw Ψ (n+1) f args J=o:=by
 rw [wk,h]
 show (bif Nat.beq args.length F.np then (match F.body ⟨aw Ψ n⟩ (frame args F.ns) J (kE f) with
  |.ret t J=>cj.ret t J
  |.exc c J=>.exc c J
  |_=>.bad) else .bad)=o
 rw [hl,hb]
 cases o<;>first |rfl |cases ho
theorem dc {n f:Nat}{args:List T}{J:Sg}{F:gE}{Q:T->Sg->Prop}(h:Ψ f=some F)(hl:Nat.beq args.length F.np=true)(hb:ck Q (F.body ⟨aw Ψ n⟩ (frame args F.ns) J (kE f))):ck Q (aw Ψ (n+1) f args J):=by
 obtain ⟨t,J',h1,h2⟩:=hb
 exact ⟨t,J',aO h hl h1 rfl,h2⟩
end
end Mine.L07
section
namespace Mine.L07
noncomputable section
open PySem
abbrev C1 (i:Nat)(p:PS)(f:aP)(us:List T):Prop:=∀{n:Nat} {t:T} {J J':Sg},p ⟨aw Ψ n⟩ f J (kE i)=.ret t J'->aw Ψ (n+1) i us J=.ret t J'
abbrev R1 (i:Nat)(p:PS)(f:aP)(us:List T):Prop:=∀{n:Nat} {J:Sg} {Q:T->Sg->Prop},ck Q (p ⟨aw Ψ n⟩ f J (kE i))->ck Q (aw Ψ (n+1) i us J)
variable {u v w x y z:T}
theorem xA:C1 1 pP [some u,none] [u]:=fun h=>aO rfl rfl h rfl
theorem uW:C1 2 nH [some u] [u]:=fun h=>aO rfl rfl h rfl
theorem oL:C1 3 nK [some u] [u]:=fun h=>aO rfl rfl h rfl
theorem tH:C1 4 lW [some u,some v,none] [u,v]:=fun h=>aO rfl rfl h rfl
theorem tJ:C1 5 lX [some u] [u]:=fun h=>aO rfl rfl h rfl
theorem tG:C1 6 lV [some u,none] [u]:=fun h=>aO rfl rfl h rfl
theorem uZ:C1 500 nM [some u,none,none,none,none] [u]:=fun h=>aO rfl rfl h rfl
theorem pf:C1 7 iV [some u] [u]:=fun h=>aO rfl rfl h rfl
theorem de:C1 8 iX [some u,none,none,none,none] [u]:=fun h=>aO rfl rfl h rfl
theorem xB:C1 9 pQ [some u,some v,some w] [u,v,w]:=fun h=>aO rfl rfl h rfl
theorem eJ:C1 10 vG [some u,some v,some w,some x,none] [u,v,w,x]:=fun h=>aO rfl rfl h rfl
theorem oH:C1 11 sJ [some u,some v,some w,some x] [u,v,w,x]:=fun h=>aO rfl rfl h rfl
theorem xC:C1 12 pR [some u,some v,some w,none] [u,v,w]:=fun h=>aO rfl rfl h rfl
theorem o9:C1 13 iU [some u,none] [u]:=fun h=>aO rfl rfl h rfl
theorem oJ:C1 14 sM [some u,some v,some w,some x] [u,v,w,x]:=fun h=>aO rfl rfl h rfl
theorem uX:C1 35 xZ [some u,none,none,none,none] [u]:=fun h=>aO rfl rfl h rfl
theorem rF:C1 37 jN [some u,some v] [u,v]:=fun h=>aO rfl rfl h rfl
theorem uY:C1 15 nJ [some u,some v] [u,v]:=fun h=>aO rfl rfl h rfl
theorem pj:C1 16 iW [some u,some v,none,none] [u,v]:=fun h=>aO rfl rfl h rfl
theorem oM:C1 21 nO [some u,none,none] [u]:=fun h=>aO rfl rfl h rfl
theorem rG:C1 22 jS [some u,none,none,none,none] [u]:=fun h=>aO rfl rfl h rfl
theorem rH:C1 44 jT [some u,some v,some w,none,none,none] [u,v,w]:=fun h=>aO rfl rfl h rfl
theorem tM:C1 45 l7 [some u,some v,some w,none] [u,v,w]:=fun h=>aO rfl rfl h rfl
theorem bU:C1 46 bv [some u,some v,some w,none,none,none,none,none,none,none,none,none,none,none,none] [u,v,w]:=fun h=>aO rfl rfl h rfl
theorem c5:C1 26 iy [some u,some v,some w,some x,none,none,none] [u,v,w,x]:=fun h=>aO rfl rfl h rfl
theorem xD:C1 27 pT [some u,some v,some w,some x,some y,none,none,none,none,none] [u,v,w,x,y]:=fun h=>aO rfl rfl h rfl
theorem gu:C1 28 jQ [some u,some v,some w,some x,none] [u,v,w,x]:=fun h=>aO rfl rfl h rfl
theorem jg:C1 49 di [some u,some v,some w,some x,none,none,none,none,none,none,none,none,none] [u,v,w,x]:=fun h=>aO rfl rfl h rfl
theorem dO:C1 30 iY [some u,none,none] [u]:=fun h=>aO rfl rfl h rfl
theorem py:C1 31 iZ [some u,some v,some w,some x,none,none,none,none,none] [u,v,w,x]:=fun h=>aO rfl rfl h rfl
theorem tL:C1 50 l6 [some u,some v,none,none,none,none] [u,v]:=fun h=>aO rfl rfl h rfl
theorem d9:C1 51 d6 [some u,some v,some w,some x,some y,some z] [u,v,w,x,y,z]:=fun h=>aO rfl rfl h rfl
theorem tN:C1 52 gZ [some u,some v,some w,none,none,none,none,none,none,none,none,none,none,none] [u,v,w]:=fun h=>aO rfl rfl h rfl
theorem mj:C1 1005 mc [some u,some v,some w] [u,v,w]:=fun h=>aO rfl rfl h rfl
theorem jh:C1 1006 eZ [some u,some v,some w,some x,none,none,none] [u,v,w,x]:=fun h=>aO rfl rfl h rfl
theorem oN:C1 1007 hH [some u,some v] [u,v]:=fun h=>aO rfl rfl h rfl
theorem mE:C1 1008 gy [some u,some v] [u,v]:=fun h=>aO rfl rfl h rfl
theorem lK:C1 1009 fU [some u] [u]:=fun h=>aO rfl rfl h rfl
theorem qG:R1 34 jM [some u,none,none,none,none,none,none,none] [u]:=fun h=>dc rfl rfl h
theorem sy:R1 36 lY [some u,none,none,none,none,none,none,none] [u]:=fun h=>dc rfl rfl h
theorem Bn:R1 38 vE [some u,some v,none,none] [u,v]:=fun h=>dc rfl rfl h
theorem wQ:R1 39 pO [some u,some v,some w,none,none,none,none,none] [u,v,w]:=fun h=>dc rfl rfl h
theorem sx:R1 40 lU [some u,some v,none] [u,v]:=fun h=>dc rfl rfl h
theorem wP:R1 41 pN [some u,some v,none,none,none,none,none,none] [u,v]:=fun h=>dc rfl rfl h
theorem sB:R1 42 l0 [some u,some v,none,none,none] [u,v]:=fun h=>dc rfl rfl h
theorem yN:R1 43 sL [some u,some v,none,none,none,none,none,none,none] [u,v]:=fun h=>dc rfl rfl h
theorem nC:R1 17 g8 [some u,some v] [u,v]:=fun h=>dc rfl rfl h
theorem sE:R1 18 ma [some u,some v,none] [u,v]:=fun h=>dc rfl rfl h
theorem qJ:R1 19 jP [some u,none,none,none,none,none,none,none,none,none] [u]:=fun h=>dc rfl rfl h
theorem sD:R1 20 l9 [some u,some v,some w,some x,none,none,none,none,none] [u,v,w,x]:=fun h=>dc rfl rfl h
theorem ur:R1 23 nN [some u,some v] [u,v]:=fun h=>dc rfl rfl h
theorem sC:R1 24 l8 [some u,some v,some w,none,none,none] [u,v,w]:=fun h=>dc rfl rfl h
theorem nB:R1 25 gY [some u,some v,some w,some x,none,none,none,none,none,none] [u,v,w,x]:=fun h=>dc rfl rfl h
theorem qI:R1 47 eB [some u,some v,none,none,none,none] [u,v]:=fun h=>dc rfl rfl h
theorem qH:R1 48 jO [some u,some v,some w,some x,none,none,none,none,none,none] [u,v,w,x]:=fun h=>dc rfl rfl h
theorem nE:R1 1001 g9 [some u,some v,some w,none,none] [u,v,w]:=fun h=>dc rfl rfl h
theorem ut:R1 1002 nP [some u,none,none,none,none,none] [u]:=fun h=>dc rfl rfl h
theorem qK:R1 1003 jU [some u,some v,none,none,none,none] [u,v]:=fun h=>dc rfl rfl h
theorem gU:R1 1004 dR [some u,some v,some w,none,none] [u,v,w]:=fun h=>dc rfl rfl h
end
end Mine.L07
end
namespace Mine.L07
noncomputable section
open PySem
section
variable {b p m kn:T} {K:List Kn} {bg:Nat} {th:Kn->List Kn} {J:Sg}
def Fl (w:T)(found met:List Kn)(r:List (Option T)):aP:=some w::some (.lst (found.map aV))::some (lu met)::r
theorem ti {p:Prop} [Decidable p] (h:(!decide p)=true):¬p:=fun q=>by rw [decide_eq_true q] at h;cases h
theorem tj {p:Prop} [Decidable p] (h:(!decide p)=false):p:=by
 cases q:decide p with
 |true=>exact of_decide_eq_true q
 |false=>rw [q] at h;cases h
theorem e9 {a b:Nat}(h:a<=b)(hb:b<=1000):a < lim:=lt_of_le_of_lt (le_trans h hb) (by decide)
theorem zp {found met:List Kn}{st:List (Kn×Nat)}(hl:K.length<=1000)(D:rS th K found st met):met.length < lim:=by
 exact e9 (aS D.ndm D.sub) hl
theorem Ee {w:T}{f m:List Kn}{x3 x5 x6 x7:Option T}(S:List (Kn×Nat))(k:Kn)(n:Nat):(o1 (bX (Fl w f m [x3,some (.lst ((S++[(k,n)]).map C0)),x5,x6,x7]) 4) fun x=>o1 (f8 x) fun xs=>o1 xs.getLast? fun t=>o1 (oQ t) fun ts=>ew [5,6] ts (List.set (Fl w f m [x3,some (.lst ((S++[(k,n)]).map C0)),x5,x6,x7]) 4 (some (.lst xs.dropLast))))=some (Fl w f m [x3,some (.lst (S.map C0)),some (aV k),some (.int n),x7]):=by
 show (o1 ((S++[(k,n)]).map C0).getLast? fun t=>o1 (oQ t) fun ts=>ew [5,6] ts (List.set (Fl w f m [x3,some (.lst ((S++[(k,n)]).map C0)),x5,x6,x7]) 4 (some (.lst ((S++[(k,n)]).map C0).dropLast))))=_
 rw [map_append,map_cons,map_nil,getLast?_concat,dropLast_concat];rfl
theorem rT (met:List Kn):∀K:List Kn,eT th met K<=eT th [] K
 | []=>le_refl _
 |x::r=>by
  rw [kZ,kZ,if_neg (show x∉[] from fun h=>nomatch h)]
  refine add_le_add ?_ (rT met r)
  by_cases h:x∈met
  .rw [if_pos h];exact zero_le _
  .rw [if_neg h];exact le_refl _
inductive LI (W:T) (th:Kn->List Kn) (K:List Kn) (J:Sg):List Kn->aP->Sg->Prop
 |mk {pre found met:List Kn} {x3 x4 x5 x6 x7:Option T} (D:rS th K found [] met) (hm:∀x∈pre,x∈met):LI W th K J pre (Fl W found met [x3,x4,x5,x6,x7]) J
inductive LW (W:T) (th:Kn->List Kn) (K:List Kn) (J:Sg) (a:Kn) (pre:List Kn):List Kn×List (Kn×Nat)×List Kn->aP->Sg->Prop
 |mk {found:List Kn} {st:List (Kn×Nat)} {met:List Kn} {x5 x6 x7:Option T} (D:rS th K found st met) (hm:∀x∈pre,x∈met) (ha:a∈met):LW W th K J a pre (found,st,met) (Fl W found met [some (aV a),some (.lst (st.map C0)),x5,x6,x7]) J
theorem BO (hK:K.Nodup)(hK1:K.length<=1000)(hc:∀k∈K,∀y∈th k,y∈K)(hs:eT th [] K < 20000)(hw:∀k∈K,(th k).length<=1000)(n:Nat):ck (fun t J'=>J'=J/\∃L:List Kn,t=.lst (L.map aV)/\L.Nodup/\(∀x,x∈L↔x∈K)/\HI th L) (aw Ψ (n+1) 34 [fH b p m kn K bg th] J):=by
 refine qG ?_
 repeat (refine aH rfl ?_)
 refine td (e:=aV) (l:=K) (LI (fH b p m kn K bg th) th K J) ?_ ?_ (pre:=[]) rfl (.mk .nil fun _ h=>nomatch h)
 .rintro pre a suf _ _ hl @⟨found,met,x3,x4,x5,x6,x7,D,hm⟩ k hk
  refine d7 (iB met a) ?_
  refine fN (fun h=>?_) fun h=>?_
  .have ha:=ti h
   have hk1:a∈K:=by rw [hl];exact mem_append_right _ (.head _)
   refine d7 (jZ ha (zp hK1 D)) ?_
   repeat (refine o5 rfl ?_)
   refine k6 (S:=List Kn×List (Kn×Nat)×List Kn) (LW (fH b p m kn K bg th) th K J a pre) (fun s=>!s.2.1.isEmpty) (fun s=>eT th s.2.2 K+gk th s.2.1) ?_ ?_ ?_ (s:=(found,[(a,0)],met++[a])) ?_ ?_
   .rintro _ _ _ @⟨found,st,met,x5,x6,x7,D,hm,ha⟩ k hk
    exact d7 (EW.some (by decide) st) hk
   .rintro _ _ _ @⟨found,st,met,x5,x6,x7,D,hm,ha⟩ hg k hk
    rcases eq_nil_or_concat st with rfl | ⟨S,⟨kn,at_⟩,rfl⟩
    .cases hg
    rw [concat_eq_append] at D hk ⊢
    have D:rS th K found (S++[(kn,at_)]) met:=D
    have kK:kn∈K:=D.sub kn ((D.same kn).mpr (.inr (by rw [map_append];exact mem_append_right _ (.head _))))
    refine aH (Ee S kn at_) ?_
    have S1:gk th (S++[(kn,at_)])=gk th S+((th kn).length - at_+1):=jG _ _
    have tk1:at_<=(th kn).length:=(D.take (kn,at_) (mem_append_right _ (.head _))).1
    have fl:found.length < lim:=e9 (aS (aG D.nd).1 fun x hx=>D.sub x ((D.same x).mpr (.inl hx))) hK1
    have sl:S.length+2 < lim:=by
     have:=aS (aG D.nd).2.1 fun x hx=>D.sub x ((D.same x).mpr (.inr hx))
     rw [length_map,List.length_append] at this
     exact lt_of_le_of_lt (succ_le_succ (le_trans this hK1)) (by decide)
    refine d7 (cg.get kK) ?_
    refine aH rfl ?_
    refine aH (ik _ _) ?_
    refine fN (fun h=>?_) fun h=>?_
    .have e:at_=(th kn).length:=by
      have:=of_decide_eq_true h
      rw [length_map] at this;exact ofNat.inj this
     refine d7 (cO kn fl) ?_
     refine hk (found++[kn],S,met) _ _ ?_ ⟨D.leave e,hm,ha⟩
     show eT th met K+gk th S < eT th met K+gk th (S++[(kn,at_)])
     rw [S1];exact Nat.add_lt_add_left (Nat.lt_add_of_pos_right (succ_pos _)) _
    .have e:at_ < (th kn).length:=by
      have:=of_decide_eq_false h
      rw [length_map] at this;exact Nat.lt_of_le_of_ne tk1 fun q=>this (congrArg ofNat q)
     have ty:(th kn)[at_]?=some (th kn)[at_]:=getElem?_eq_getElem e
     have yK:=hc kn kK _ (getElem_mem e)
     have tl:at_<=lim:=le_of_lt (e9 tk1 (hw kn kK))
     generalize (th kn)[at_]=y at ty yK
     have S2:gk th (S++[(kn,at_+1)])=gk th S+((th kn).length - (at_+1)+1):=jG _ _
     refine d7 (cO (kn,at_+1) (lt_of_succ_lt (lt_of_succ_lt sl))) ?_
     refine d7 (cg.get kK) ?_
     refine d7 (bq ty tl) ?_
     refine d7 (iB met y) ?_
     refine fN (fun h=>?_) fun h=>?_
     .have hy:=ti h
      refine d7 (jZ hy (zp hK1 D)) ?_
      refine d7 (cO (y,0) (by rw [List.length_append];exact lt_of_succ_lt sl)) ?_
      refine hk (found,S++[(kn,at_+1)]++[(y,0)],met++[y]) _ _ ?_ ⟨D.push ty yK hy,fun x hx=>mem_append_left _ (hm x hx),mem_append_left _ ha⟩
      show eT th (met++[y]) K+gk th (S++[(kn,at_+1)]++[(y,0)]) < eT th met K+gk th (S++[(kn,at_)])
      have:=kY (th:=th) hy yK
      have S3:gk th (S++[(kn,at_+1)]++[(y,0)])=gk th (S++[(kn,at_+1)])+((th y).length - 0+1):=jG _ _
      have q:(th kn).length - at_=(th kn).length - (at_+1)+1:=(Nat.succ_pred_eq_of_pos (sub_pos_of_lt e)).symm
      rw [S3,S2,S1,q,Nat.sub_zero]
      generalize (th kn).length - (at_+1)=c
      lia
     .refine hk (found,S++[(kn,at_+1)],met) _ _ ?_ ⟨D.on ty (tj h),hm,ha⟩
      show eT th met K+gk th (S++[(kn,at_+1)]) < eT th met K+gk th (S++[(kn,at_)])
      have q:(th kn).length - at_=(th kn).length - (at_+1)+1:=(Nat.succ_pred_eq_of_pos (sub_pos_of_lt e)).symm
      rw [S2,S1,q];exact Nat.add_lt_add_left (Nat.add_lt_add_left (lt_succ_self _) _) _
   .rintro _ _ _ @⟨found,st,met,x5,x6,x7,D,hm,ha⟩ hg
    cases st with
    |cons=>cases hg
    |nil=>
     refine hk _ _ (.mk D fun x hx=>?_)
     rcases ai hx with hx |hx
     .exact hm x hx
     .rw [aa hx];exact ha
   .show eT th (met++[a]) K+((th a).length - 0+1+0) < 20000
    exact lt_trans (lt_of_lt_of_le (lt_of_lt_of_le (lt_succ_self (eT th (met++[a]) K+((th a).length+1))) (kY (th:=th) ha hk1)) (rT (th:=th) met K)) hs
   .exact ⟨D.start hk1 ha,fun x hx=>mem_append_left _ (hm x hx),mem_append_right _ (.head _)⟩
  .have ha:=tj h
   refine hk _ _ (.mk D fun x hx=>?_)
   rcases ai hx with hx |hx
   .exact hm x hx
   .rw [aa hx];exact ha
 .rintro _ _ @⟨found,met,x3,x4,x5,x6,x7,D,hm⟩
  repeat (refine o5 rfl ?_)
  refine cT ⟨rfl,found,rfl,?_,fun x=>?_,D.ord⟩
  .have:=D.nd;rw [map_nil,append_nil] at this;exact this
  .have:=D.same x
   simp only [map_nil,not_mem_nil,or_false] at this
   rw [<-this];exact ⟨D.sub x,hm x⟩
end
section
variable {b p m kn:T} {K:List Kn} {bg:Nat} {th:Kn->List Kn} {J:Sg}
def xS (C:List Kn):T:=.lst (C.map aV)
theorem BS {w t:T}(h:zu w=some t)(n:Nat):aw Ψ (n+1) 35 [w] J=.ret t J:=by
 refine uX ?_
 show (match zu w with |some t=>cj.ret t J |none=>cj.bad)=_
 rw [h]
abbrev cF (W:T)(bk:Kn->List Kn)(K m:List Kn)(Cs:List (List Kn))(x4 x5 x6 x7:Option T):aP:=[some W,some (.dct (K.map aV) (K.map fun k=>.lst ((bk k).map aV))),some (lu m),some (.lst (Cs.map xS)),x4,x5,x6,x7]
inductive CI (W:T) (bk th:Kn->List Kn) (K:List Kn) (J:Sg):List Kn->aP->Sg->Prop
 |mk {pre:List Kn} {Cs:List (List Kn)} {x4 x5 x6 x7:Option T} (HHH:xW th K Cs) (hp:∀x∈pre,x∈Cs.flatten):CI W bk th K J pre (cF W bk K Cs.flatten Cs x4 x5 x6 x7) J
inductive CW (W:T) (bk th:Kn->List Kn) (K:List Kn) (J:Sg) (a:Kn) (Cs:List (List Kn)):List Kn×Nat->aP->Sg->Prop
 |mk {C:List Kn} {i:Nat} {x7:Option T} (c:DK th K Cs.flatten a C) (hi:i<=C.length) (hd:∀j c,j < i->C[j]?=some c->∀x∈K,c∈th x->x∈Cs.flatten++C):CW W bk th K J a Cs (C,i) (cF W bk K (Cs.flatten++C) Cs (some (aV a)) (some (.lst (C.map aV))) (some (.int i)) x7) J
inductive CX (W:T) (bk th:Kn->List Kn) (K:List Kn) (J:Sg) (a y:Kn) (i:Nat) (Cs:List (List Kn)):List Kn->aP->Sg->Prop
 |mk {pre D:List Kn} {x7:Option T} (c:DK th K Cs.flatten a D) (hy:D[i]?=some y) (hd:∀j c,j < i->D[j]?=some c->∀x∈K,c∈th x->x∈Cs.flatten++D) (hp:∀x∈pre,x∈Cs.flatten++D):CX W bk th K J a y i Cs pre (cF W bk K (Cs.flatten++D) Cs (some (aV a)) (some (.lst (D.map aV))) (some (.int i)) x7) J
theorem xz (hK:K.Nodup)(hK1:K.length<=300)(hc:∀k∈K,∀y∈th k,y∈K)(hs:eT th [] K < 20000)(hw:∀k∈K,(th k).length<=1000)(n:Nat):ck (fun t J'=>J'=J/\∃Cs:List (List Kn),t=.lst (Cs.map xS)/\xW th K Cs/\∀x∈K,x∈Cs.flatten) (aw Ψ (n+2) 36 [fH b p m kn K bg th] J):=by
 obtain ⟨bk,hb1,hb2⟩:=BR (b:=b) (p:=p) (m:=m) (kn:=kn) (bg:=bg) hK (le_trans hK1 (by decide)) hc hw
 refine sy ?_
 repeat (refine o5 rfl ?_)
 refine jX (BS hb1 n) ?_
 repeat (refine o5 rfl ?_)
 refine b9 (BO hK (le_trans hK1 (by decide)) hc hs hw n) ?_
 rintro _ J ⟨rfl,L,rfl,ln,lm,lo⟩
 refine aH rfl ?_
 rw [<-List.map_reverse]
 refine aH rfl ?_
 refine td (e:=aV) (l:=L.reverse) (CI (fH b p m kn K bg th) bk th K J) ?_ ?_ (pre:=[]) rfl (.mk (Cs:=[]) .nil fun _ h=>nomatch h)
 .rintro pre a suf _ _ hl @⟨Cs,x4,x5,x6,x7,HHH,hp⟩ k hk
  have hL:L=suf.reverse++a::pre.reverse:=by
   rw [<-List.reverse_reverse L,hl,List.reverse_append,List.reverse_cons,List.append_assoc];rfl
  have aK:a∈K:=(lm a).mp (by rw [hL];exact mem_append_right _ (.head _))
  have fl:=aS HHH.nd HHH.sub
  have cl:∀C:List Kn,(∀x∈C,x∈Cs.flatten++C):=fun C x h=>mem_append_right _ h
  have nCs:Cs.length<=300:=by
   have:∀Ds:List (List Kn),(∀C∈Ds,C≠[])->Ds.length<=Ds.flatten.length:=fun Ds=>by
    induction Ds with
    |nil=>exact fun _=>le_refl _
    |cons D Ds ih=>
     intro h
     rw [flatten_cons,List.length_append,add_comm];exact add_le_add (ih fun C hC=>h C (.tail _ hC)) (List.length_pos_iff.mpr (h D (.head _)))
   exact le_trans (this Cs HHH.ne) (le_trans fl hK1)
  refine d7 (iB _ a) ?_
  refine fN (fun h=>?_) fun h=>?_
  .have ha:=ti h
   refine d7 (jZ ha (e9 fl (le_trans hK1 (by decide)))) ?_
   repeat (refine o5 rfl ?_)
   refine k6 (S:=List Kn×Nat) (CW (fH b p m kn K bg th) bk th K J a Cs) (fun s=>decide ((s.2:Int) < ((s.1.map aV).length:Int))) (fun s=>350 - s.2) ?_ ?_ ?_ (s:=([a],0)) (show 350 - 0 < 400 by decide) (.mk (.start HHH.nd aK ha) (zero_le _) fun i c h=>absurd h (not_lt_zero _))
   .rintro _ _ _ @⟨C,i,x7,c,hi,hd⟩ k hk
    repeat (refine o5 rfl ?_)
    refine aH rfl ?_
    exact aH rfl hk
   .rintro _ _ _ @⟨C,i,x7,c,hi,hd⟩ hg k hk
    have hi:i < C.length:=by have:=of_decide_eq_true hg;rw [length_map] at this;exact ofNat_lt.mp this
    have cK:=aS c.nd fun x hx=>(ai hx).elim (HHH.sub x) (c.sub x)
    rw [List.length_append] at cK
    have hC:C[i]?=some C[i]:=getElem?_eq_getElem hi
    have cm:C[i]∈C:=getElem_mem hi
    generalize C[i]=y at hC cm
    refine d7 (bq hC (le_of_lt (e9 (le_trans (le_of_lt hi) (le_trans (le_add_left _ _) cK)) (le_trans hK1 (by decide))))) ?_
    refine aH (cg.get (c.sub y cm)) ?_
    refine aH rfl ?_
    refine td (e:=aV) (l:=bk y) (CX (fH b p m kn K bg th) bk th K J a y i Cs) ?_ ?_ (pre:=[]) rfl (.mk c hC hd fun _ h=>nomatch h)
    .rintro pre o suf _ _ hl @⟨D,x7,c,hy,hd,hp⟩ k hk
     have ho:=(hb2 y o).mp (by rw [hl];exact mem_append_right _ (.head _))
     have cK:=aS c.nd fun x hx=>(ai hx).elim (HHH.sub x) (c.sub x)
     have ml:(Cs.flatten++D).length < lim:=e9 cK (le_trans hK1 (by decide))
     have dl:D.length < lim:=lt_of_le_of_lt (by rw [List.length_append];exact le_add_left _ _) ml
     have ym:y∈D:=mem_of_getElem? hy
     refine d7 (iB _ o) ?_
     refine fN (fun h=>?_) fun h=>?_
     .have no:=ti h
      refine d7 (jZ no ml) ?_
      refine d7 (cO o dl) ?_
      rw [List.append_assoc]
      refine hk _ _ (.mk (D:=D++[o]) (c.push no ho.1 ym ho.2) ?_ (fun j z hj hz x hx e=>?_) fun x hx=>?_)
      .rw [getElem?_append_left (ak hy).1];exact hy
      .rw [getElem?_append_left (lt_trans hj (ak hy).1)] at hz
       rw [<-List.append_assoc];exact mem_append_left _ (hd j z hj hz x hx e)
      .rw [<-List.append_assoc]
       rcases ai hx with hx |hx
       .exact mem_append_left _ (hp x hx)
       .exact mem_append_right _ hx
     .refine hk _ _ (.mk c hy hd fun x hx=>?_)
      rcases ai hx with hx |hx
      .exact hp x hx
      .rw [aa hx];exact tj h
    .rintro _ _ @⟨D,x7,c,hy,hd,hp⟩
     have li:=(ak hy).1
     repeat (refine o5 rfl ?_)
     refine aH rfl ?_
     refine hk (D,i+1) _ _ (show 350 - (i+1) < 350 - i by lia) (.mk c li fun j z hj hz x hx e=>?_)
     rcases Nat.lt_succ_iff_lt_or_eq.mp hj with hj |rfl
     .exact hd j z hj hz x hx e
     .rw [show D[j]?=some y from hy] at hz;cases hz
      exact hp x ((hb2 y x).mpr ⟨hx,e⟩)
   .rintro _ _ _ @⟨C,i,x7,c,hi,hd⟩ hg
    have hi:C.length<=i:=by have:=of_decide_eq_false hg;rw [length_map] at this;exact Nat.le_of_not_lt fun h=>this (bN h)
    refine d7 (cO (e:=xS) C (by exact lt_of_le_of_lt (by assumption) (by decide))) ?_
    refine (fun h1 h2=>by have:=CI.mk (W:=fH b p m kn K bg th) (bk:=bk) (J:=J) (pre:=pre++[a]) (Cs:=Cs++[C]) (x4:=some (aV a)) (x5:=some (.lst (C.map aV))) (x6:=some (.int i)) (x7:=x7) (HHH.add lo ln (fun x hx=>(lm x).mpr hx) hL (fun x hx=>hp x (List.mem_reverse.mp hx)) c h1) h2;rw [cW] at this;exact hk _ _ this) (fun z hz x hx e=>?_) (fun x hx=>?_)
    .obtain ⟨j,hj⟩:=getElem?_of_mem hz
     exact hd j z (lt_of_lt_of_le (ak hj).1 hi) hj x hx e
    .rw [cW]
     rcases ai hx with hx |hx
     .exact mem_append_left _ (hp x hx)
     .rw [aa hx];exact mem_append_right _ c.hd
  .refine hk _ _ (.mk HHH fun x hx=>?_)
   rcases ai hx with hx |hx
   .exact hp x hx
   .rw [aa hx];exact tj h
 .rintro _ _ @⟨Cs,x4,x5,x6,x7,HHH,hp⟩
  repeat (refine o5 rfl ?_)
  exact cT ⟨rfl,Cs,rfl,HHH,fun x hx=>hp x (List.mem_reverse.mpr ((lm x).mpr hx))⟩
end
section
variable {b p m kn:T} {K:List Kn} {bg:Nat} {th:Kn->List Kn} {J:Sg}
def Ik:Option Kn->T
 |none=>.none
 |some k=>aV k
def i4 (l:List Kn)(f:Kn->Option Kn):T:=.dct (l.map aV) (l.map fun k=>Ik (f k))
inductive BI (l:List Kn) (f:Kn->Option Kn) (P:List Kn) (J:Sg):Option Kn×List Kn×List Kn->aP->Sg->Prop
 |done:BI l f P J (none,P,[]) [some (i4 l f),some .none,some (.lst (P.map aV))] J
 |more {y:Kn} {fo re:List Kn} (hb:lQ f y re) (e:fo++re=P):BI l f P J (some y,fo,re) [some (i4 l f),some (aV y),some (.lst (fo.map aV))] J
theorem CJ {l:List Kn}{f:Kn->Option Kn}{x:Kn}{P:List Kn}(hB:lQ f x P)(hs:∀y∈P,y∈l)(hl:P.length<=300)(n:Nat):ck (fun t J'=>J'=J/\t=.lst (P.reverse.map aV)) (aw Ψ (n+1) 40 [i4 l f,aV x] J):=by
 refine sx ?_
 refine k6 (S:=Option Kn×List Kn×List Kn) (BI l f P J) (fun s=>s.1.isSome) (fun s=>s.2.2.length) ?_ ?_ ?_ (s:=(some x,[],P)) (lt_of_le_of_lt hl (by decide:300 < 400)) (.more hB rfl)
 .rintro _ _ _ (_ |_) k hk
  .exact aH rfl (aH rfl hk)
  .exact aH rfl (aH rfl hk)
 .rintro _ _ _ (_ | @⟨y,fo,re,hb,e⟩) hg k hk
  .cases hg
  .have fl:fo.length < lim:=by have:=congrArg List.length e;rw [List.length_append] at this;exact e9 (this▸le_add_right _ _) (le_trans hl (by decide))
   have yl:=hs y (by rw [<-e];cases hb<;>exact mem_append_right _ (.head _))
   refine d7 (cO y fl) (d7 (cg.get yl) ?_)
   cases hb with
   |nil e1=>rw [e1,e];exact hk (none,P,[]) _ _ Nat.zero_lt_one .done
   | @cons _ z q e1 hb=>rw [e1];exact hk (some z,fo++[y],q) _ _ (lt_succ_self _) (.more hb (by rw [List.append_assoc];exact e))
 .rintro _ _ _ (_ |_) hg
  .exact aH rfl (aH rfl (cT ⟨rfl,by rw [List.map_reverse]⟩))
  .cases hg
theorem An {l:List Kn}{f:Kn->Option Kn}{y here:Kn}(hy:y∉l)(hl:l.length < lim):d5 (i4 l f) (aV y) (aV here)=some (i4 (l++[y]) fun x=>if x=y then some here else f x):=by
 rw [i4,cg.put hy hl,i4,map_append (f:=fun k=>Ik _)]
 refine congrArg some (congrArg (T.dct _) ?_)
 refine congr (congrArg _ (map_congr_left fun k hk=>?_)) ?_
 .rw [if_neg fun (e:k=y)=>hy (e▸hk)]
 .show _=[Ik (if y=y then some here else f y)]
  rw [if_pos rfl];rfl
theorem lJ {v:T}:∀(l us:List Kn) (vs:List T),(us++l).Nodup->oq (l.map fun k=>.tup [aV k,v]) (us.map aV) vs=some ((us++l).map aV,vs++l.map fun _=>v)
 | [],us,vs,_=>by
  rw [append_nil]
  show some (us.map aV,vs)=some (us.map aV,vs++[])
  rw [append_nil]
 |k::l,us,vs,h=>by
  have hk:k∉us:=fun q=>(aG h).2.2 k q k (.head _) rfl
  show o1 (kU (us.map aV) (aV k)) _=_
  rw [cg.fd,if_neg hk]
  show oq (l.map fun k=>.tup [aV k,v]) (us.map aV++[aV k]) (vs++[v])=_
  have:=lJ (v:=v) l (us++[k]) (vs++[v]) (by rw [List.append_assoc];exact h)
  rw [map_append] at this
  rw [show us.map aV++[aV k]=us.map aV++[k].map aV from rfl,this,List.append_assoc,List.append_assoc];rfl
theorem Bp {w s g c:T}{here:Kn}{ws:List Kn}{x5 x6 x7:Option T}:(o1 (bX [some w,some s,some g,some c,some (.lst ((here::ws).map aV)),x5,x6,x7] 4) fun x=>o1 (f8 x) fun xs=>o1 xs.head? fun y=>some ((List.set [some w,some s,some g,some c,some (.lst ((here::ws).map aV)),x5,x6,x7] 4 (some (.lst xs.tail))).set 5 (some y)))=some [some w,some s,some g,some c,some (.lst (ws.map aV)),some (aV here),x6,x7]:=rfl
abbrev pF (W:T)(starts goals l w:List Kn)(f:Kn->Option Kn)(x5 x6 x7:Option T):aP:=[some W,some (.lst (starts.map aV)),some (.lst (goals.map aV)),some (i4 l f),some (.lst (w.map aV)),x5,x6,x7]
inductive PW (W:T) (th:Kn->List Kn) (K starts goals:List Kn) (J:Sg):List Kn×List Kn×(Kn->Option Kn)->aP->Sg->Prop
 |mk {dn wt:List Kn} {f:Kn->Option Kn} {x5 x6 x7:Option T} (B:ud th K starts goals dn wt f):PW W th K starts goals J (dn,wt,f) (pF W starts goals (dn++wt) wt f x5 x6 x7) J
inductive PI (W:T) (th:Kn->List Kn) (K starts goals:List Kn) (J:Sg) (dn:List Kn) (here:Kn):List Kn->aP->Sg->Prop
 |mk {pre w:List Kn} {f:Kn->Option Kn} {x6 x7:Option T} (B:ud th K starts goals dn (here::w) f) (hp:∀x∈pre,x∈dn++here::w):PI W th K starts goals J dn here pre (pF W starts goals (dn++here::w) w f (some (aV here)) x6 x7) J
theorem qL {starts goals:List Kn}(hK1:K.length<=300)(hc:∀k∈K,∀y∈th k,y∈K)(hn:starts.Nodup)(hs:∀x∈starts,x∈K)(n:Nat):ck (fun t J'=>J'=J/\∃P:List Kn,t=.lst (P.map aV)/\((∃g∈goals,CP th K starts g P)\/(P=[]/\∀s∈starts,∀g∈goals,¬lP th s g))) (aw Ψ (n+2) 39 [fH b p m kn K bg th,.lst (starts.map aV),.lst (goals.map aV)] J):=by
 refine wQ ?_
 repeat (refine o5 rfl ?_)
 refine aH rfl ?_
 refine gt (e:=aV) (l:=starts) (fun k=>.tup [aV k,.none]) (fun a _=>⟨_,rfl,fun k=>by with_unfolding_all rfl⟩) ?_
 refine aH (a:=i4 starts fun _=>none) ?_ ?_
 .show o1 (oq (starts.map fun k=>.tup [aV k,.none]) ([].map aV) []) _=_
  rw [lJ starts [] [] hn];rfl
 repeat (refine o5 rfl ?_)
 refine aH rfl ?_
 refine k6 (S:=List Kn×List Kn×(Kn->Option Kn)) (PW (fH b p m kn K bg th) th K starts goals J) (fun s=>!s.2.1.isEmpty) (fun s=>350 - s.1.length) ?_ ?_ ?_ (s:=([],starts,fun _=>none)) (show 350 - 0 < 400 by decide) (.mk (.start hn hs))
 .rintro _ _ _ @⟨dn,wt,f,x5,x6,x7,B⟩ k hk
  exact d7 (jd.some (by decide) wt) hk
 .rintro _ _ _ @⟨dn,wt,f,x5,x6,x7,B⟩ hg k hk
  cases wt with
  |nil=>cases hg
  |cons here ws=>
   have B:ud th K starts goals dn (here::ws) f:=B
   have hm:here∈dn++here::ws:=mem_append_right _ (.head _)
   have hK:=B.sub here hm
   have ll:=aS B.nd B.sub
   rw [List.length_append,length_cons] at ll
   refine aH Bp ?_
   refine d7 (jd.mem (by decide) (l:=goals) trivial (fun _ _=>trivial) rfl) ?_
   refine fN (fun h=>?_) fun h=>?_
   .obtain ⟨P,h1,h2,h3⟩:=B.way hm
    repeat (refine o5 rfl ?_)
    refine b9 (CJ h1 h2 (by have:=h3.len;rw [length_reverse] at this;exact le_trans this hK1) n) ?_
    rintro _ J ⟨rfl,rfl⟩
    exact cT ⟨rfl,P.reverse,rfl,.inl ⟨here,of_decide_eq_true h,h3⟩⟩
   .repeat (refine o5 rfl ?_)
    refine d7 (cg.get hK) ?_
    refine aH rfl ?_
    refine td (e:=aV) (l:=th here) (PI (fH b p m kn K bg th) th K starts goals J dn here) ?_ ?_ (pre:=[]) rfl (.mk B fun _ h=>nomatch h)
    .rintro pre o suf _ _ hl @⟨w,f,x6,x7,B,hp⟩ k hk
     have ho:o∈th here:=by rw [hl];exact mem_append_right _ (.head _)
     have ll:=aS B.nd B.sub
     have wl:w.length < lim:=e9 (le_trans (by rw [List.length_append];exact le_trans (le_succ _) (le_add_left _ _)) ll) (le_trans hK1 (by decide))
     repeat (refine o5 rfl ?_)
     refine aH (a:=!decide (o∈dn++here::w)) ?_ ?_
     .show (AR _ _).map _=_
      rw [i4,cg.has];rfl
     refine fN (fun h=>?_) fun h=>?_
     .have no:=ti h
      repeat (refine o5 rfl ?_)
      refine aH (An no (e9 ll (le_trans hK1 (by decide)))) ?_
      refine d7 (cO o wl) ?_
      have e:(dn++here::w)++[o]=dn++here::(w++[o]):=by rw [List.append_assoc];rfl
      rw [e]
      refine hk _ _ (.mk (w:=w++[o]) (B.push (mem_append_right _ (.head _)) ho (hc here hK o ho) no) fun x hx=>?_)
      rw [<-e]
      rcases ai hx with hx |hx
      .exact mem_append_left _ (hp x hx)
      .exact mem_append_right _ hx
     .refine hk _ _ (.mk B fun x hx=>?_)
      rcases ai hx with hx |hx
      .exact hp x hx
      .rw [aa hx];exact tj h
    .rintro _ _ @⟨w,f,x6,x7,B,hp⟩
     have e:(dn++[here])++w=dn++here::w:=by rw [List.append_assoc];rfl
     refine hk (dn++[here],w,f) _ _ ?_ (by rw [<-e];exact .mk (B.done (of_decide_eq_false h) hp))
     show 350 - (dn++[here]).length < 350 - dn.length
     rw [List.length_append,length_cons,length_nil];lia
 .rintro _ _ _ @⟨dn,wt,f,x5,x6,x7,B⟩ hg
  cases wt with
  |cons=>cases hg
  |nil=>exact cT ⟨rfl,[],rfl,.inr ⟨rfl,fun s hs g hg r=>B.none hs hg r⟩⟩
end
section
variable {b m kn:T} {ps:List T} {K:List Kn} {bg:Nat} {th:Kn->List Kn} {J:Sg} {mt:Kn->Nat->Bool}
theorem yf {C:List Kn}(hC:∀x∈C,x∈K)(hp:ps.length<=1000){n:Nat}(hm:∀k∈K,∀j,j < ps.length->aw Ψ n 1005 [fH b (.lst ps) m kn K bg th,aV k,.int j] J=.ret (.bool (mt k j)) J):
  ck (fun t J'=>J'=J/\((t=.none/\∀j,j < ps.length->∃k∈C,mt k j=true)\/∃j:Nat,j < ps.length/\t=.int j/\∀k∈C,mt k j=false)) (aw Ψ (n+1) 38 [fH b (.lst ps) m kn K bg th,.lst (C.map aV)] J):=by
 refine Bn ?_
 repeat (refine o5 rfl ?_)
 refine aH rfl ?_
 refine aH rfl ?_
 refine aH (gQ (le_trans hp (by decide))) ?_
 refine td (e:=fun j:Nat=>T.int j) (l:=List.range ps.length) (fun pre V J'=>J'=J/\(∃x2,V=[some (fH b (.lst ps) m kn K bg th),some (.lst (C.map aV)),x2,none])/\∀j∈pre,∃k∈C,mt k j=true) ?_ ?_ (pre:=[]) rfl ⟨rfl,⟨_,rfl⟩,fun _ h=>nomatch h⟩
 .rintro pre j suf _ J hl ⟨rfl,⟨x2,rfl⟩,h⟩ k hk
  have hj:j < ps.length:=bh (by rw [hl];exact mem_append_right _ (.head _))
  repeat (refine o5 rfl ?_)
  refine aH rfl ?_
  refine gt (e:=aV) (l:=C) (fun k=>.bool (mt k j)) (fun a ha=>⟨_,rfl,fun k=>?_⟩) ?_
  .exact af rfl (af rfl (af rfl (az (hm a (hC a ha) j hj) rfl)))
  refine aH (a:=.bool (C.any fun k=>mt k j)) ?_ ?_
  .exact any_map C _
  refine aH rfl ?_
  refine fN (fun q=>?_) fun q=>?_
  .have q:(C.any fun k=>mt k j)=false:=by cases e:C.any fun k=>mt k j<;>rw [e] at q<;>first |rfl |cases q
   repeat (refine o5 rfl ?_)
   refine cT ⟨rfl,.inr ⟨j,hj,rfl,fun x hx=>?_⟩⟩
   rw [List.any_eq_false] at q
   exact Bool.eq_false_iff.mpr (q x hx)
  .have q:(C.any fun k=>mt k j)=true:=by cases e:C.any fun k=>mt k j<;>rw [e] at q<;>first |rfl |cases q
   refine hk _ _ ⟨rfl,⟨_,rfl⟩,fun i hi=>?_⟩
   rcases ai hi with hi |hi
   .exact h i hi
   .rw [aa hi];exact any_eq_true.mp q
 .rintro _ J ⟨rfl,⟨x2,rfl⟩,h⟩
  exact cT ⟨rfl,.inl ⟨rfl,fun j hj=>h j (bJ hj)⟩⟩
theorem yJ {p:T}{c0:Kn}{r:List Kn}(h0:c0∈K)(n:Nat):aw Ψ (n+1) 37 [fH b p m kn K bg th,.lst ((c0::r).map aV)] J=.ret (.bool (!r.isEmpty||decide (c0∈th c0))) J:=by
 refine rF ?_
 refine af rfl (af rfl (af (a:=!r.isEmpty) ?_ ?_))
 .show some (decide ((((c0::r).map aV).length:Int) > 1))=_
  cases r with
  |nil=>rfl
  |cons d r=>exact congrArg some (decide_eq_true (by rw [length_map,length_cons,length_cons];lia -abstractProof))
 .cases r with
  |cons=>rfl
  |nil=>
   refine af rfl (af (bq (i:=0) rfl (zero_le _)) (af rfl (af rfl (af rfl (af (bq (i:=0) rfl (zero_le _)) (af (cg.get h0) (af (jd.mem (by decide) (l:=th c0) trivial (fun _ _=>trivial) rfl) rfl)))))))
end
section
variable {b m kn:T} {ps:List T} {K:List Kn} {bg:Nat} {th:Kn->List Kn} {J:Sg} {mt:Kn->Nat->Bool}
theorem eN {α:Type}{e:α->T}{l q:List α}(h:l.length+q.length<=lim):bw (.lst (l.map e)) (.lst (q.map e))=some (.lst ((l++q).map e)):=by
 show mi _ _=_
 rw [<-map_append,length_map,List.length_append,mi,show bS (l.length+q.length)=true from ble_eq_true_of_le h];rfl
theorem fw {α:Type}{e:α->T}{l q:List α}{lo hi:Option Int}(h:cut lo hi l=q):bR (.lst (l.map e)) lo hi=some (.lst (q.map e)):=by
 rw [vq]
 show some (T.lst (cut lo hi (l.map e)))=_
 rw [wd,h]
theorem zR {α:Type}{e:α->T}(F:List α)(z:α):aL (.lst ((F++[z]).map e)) (.int (-1))=some (e z):=by
 have h:seqIndex? (-1) ((F++[z]).map e).length=some F.length:=by
  rw [length_map,List.length_append]
  show (if (decide (0<=(if (-1:Int) < 0 then -1+((F.length+1:Nat):Int) else -1))&&decide ((if (-1:Int) < 0 then -1+((F.length+1:Nat):Int) else -1) < ((F.length+1:Nat):Int)))=true then some (if (-1:Int) < 0 then -1+((F.length+1:Nat):Int) else -1).toNat else none)=_
  rw [if_pos (show (-1:Int) < 0 by decide),show (-1:Int)+((F.length+1:Nat):Int)=F.length from (Int.add_comm _ _).trans (Int.add_sub_cancel (F.length:Int) 1),decide_eq_true (natCast_nonneg _),decide_eq_true (bN (lt_succ_self _))];rfl
 rw [vW,AS,show sm (-1)=true from rfl,cond_true,h,Dc,getElem?_map,getElem?_append_right (le_refl _),sub_self];rfl
theorem yL {c0 z:Kn}{r F:List Kn}{w:T}(hw:w=fH b (.lst ps) m kn K bg th)(hK1:K.length<=300)(hc:∀k∈K,∀y∈th k,y∈K)(hn:∀k∈K,(th k).Nodup)(hC:∀x∈c0::r,x∈K)(scc:∀x∈c0::r,∀y∈c0::r,lP th x y)(hs:∀u∈c0::r,∃s∈th u,s∈c0::r)
  (hz:z∈c0::r)(hlen:(F++[z]).length<=4000){Q:T->Sg->Prop}(hQ:∀P:List Kn,CP th K ((th z).filter fun k=>decide (k∈c0::r)) c0 P->Q (.lst ((F++[z]++P.dropLast).map aV)) J){n:Nat}{x3 x4 x5:Option T}{k:PK aP}:
  ck Q (C7 ⟨aw Ψ (n+2)⟩ [some w,some (.lst ((c0::r).map aV)),some (.lst ((F++[z]).map aV)),x3,x4,x5,none,none] J k):=by
 have zK:=hC z hz
 repeat (refine o5 rfl ?_)
 refine aH (a:=T.dct (K.map aV) (K.map fun k=>.lst ((th k).map aV))) (by rw [hw];rfl) ?_
 refine d7 (zR F z) ?_
 refine aH (cg.get zK) ?_
 refine aH rfl ?_
 refine Aj (e:=aV) (l:=th z) (fun k=>decide (k∈c0::r)) aV (fun a ha=>⟨_,rfl,fun k=>?_,fun _ k=>by with_unfolding_all rfl⟩) ?_
 .exact af rfl (af rfl (af (jd.mem (by decide) (l:=c0::r) trivial (fun _ _=>trivial) rfl) rfl))
 refine d7 (fw (je 1 (c0::r))) ?_
 rw [hw]
 refine b9 (qL (starts:=(th z).filter fun k=>decide (k∈c0::r)) (goals:=[c0]) hK1 hc ((hn z zK).filter _) (fun x hx=>hC x (of_decide_eq_true (bu hx).2)) n) ?_
 rintro _ J ⟨rfl,P,rfl,h⟩
 obtain ⟨s,s1,s2⟩:=hs z hz
 have W:CP th K ((th z).filter fun k=>decide (k∈c0::r)) c0 P:=by
  rcases h with ⟨g,h1,h2⟩ | ⟨_,h⟩
  .cases aa h1;exact h2
  .exact absurd (scc s s2 c0 (.head _)) (h s (cM ⟨s1,decide_eq_true s2⟩) c0 (.head _))
 have dl:P.dropLast.length<=300:=le_trans (by rw [List.length_dropLast];exact sub_le _ _) (le_trans W.len hK1)
 refine d7 (fw (oy P)) ?_
 refine aH (eN (q:=P.dropLast) (le_trans (add_le_add hlen dl) (by decide))) ?_
 exact cT (hQ P W)
inductive I4 (W:T) (th:Kn->List Kn) (K:List Kn) (mt:Kn->Nat->Bool) (c0:Kn) (r:List Kn) (J:Sg):List Nat->aP->Sg->Prop
 |mk {pre:List Nat} {F:List Kn} {z:Kn} {x3 x4 x5:Option T} (hz:z∈c0::r) (hw:dT th (F++[z])) (hh:(F++[z]).head?=some c0) (hk1:∀x∈F++[z],x∈K) (hm1:∀j∈pre,∃x∈F++[z],mt x j=true) (hlen:(F++[z]).length<=1+pre.length * 127):
  I4 W th K mt c0 r J pre [some W,some (.lst ((c0::r).map aV)),some (.lst ((F++[z]).map aV)),x3,x4,x5,none,none] J
structure Rg (th:Kn->List Kn) (K:List Kn) (mt:Kn->Nat->Bool) (c0:Kn) (np:Nat) (R:List Kn):Prop where
 w:dT th R
 hd:R.head?=some c0
 la:∃z,R.getLast?=some z/\c0∈th z
 sub:∀x∈R,x∈K
 met:∀j,j < np->∃x∈R,mt x j=true
 len:R.length<=800
theorem Bl {c0:Kn}{r:List Kn}(hK2:K.length<=128)(hc:∀k∈K,∀y∈th k,y∈K)(hn:∀k∈K,(th k).Nodup)(hC:∀x∈c0::r,x∈K)(hp:ps.length<=5)(scc:∀x∈c0::r,∀y∈c0::r,lP th x y)(hs:∀u∈c0::r,∃s∈th u,s∈c0::r)(hmet:∀j,j < ps.length->∃k∈c0::r,mt k j=true)
  {n:Nat}(hm:∀k∈K,∀j,j < ps.length->aw Ψ (n+2) 1005 [fH b (.lst ps) m kn K bg th,aV k,.int j] J=.ret (.bool (mt k j)) J):
  ck (fun t J'=>J'=J/\∃R:List Kn,t=.lst (R.map aV)/\Rg th K mt c0 ps.length R) (aw Ψ (n+3) 41 [fH b (.lst ps) m kn K bg th,.lst ((c0::r).map aV)] J):=by
 have hK1:K.length<=300:=le_trans hK2 (by decide)
 refine wP ?_
 refine d7 (bq (i:=0) rfl (zero_le _)) (o8 rfl ?_)
 repeat (refine o5 rfl ?_)
 refine aH rfl ?_
 refine aH rfl ?_
 refine aH (gQ (le_trans hp (by decide))) ?_
 refine td (e:=fun j:Nat=>T.int j) (l:=List.range ps.length) (I4 (fH b (.lst ps) m kn K bg th) th K mt c0 r J) ?_ ?_ (pre:=[]) rfl (.mk (F:=[]) (z:=c0) (.head _) (.one _) rfl (fun x hx=>aa hx▸hC c0 (.head _)) (fun _ h=>nomatch h) (le_refl _))
 .rintro pre j suf _ _ hl @⟨F,z,x3,x4,x5,hz,hw,hh,hk1,hm1,hlen⟩ k hk
  have hj:j < ps.length:=bh (by rw [hl];exact mem_append_right _ (.head _))
  have prl:pre.length<=5:=by have:=congrArg List.length hl;rw [length_range,List.length_append] at this;exact le_trans (this▸le_add_right _ _) hp
  repeat (refine o5 rfl ?_)
  refine aH rfl ?_
  refine Aj (e:=aV) (l:=c0::r) (fun k=>mt k j) aV (fun a ha=>⟨_,rfl,fun k=>?_,fun _ k=>by with_unfolding_all rfl⟩) ?_
  .exact af rfl (af rfl (af rfl (az (hm a (hC a ha) j hj) (af rfl rfl))))
  refine d7 (fw (Ad F z)) ?_
  repeat (refine o5 rfl ?_)
  refine b9 (qL (starts:=[z]) (goals:=(c0::r).filter fun k=>mt k j) hK1 hc (by simp) (fun x hx=>aa hx▸hC z hz) n) ?_
  rintro _ J ⟨rfl,P,rfl,h⟩
  obtain ⟨g,hg,W⟩:∃g∈(c0::r).filter (fun k=>mt k j),CP th K [z] g P:=by
   rcases h with h | ⟨_,h⟩
   .exact h
   .obtain ⟨g,h1,h2⟩:=hmet j hj
    exact absurd (scc z hz g h1) (h z (.head _) g (cM ⟨h1,h2⟩))
  obtain ⟨a,ha,hz'⟩:=W.hd
  obtain rfl:=aa hz'
  cases P with
  |nil=>cases ha
  |cons q P=>
   cases ha
   have gC:=bu hg
   have pl:P.length<=127:=le_of_succ_le_succ (le_trans W.len hK2)
   have hlen':(F++[a]).length<=1+3000:=le_trans hlen (add_le_add_left (le_trans (mul_le_mul_right 127 prl) (by decide)) 1)
   refine d7 (fw (Ae (a::P))) ?_
   refine aH (eN (q:=P) (le_trans (add_le_add hlen' pl) (by decide))) ?_
   obtain ⟨F',e⟩:∃F',(F++[a])++P=F'++[g]:=by
    rcases eq_nil_or_concat P with rfl | ⟨P',y,rfl⟩
    .have:=W.lst;cases this;exact ⟨F,append_nil _⟩
    .rw [concat_eq_append] at W ⊢
     have:=W.lst
     rw [List.getLast?_cons,getLast?_concat] at this
     cases this
     exact ⟨F++[a]++P',(List.append_assoc _ _ _).symm⟩
   rw [e]
   refine hk _ _ (.mk gC.1 ?_ ?_ (fun x hx=>?_) (fun i hi=>?_) ?_)
   .rw [<-e]
    exact hw.app (W.walk.drop 1) fun u v hu hv=>by
     rw [getLast?_concat] at hu;cases hu
     exact W.walk 0 a v rfl (by rw [<-List.getElem?_drop (i:=1) (j:=0),<-List.head?_eq_getElem?];exact hv)
   .rw [<-e,head?_append,hh];rfl
   .rw [<-e] at hx
    exact (ai hx).elim (hk1 x) fun h=>W.sub x (.tail _ h)
   .rcases ai hi with hi |hi
    .obtain ⟨x,h1,h2⟩:=hm1 i hi
     exact ⟨x,by rw [<-e];exact mem_append_left _ h1,h2⟩
    .rw [aa hi]
     exact ⟨g,mem_append_right _ (.head _),gC.2⟩
   .rw [<-e,List.length_append,List.length_append (as:=pre)]
    exact le_trans (add_le_add hlen pl) (le_of_eq (by rw [length_singleton,Nat.succ_mul,add_assoc]))
 .rintro _ _ @⟨F,z,x3,x4,x5,hz,hw,hh,hk1,hm1,hlen⟩
  rw [length_range] at hlen
  refine yL rfl hK1 hc hn hC scc hs hz (le_trans hlen (le_trans (add_le_add_left (mul_le_mul_right 127 hp) 1) (by decide))) fun P W=>?_
  obtain ⟨h1,h2⟩:=hw.close W fun x hx=>(bu hx).1
  refine ⟨rfl,_,rfl,h1,?_,h2,fun x hx=>(ai hx).elim (hk1 x) fun h=>W.sub x (List.dropLast_subset _ h),fun j hj=>?_,?_⟩
  .rw [head?_append,hh];rfl
  .obtain ⟨x,h3,h4⟩:=hm1 j (bJ hj)
   exact ⟨x,mem_append_left _ h3,h4⟩
  .rw [List.length_append,List.length_dropLast]
   exact le_trans (add_le_add (le_trans hlen (add_le_add_left (mul_le_mul_right 127 hp) 1)) (le_trans (sub_le _ _) (le_trans W.len hK2))) (by decide)
end
end
end Mine.L07
namespace Mine.L07
noncomputable section
open PySem Ltl
section
variable {bs:List Sy} {g g':List Bool} {m m':Str} {J:Sg}
abbrev dH (bs:List Sy):T:=.lst (bs.map bo)
noncomputable abbrev gT (g:List Bool):T:=.tup (g.map .bool)
structure ue (bs:List Sy) (g:List Bool):Prop where
 dep:∀x∈bs,dep x<=40
 len:g.length=bs.length
 few:bs.length<=1000
theorem vV {α:Type}{e:α->T}{l:List α}{i:Nat}{a:α}(h:l[i]?=some a)(hi:i<=lim):aL (.tup (l.map e)) (.int i)=some (e a):=vb (e:=e) h hi
theorem vM {x:Sy}(B:ue bs g)(hx:x∈bs):g[bs.idxOf x]?=some (look bs g x):=by
 have h:bs.idxOf x < g.length:=by rw [B.len];exact List.idxOf_lt_length_iff.mpr hx
 rw [look,getElem?_eq_getElem h];rfl
theorem dj (B:ue bs g){x:Sy}(hx:x∈bs)(n:Nat):aw Ψ (n+1) 9 [bo x,dH bs,gT g] J=.ret (.bool (look bs g x)) J:=by
 refine xB ?_
 have h1:=(rt 40).idx (by decide) (B.dep x hx) B.dep hx
 have h2:=vV (e:=T.bool) (vM B hx) (le_trans (le_of_lt (List.idxOf_lt_length_iff.mpr hx)) (le_trans B.few (by decide)))
 show up (fM (dH bs) (bo x)) J (fun j J=>up (aL (gT g) j) J fun v J=>.ret v J)=_
 rw [h1]
 show up (aL (gT g) (.int (bs.idxOf x))) J (fun v J=>.ret v J)=_
 rw [h2];rfl
theorem FR {m:Str}{bs:List Sy}{g:List Bool}{a c:Sy}:so m bs g (.and a c)=(so m bs g a&&so m bs g c):=rfl
theorem FQ {m:Str}{bs:List Sy}{g:List Bool}{a c:Sy}:so m bs g (.or a c)=(so m bs g a||so m bs g c):=rfl
theorem nc (B:ue bs g):∀(s:Sy) (n:Nat),dep s<=n->dk bs s->aw Ψ (n+2) 10 [bo s,.str m,dH bs,gT g] J=.ret (.bool (so m bs g s)) J:=by
 intro s
 induction s with
 |mark x=>exact fun n _ _=>eJ rfl
 |yes=>exact fun n _ _=>eJ rfl
 |not a ih=>
  rintro (_ |n) h cl
  .cases h
  .exact eJ (az (ih n (le_of_succ_le_succ h) (aY cl (.head _))) rfl)
 |and a c ih ih'=>
  rintro (_ |n) h cl
  .cases h
  .have h:=max_le.mp (le_of_succ_le_succ h)
   have e:=ih n h.1 (aY cl (.head _))
   have e':=ih' n h.2 (aY cl (.tail _ (.head _)))
   refine eJ (az e ?_)
   cases q:so m bs g a with
   |false=>rw [FR,q];rfl
   |true=>rw [FR,q];exact az e' rfl
 |or a c ih ih'=>
  rintro (_ |n) h cl
  .cases h
  .have h:=max_le.mp (le_of_succ_le_succ h)
   have e:=ih n h.1 (aY cl (.head _))
   have e':=ih' n h.2 (aY cl (.tail _ (.head _)))
   refine eJ (az e ?_)
   cases q:so m bs g a with
   |true=>rw [FQ,q];rfl
   |false=>rw [FQ,q];exact az e' rfl
 |next a=>exact fun n _ cl=>eJ (az (dj B (bb cl _ (.head _)) n) rfl)
 |till a c=>exact fun n _ cl=>eJ (az (dj B (bb cl _ (.head _)) n) rfl)
 |always a=>exact fun n _ cl=>eJ (az (dj B (bb cl _ (.head _)) n) rfl)
 |again a=>exact fun n _ cl=>eJ (az (dj B (bb cl _ (.tail _ (.head _))) n) rfl)
abbrev xP (m:Str)(g:List Bool):T:=.tup [.str m,gT g]
theorem wy (B:ue bs g)(B':ue bs g'){x:Sy}(hx:x∈bs)(hk:(∃a,x=.next a)\/(∃a c,x=.till a c)\/∃a,x=.always a)(cl:∀p∈ci x,dk bs p){n:Nat}(hn:dep x<=n):
  aw Ψ (n+2) 11 [bo x,dH bs,xP m g,xP m' g'] J=.ret (.bool (eU bs m g m' g' x)) J:=by
 obtain _ |n:=n
 .rcases hk with ⟨a,rfl⟩ | ⟨a,c,rfl⟩ | ⟨a,rfl⟩<;>cases hn
 have gd:=dj (J:=J) B' hx (n+1)
 rcases hk with ⟨a,rfl⟩ | ⟨a,c,rfl⟩ | ⟨a,rfl⟩
 .exact oH (az (nc B' a n (le_of_succ_le_succ hn) (cl a (.head _))) rfl)
 .have h:=max_le.mp (le_of_succ_le_succ hn)
  have ea:=nc (m:=m) (J:=J) B a n h.1 (cl a (.head _))
  refine oH (az (nc B c n h.2 (cl c (.tail _ (.head _)))) ?_)
  rw [gJ]
  cases so m bs g c with
  |true=>rfl
  |false=>
   refine az ea ?_
   cases so m bs g a with
   |false=>rfl
   |true=>exact az gd rfl
 .refine oH (az (nc B a n (le_of_succ_le_succ hn) (cl a (.head _))) ?_)
  rw [fI]
  cases so m bs g a with
  |false=>rfl
  |true=>exact az gd rfl
theorem Ep (B:ue bs g){x:Sy}(hx:x∈bs)(hk:(∃a c,x=.till a c)\/∃a,x=.always a)(cl:∀p∈ci x,dk bs p){n:Nat}(hn:dep x<=n):
  aw Ψ (n+2) 14 [bo x,.str m,dH bs,gT g] J=.ret (.bool (met bs m g x)) J:=by
 obtain _ |n:=n
 .rcases hk with ⟨a,c,rfl⟩ | ⟨a,rfl⟩<;>cases hn
 have gd:=dj (J:=J) B hx (n+1)
 rcases hk with ⟨a,c,rfl⟩ | ⟨a,rfl⟩
 .have h:=max_le.mp (le_of_succ_le_succ hn)
  refine oJ (az gd ?_)
  rw [nU]
  cases look bs g (.till a c) with
  |false=>rfl
  |true=>exact az (nc B c n h.2 (cl c (.tail _ (.head _)))) rfl
 .refine oJ (az gd ?_)
  rw [jb]
  cases look bs g (.always a) with
  |true=>rfl
  |false=>exact az (nc B a n (le_of_succ_le_succ hn) (cl a (.head _))) rfl
theorem zd {t:T}(n:Nat):aw Ψ (n+1) 14 [.none,.str m,t,gT g] J=.ret (.bool true) J:=oJ rfl
end
section
variable {bs:List Sy} {g g':List Bool} {m m':Str} {J:Sg}
theorem Cj {s:Sy}(hs:bs=ao s)(B:ue bs g)(B':ue bs g'){n:Nat}(hn:∀x∈bs,dep x<=n):
  aw Ψ (n+3) 12 [dH bs,xP m g,xP m' g'] J=.ret (.bool (lC bs m g m' g')) J:=by
 have lp:∀(l:List Sy) (x3:Option T) (k:PK aP),(∀x∈l,x∈bs)->(∀x3,k [some (dH bs),some (xP m g),some (xP m' g'),x3] J=.ret (.bool true) J)->
   cu (ba 3) (ah (bI (p2 mu (ax 9 (ae (pV 3) (ae (pV 0) (ae (xI 1 1) an)))) (ax 11 (ae (pV 3) (ae (pV 0) (ae (pV 1) (ae (pV 2) an)))))) zF am) am) ⟨aw Ψ (n+2)⟩ (l.map bo) [some (dH bs),some (xP m g),some (xP m' g'),x3] J k=.ret (.bool (l.all fun x=>look bs g x==eU bs m g m' g' x)) J:=by
  intro l
  induction l with
  |nil=>exact fun x3 k _ hk=>hk x3
  |cons x l ih=>
   intro x3 k hl hk
   have hx:=hl x (.head _)
   have e:=ih (some (bo x)) k (fun y hy=>hl y (.tail _ hy)) hk
   refine az (dj B hx (n+1)) (az (wy B B' hx (cL (hs▸hx)) (fun p hp=>hs▸gv (hs▸hx) hp) (hn x hx)) ?_)
   rw [List.all_cons]
   cases look bs g x<;>cases eU bs m g m' g' x<;>first |rfl |exact e
 exact xC (lp bs none _ (fun _ h=>h) fun _=>rfl)
theorem pW {α z:Type}{f:α->z}(inj:∀x y,f x=f y->x=y){l:List α}(h:l.Nodup):(l.map f).Nodup:=List.pairwise_map.mpr (List.Pairwise.imp (fun q e=>q (inj _ _ e)) h)
noncomputable def gI:Nat->List (List Bool)
 | 0=>[[]]
 |n+1=>(gI n).map (·++[false])++(gI n).map (·++[true])
theorem ft:∀{n:Nat} {g:List Bool},g∈gI n->g.length=n:=by
 intro n
 induction n with
 |zero=>intro g h;cases aa h;rfl
 |succ n ih=>
  intro g h
  rcases ai h with h |h<;>(obtain ⟨a,ha,rfl⟩:=aC h;rw [List.length_append,ih ha];rfl)
theorem kO:∀{n:Nat} {g:List Bool},g.length=n->g∈gI n:=by
 intro n
 induction n with
 |zero=>intro g h;rw [length_eq_zero_iff.mp h];exact .head _
 |succ n ih=>
  intro g h
  rcases eq_nil_or_concat g with rfl | ⟨a,b,rfl⟩
  .cases h
  .rw [concat_eq_append] at h ⊢
   rw [List.length_append] at h
   have ha:=ih (Nat.succ.inj h)
   cases b with
   |false=>exact mem_append_left _ (dK ⟨a,ha,rfl⟩)
   |true=>exact mem_append_right _ (dK ⟨a,ha,rfl⟩)
theorem jp:∀n:Nat,(gI n).Nodup:=by
 intro n
 induction n with
 |zero=>exact pairwise_singleton _ _
 |succ n ih=>
  have inj:∀b:Bool,((gI n).map (·++[b])).Nodup:=fun b=>pW (fun x y h=>List.append_inj_left' h rfl) ih
  refine nodup_append.mpr ⟨inj _,inj _,fun a ha b hb e=>?_⟩
  obtain ⟨x,_,rfl⟩:=aC ha
  obtain ⟨y,_,rfl⟩:=aC hb
  cases List.append_inj_right' e rfl
theorem oc (n:Nat):∀(l:List T),l.length<=4->aw Ψ (n+1) 8 [.lst l] J=.ret (.lst ((gI l.length).map gT)) J
 | [],_=>de (by kernel_rfl)
 | [_],_=>de (by kernel_rfl)
 | [_,_],_=>de (by kernel_rfl)
 | [_,_,_],_=>de (by kernel_rfl)
 | [_,_,_,_],_=>de (by kernel_rfl)
 |_::_::_::_::_::_,h=>absurd h (by rw [length_cons,length_cons,length_cons,length_cons,length_cons];lia -abstractProof)
end
section
variable {J:Sg}
theorem sI (s:Sy)(n:Nat):aw Ψ (n+1) 2 [bo s] J=.ret (.lst ((ci s).map bo)) J:=by cases s<;>exact uW (by kernel_rfl)
theorem Eg (s:Sy)(n:Nat):aw Ψ (n+1) 6 [bo s] J=.ret (dH (cr s)) J:=by cases s<;>exact tG (by kernel_rfl)
theorem cb {s p:Sy}(h:p∈ci s):dep p < dep s:=by
 cases s with
 |mark |yes=>cases h
 |not |next |always |again=>cases aa h;exact lt_succ_self _
 |and |or |till=>
  rcases au h with rfl |h
  .exact lt_succ_of_le (le_max_left _ _)
  .cases aa h;exact lt_succ_of_le (le_max_right _ _)
theorem Ar (s:Sy):ao s=ext ((ci s).foldl (fun f a=>ext f (ao a)) []) (cr s):=by cases s<;>rfl
theorem wq:∀{s t:Sy},t∈all s->dep t<=dep s:=by
 have two:∀(s a c:Sy),(∀{t},t∈all a->dep t<=dep a)->(∀{t},t∈all c->dep t<=dep c)->dep s=max (dep a) (dep c)+1->∀{t},t∈s::(all a++all c)->dep t<=dep s:=fun s a c ha hc e t h=>by
  rcases au h with rfl |h
  .exact le_refl _
  .rw [e]
   rcases ai h with h |h
   .exact le_succ_of_le (le_trans (ha h) (le_max_left _ _))
   .exact le_succ_of_le (le_trans (hc h) (le_max_right _ _))
 have one:∀(s a:Sy),(∀{t},t∈all a->dep t<=dep a)->dep s=dep a+1->∀{t},t∈s::all a->dep t<=dep s:=fun s a ha e t h=>by
  rcases au h with rfl |h
  .exact le_refl _
  .rw [e];exact le_succ_of_le (ha h)
 intro s
 induction s with
 |mark |yes=>intro t h;cases aa h;exact le_refl _
 |not a ih |next a ih |always a ih |again a ih=>exact one _ a ih rfl
 |and a c ih ih' |or a c ih ih' |till a c ih ih'=>exact two _ a c ih ih' rfl
theorem gr (s:Sy):1<=dep s:=by cases s<;>exact succ_le_succ (zero_le _)
theorem cY {s x:Sy}(h:x∈ao s):dep x<=dep s+1:=by
 obtain ⟨t,h1,h2⟩:=bf.mp h
 refine le_trans ?_ (succ_le_succ (wq h1))
 cases t with
 |mark |yes |not |and |or=>cases h2
 |next |till |always=>cases aa h2;exact le_succ _
 |again a=>
  have e:max 1 (dep a)=dep a:=Nat.max_eq_right (gr a)
  rcases au h2 with rfl |h2
  .show max 1 (dep a)+1<=dep a+1+1
   rw [e];exact le_succ _
  .cases aa h2
   show max 1 (dep a)+1+1<=dep a+1+1
   rw [e];exact le_refl _
theorem fC (f xs:List Sy):(ext f xs).length<=f.length+xs.length:=by
 rw [ext,List.length_append];exact add_le_add_left (length_filter_le _ _) _
theorem xF:∀s:Sy,(ao s).length+2<=2 ^ (dep s+1):=by
 have p0:∀n,2<=2 ^ (n+1):=fun n=>(pow_le_pow_right (n:=2) (by decide) (succ_le_succ (zero_le n)):2 ^ (0+1)<=_)
 have two:∀(s a c:Sy),(ao a).length+2<=2 ^ (dep a+1)->(ao c).length+2<=2 ^ (dep c+1)->dep s=max (dep a) (dep c)+1->ao s=ext (ext (ext [] (ao a)) (ao c)) (cr s)->(cr s).length<=1->(ao s).length+2<=2 ^ (dep s+1):=fun s a c ha hc e e2 h=>by
  have h1:=pow_le_pow_right (n:=2) (by decide) (succ_le_succ (le_max_left (dep a) (dep c)))
  have h2:=pow_le_pow_right (n:=2) (by decide) (succ_le_succ (le_max_right (dep a) (dep c)))
  rw [e,e2,pow_succ]
  have h3:=fC (ext (ext [] (ao a)) (ao c)) (cr s)
  have h4:=fC (ext [] (ao a)) (ao c)
  have h5:=fC [] (ao a)
  rw [length_nil,zero_add] at h5
  refine le_trans (add_le_add_right (le_trans h3 (add_le_add (le_trans h4 (add_le_add_right h5 _)) h)) 2) (le_trans (?_:_<=(ao a).length+2+((ao c).length+2)) (Nat.mul_two _▸add_le_add (le_trans ha h1) (le_trans hc h2)))
  rw [Nat.add_add_add_comm];exact le_succ _
 have one:∀(s a:Sy),(ao a).length+2<=2 ^ (dep a+1)->dep s=dep a+1->ao s=ext (ext [] (ao a)) (cr s)->(cr s).length<=2->(ao s).length+2<=2 ^ (dep s+1):=fun s a ha e e2 h=>by
  rw [e,e2,pow_succ]
  have h3:=fC (ext [] (ao a)) (cr s)
  have h5:=fC [] (ao a)
  rw [length_nil,zero_add] at h5
  exact le_trans (add_le_add_right (le_trans h3 (add_le_add h5 h)) 2) (Nat.mul_two _▸add_le_add ha (p0 _))
 intro s
 induction s with
 |mark |yes=>exact p0 _
 |not a ih |next a ih |always a ih |again a ih=>exact one _ a ih rfl rfl (le_of_ble_eq_true rfl)
 |and a c ih ih' |or a c ih ih' |till a c ih ih'=>exact two _ a c ih ih' rfl rfl (le_of_ble_eq_true rfl)
end
section
variable {J:Sg}
theorem oz {V:aP}{i:Nat}{f xs:List Sy}{c:eO}{k:PK (List T)}{r:cj}(h1:∀v,bX (V.set i (some v)) i=some v)(h2:∀v,bX (V.set i (some v)) 1=some (dH f))(hf:∀x∈f,dep x<=40)(hx:∀x∈xs,dep x<=40)
  (hk:k ((xs.filter fun x=>!f.contains x).map bo) J=r):bx (ba i) (p2 fK (pV i) (pV 1)) (pV i) c V (xs.map bo) J [] k=r:=by
 refine fk (fun x=>!f.contains x) bo (fun a ha=>⟨_,rfl,fun k=>?_,fun _ k=>?_⟩) hk
 .show up (bX (List.set V i (some (bo a))) i) J (fun v J=>up (bX (List.set V i (some (bo a))) 1) J fun w J=>up (fK v w) J k)=_
  rw [h1,h2,List.contains_eq_mem]
  show up (fK (bo a) (dH f)) J k=_
  exact af ((rt 40).nin (by decide) (hx a ha) hf rfl) rfl
 .show up (bX (List.set V i (some (bo a))) i) J k=_
  rw [h1];rfl
theorem Aq {a:Sy}{d:Nat}(h:dep a<=d)(hd:d<=8):(ao a).length<=1024:=
 le_trans (le_trans (le_add_right _ 2) (xF a)) (pow_le_pow_right (j:=10) (by decide) (succ_le_succ (le_trans h (le_succ_of_le hd))))
theorem rB {x:Sy}{d:Nat}(h:dep x<=d+1)(hd:d<=8):dep x<=40:=le_trans h (le_trans (succ_le_succ hd) (by decide))
theorem qS (f xs:List Sy)(h:f.length+xs.length<=20000):f.length+(xs.filter fun x=>!f.contains x).length<=lim:=
 le_trans (add_le_add_left (length_filter_le _ _) _) (le_trans h (by decide))
theorem u4 {c:eO}{t:Option T}{d:Nat}(hd:d<=8):∀(l:List Sy),(∀a∈l,dep a<=d/\c.call 500 [bo a] J=.ret (dH (ao a)) J)->∀(f:List Sy) (x2:Option T) {k:PK aP} {r:cj},(∀x∈f,dep x<=d+1)->f.length+l.length * 1024<=10240->
  (∀f' x2,f'=l.foldl (fun f a=>ext f (ao a)) f->(∀x∈f',dep x<=d+1)->f'.length<=10240->k [t,some (dH f'),x2,none,none] J=r)->cu (ba 2) DB c (l.map bo) [t,some (dH f),x2,none,none] J k=r:=by
 intro l
 induction l with
 |nil=>intro _ f x2 k r h1 h2 hk;exact hk f x2 rfl h1 (le_trans (le_add_right _ _) h2)
 |cons a l ih=>
  intro hl f x2 k r hf hlen hk
  obtain ⟨h1,h2⟩:=hl a (.head _)
  have d1:∀x∈ao a,dep x<=d+1:=fun x hx=>le_trans (cY hx) (succ_le_succ h1)
  have bl:=Aq h1 hd
  have el:=fC f (ao a)
  rw [length_cons] at hlen
  refine az h2 (oz (fun _=>rfl) (fun _=>rfl) (fun x hx=>rB (hf x hx) hd) (fun x hx=>rB (d1 x hx) hd) (af (rq (l:=f) (qS f _ ?_)) ?_))
  .lia
  .exact ih (fun b hb=>hl b (.tail _ hb)) (ext f (ao a)) _ (fun x hx=>(j0.mp hx).elim (hf x) (d1 x)) (by lia -abstractProof) hk
theorem kH:∀(n:Nat) (s:Sy),dep s<=n->dep s<=8->aw Ψ (n+1) 500 [bo s] J=.ret (dH (ao s)) J:=by
 intro n
 induction n with
 |zero=>intro s h;exact absurd (gr s) (eR (lt_succ_of_le h))
 |succ n ih=>
  intro s h hn
  have hp:∀a∈ci s,dep a<=7:=fun a ha=>le_of_lt_succ (lt_of_lt_of_le (cb ha) hn)
  have pl:(ci s).length<=2:=by cases s<;>exact le_of_ble_eq_true rfl
  have ol:(cr s).length<=2:=by cases s<;>exact le_of_ble_eq_true rfl
  rw [Ar s]
  refine uZ (az (sI s n) (u4 (d:=7) (by decide) (ci s) (fun a ha=>⟨hp a ha,ih a (le_of_lt_succ (lt_of_lt_of_le (cb ha) h)) (le_succ_of_le (hp a ha))⟩) [] none (fun _ h=>nomatch h) (by rw [length_nil];lia -abstractProof) ?_))
  rintro f' x2 rfl h1 h2
  exact az (Eg s n) (oz (fun _=>rfl) (fun _=>rfl) (fun x hx=>rB (h1 x hx) (by decide)) (fun x hx=>rB (cY (bf.mpr ⟨s,jJ s,hx⟩)) hn) (af (rq (l:=(ci s).foldl (fun f a=>ext f (ao a)) []) (qS _ _ (by lia -abstractProof))) rfl))
end
noncomputable def AF:Str:=ofString "abcdefghijklmnopqrstuvwxyz"
noncomputable def Iu (c:Nat):Bool:=Nat.ble 97 c&&Nat.ble c 122
def Lw (x:Str):Prop:=∀c∈x.cps.toList,Iu c=true
theorem ri {c:Nat}(h:Iu c=true):97<=c/\c<=122:=⟨le_of_ble_eq_true (cA h),le_of_ble_eq_true (cz h)⟩
theorem uM:∀k,k < 26->Txt.contains AF ⟨#[97+k]⟩=true:=by decide+kernel
theorem ER {c:Nat}(h:Iu c=true):Txt.contains AF ⟨#[c]⟩=true:=by
 obtain ⟨h1,h2⟩:=ri h
 obtain ⟨k,rfl⟩:=exists_eq_add_of_le h1
 exact uM k (Nat.lt_of_add_lt_add_left (n:=97) (lt_succ_of_le h2))
theorem oR {α:Type}(l:List α):kN (.lst (l.map fun _=>.bool true))=some (.bool true):=by rw [all_map l fun _=>true,all_eq_true.mpr fun _ _=>rfl]
theorem uT {α:Type}{n:Nat}{x:α}(h:n<=lim):mi n x=some x:=by rw [mi,show bS n=true from ble_eq_true_of_le h];rfl
structure Mk (x:Str):Prop where
 len:x.length<=6
 lw:Lw x
section
variable {J:Sg}
theorem n9 {x:Str}(h:Mk x)(n:Nat):aw Ψ (n+1) 1 [.str x] J=.ret (.bool true) J:=by
 refine xA ?_
 have e1:decide ((x.length:Int) > 6)=false:=decide_eq_false (by have:=h.len;lia -abstractProof)
 have e2:x.cps.all (· < 128)=true:=Array.all_eq_true_iff_forall_mem.mpr fun c hc=>decide_eq_true (by have:=ri (h.lw c (Array.mem_toList_iff.mpr hc));lia -abstractProof)
 show (bif decide ((x.length:Int) > 6) then cj.ret (.bool false) J else up (bif x.cps.all (· < 128) then some (x.cps.toList.map fun c=>T.str ⟨#[c]⟩) else none) J fun xs J=>bx (ba 1) aM (pB (p2 Hz (pV 1) (pC (.str AF)))) ⟨aw Ψ n⟩ [some (.str x),none] xs J [] fun ys J=>up (kN (.lst ys)) J fun v J=>.ret v J)=_
 rw [e1,e2]
 show bx _ _ _ _ _ (x.cps.toList.map fun c=>T.str ⟨#[c]⟩) J [] _=_
 refine bn (fun _=>.bool true) (fun c hc=>⟨_,rfl,fun k=>?_⟩) ?_
 .show k (.bool (Txt.contains AF ⟨#[c]⟩)) J=_
  rw [ER (h.lw c hc)]
 .exact af (oR _) rfl
def Gm (s:Sy):Prop:=∀x,.mark x∈all s->Mk x/\x≠ofString ""
theorem Cm {s:Sy}(h:Gm s)(n:Nat):aw Ψ (n+2) 3 [bo s] J=.ret (.bool true) J:=by
 cases s with
 |mark x=>
  obtain ⟨h1,h2⟩:=h x (.head _)
  refine oL (az (n9 h1 n) ?_)
  show up (mu (.str x) (.str (ofString ""))) J (fun b J=>.ret (.bool b) J)=_
  rw [Cr.isN (by decide) trivial trivial,decide_eq_false h2];rfl
 |_=>exact oL (by kernel_rfl)
theorem wx:∀(n d:Nat) (s:Sy),dep s<=d->d<=n->Gm s->aw Ψ (n+2) 4 [bo s,.int d] J=.ret (.bool true) J:=by
 intro n
 induction n with
 |zero=>intro d s h h';exact absurd (gr s) (eR (lt_succ_of_le (le_trans h h')))
 |succ n ih=>
  rintro (_ |d) s h h' hg
  .exact absurd (gr s) (eR (lt_succ_of_le h))
  refine tH (az (Cm hg n) (az (sI s _) ?_))
  refine bn (e:=bo) (fun _=>.bool true) (fun p hp=>⟨_,rfl,fun k=>?_⟩) ?_
  .have:=ih d p (le_of_lt_succ (lt_of_lt_of_le (cb hp) h)) (le_of_succ_le_succ h') fun x hx=>hg x (oS hp hx)
   refine az (t:=.bool true) (J:=J) ?_ rfl
   rw [show (((d+1:Nat):Int) - 1)=(d:Int) by lia -abstractProof];exact this
  .exact af (oR (ci s)) rfl
structure Gs (s:Sy):Prop where
 dep:dep s<=5
 few:(ao s).length<=4
 gm:Gm s
theorem Bz {s:Sy}(h:Gs s)(n:Nat):aw Ψ (n+9) 7 [bo s] J=.ret (bo s) J:=by
 have e:decide (((((ao s).map bo).length:Nat):Int) > 4)=false:=decide_eq_false (by have:=h.few;rw [length_map];lia -abstractProof)
 refine pf (az (tJ (az (wx (n+5) 5 s h.dep (le_add_left _ _) h.gm) rfl)) (az (kH _ s ?_ ?_) ?_))
 .exact le_trans h.dep (le_add_left _ (n+2))
 .exact le_trans h.dep (by decide)
 .show (bif decide (((((ao s).map bo).length:Nat):Int) > 4) then cj.bad else .ret (bo s) J)=_
  rw [e];rfl
noncomputable def Hy:Sy->Bool
 |.till _ _=>true
 |.always _=>true
 |_=>false
def mI (s:Sy):List Sy:=(ao s).filter Hy
abbrev lj (s:Sy):List T:=.none::(mI s).map bo
theorem sH {s:Sy}(h:dep s<=8)(hl:(ao s).length<=1000)(n:Nat):aw Ψ (n+10) 13 [bo s] J=.ret (.lst (lj s)) J:=by
 refine o9 (az (kH (n+8) s (le_trans h (le_add_left _ _)) h) (fk Hy bo (fun x hx=>⟨_,rfl,fun k=>?_,fun _ _=>rfl⟩) ?_))
 .rcases cL hx with ⟨a,rfl⟩ | ⟨a,c,rfl⟩ | ⟨a,rfl⟩<;>kernel_rfl
 .refine af (a:=.lst (lj s)) ?_ rfl
  show mi ((T.none::(mI s).map bo).length) (T.lst (lj s))=_
  exact uT (Nat.succ_le_of_lt (lt_of_le_of_lt (le_trans (le_of_eq (length_map ..)) (le_trans (length_filter_le ..) hl)) (by decide)))
end
noncomputable abbrev nT (p:Nat):T:=.int p
abbrev bY (r:List Nat):T:=.lst (r.map nT)
structure Mc where
 names:List Str
 roads:List (List Nat)
 firsts:List Nat
structure xU (n:Nat) (r:List Nat):Prop where
 ne:r≠[]
 nd:r.Nodup
 lt:∀p∈r,p < n
structure Mc.Ok (M:Mc):Prop where
 pos:1<=M.names.length
 few:M.names.length<=12
 marks:∀x∈M.names,Mk x
 len:M.roads.length=M.names.length
 rows:∀r∈M.roads,xU M.names.length r
 firsts:xU M.names.length M.firsts
abbrev Mc.fs (M:Mc):List T:=[.lst (M.names.map .str),.lst (M.roads.map bY),bY M.firsts]
noncomputable abbrev Mc.t (M:Mc):T:=.obj 0 M.fs
noncomputable def Mc.mark (M:Mc)(p:Nat):Str:=(M.names[p]?).getD default
noncomputable def Mc.road (M:Mc)(p:Nat):List Nat:=(M.roads[p]?).getD []
section
variable {J:Sg} {M:Mc}
theorem Mc.Ok.lim (O:M.Ok){p:Nat}(h:p < M.names.length):p<=lim:=le_trans (le_of_lt h) (le_trans O.few (by decide))
theorem qg {α:Type}{l:List α}{i:Nat}{d:α}(h:i < l.length):l[i]?=some ((l[i]?).getD d):=by rw [getElem?_eq_getElem h];rfl
theorem j5 (O:M.Ok){p:Nat}(h:p < M.names.length)(n:Nat):aw Ψ (n+1) 1007 [M.t,nT p] J=.ret (.str (M.mark p)) J:=
 oN (mt (bq (e:=T.str) (qg h) (O.lim h)) rfl)
theorem zv (O:M.Ok){p:Nat}(h:p < M.names.length)(n:Nat):aw Ψ (n+1) 1008 [M.t,nT p] J=.ret (bY (M.road p)) J:=
 mE (mt (bq (e:=bY) (qg (O.len▸h)) (O.lim h)) rfl)
theorem wH (n:Nat):aw Ψ (n+1) 1009 [M.t] J=.ret (bY M.firsts) J:=lK rfl
theorem yR {p n:Nat}(h:p < n)(k:Nat):aw Ψ (k+1) 15 [nT p,nT n] J=.ret (.bool true) J:=
 uY (show cj.ret (.bool (decide ((p:Int) < (n:Int)))) J=_ by rw [decide_eq_true (bN h)])
theorem pM {n:Nat}{r:List Nat}(R:xU n r)(hr:r.length<=1000)(k:Nat):aw Ψ (k+2) 16 [bY r,nT n] J=.ret .none J:=by
 have lp:∀(suf pre:List Nat) (x2 x3:Option T),r=pre++suf->cu (xN 2 3) (ah (bI (gG (c9 (qE (ax 15 (ae (pV 3) (ae (pV 1) an))))) (gG (p2 iM (pV 3) (p3 bR (pV 0) jt (p1 cZ (pV 2)))) cU)) (ah iJ am) am) am)
   ⟨aw Ψ (k+1)⟩ (im pre.length (suf.map nT)) [some (bY r),some (nT n),x2,x3] J (fun V J=>am ⟨aw Ψ (k+1)⟩ V J (kE 16))=.ret .none J:=fun suf=>by
  induction suf with
  |nil=>intro pre x2 x3 _;rfl
  |cons p suf ih=>
   intro pre x2 x3 e
   have hp:p∈r:=e▸mem_append_right _ (.head _)
   have e1:iM (nT p) (.lst (cut none (some (pre.length:Int)) (r.map nT)))=some false:=by
    rw [wd,je,e,List.take_left]
    refine (fE.mem (by decide) (l:=pre) trivial (fun _ _=>trivial) rfl).trans (congrArg some (decide_eq_false fun q=>?_))
    have:=R.nd
    rw [e] at this
    exact (aG this).2.2 p q p (.head _) rfl
   refine az (yR (R.lt p hp) k) ?_
   refine mt vq (mt e1 ?_)
   have:=ih (pre++[p]) (some (nT pre.length)) (some (nT p)) (by rw [e,List.append_assoc];rfl)
   rw [List.length_append] at this
   exact this
 have e:cH (.int ((r.map nT).length:Nat)) (.int 0)=some false:=by
  rw [ik];exact congrArg some (decide_eq_false fun q=>R.ne (length_eq_zero_iff.mp (by rw [length_map] at q;exact ofNat.inj q)))
 exact pj (bP (Option.some.inj e) (lp r [] none none rfl))
theorem Jm {o:Option Bool}{x y z r:cj}(h:o=some true)(h2:x=r):(match (generalizing:=false) o with |some true=>x |some false=>y |none=>z)=r:=by rw [h];exact h2
theorem zw {a c:Nat}(h:a<=c):EB (.int a) (.int c)=some true:=congrArg some (decide_eq_true (cc h))
theorem El {a c:Nat}(h:a=c):mu (.int a) (.int c)=some false:=by rw [mu,ik,decide_eq_true (by rw [h])];rfl
theorem Ce (O:M.Ok){sp:Int}(n:Nat):aw Ψ (n+3) 1006 [.self,.lst (M.names.map .str),.lst (M.roads.map bY),bY M.firsts] ⟨sp,some (0,[])⟩=.ret .none ⟨sp,some (0,M.fs)⟩:=by
 have l1:(M.names.map T.str).length=M.names.length:=length_map ..
 have rl:∀{r:List Nat},xU M.names.length r->r.length<=1000:=fun {r} R=>le_trans (aS (m:=List.range M.names.length) R.nd fun p hp=>bJ (R.lt p hp)) (by rw [length_range];exact le_trans O.few (by decide))
 have lp:∀(l:List (List Nat)),(∀r∈l,xU M.names.length r)->∀(x4:Option T) {k:PK aP} {r:cj},(∀x4,k [some .self,some (.lst (M.names.map .str)),some (.lst (M.roads.map bY)),some (bY M.firsts),x4,none,none] ⟨sp,some (0,[])⟩=r)->
   cu (ba 4) (ah (m6 (ax 16 (ae (pV 4) (ae (p1 br (pV 1)) an)))) am) ⟨aw Ψ (n+2)⟩ (l.map bY) [some .self,some (.lst (M.names.map .str)),some (.lst (M.roads.map bY)),some (bY M.firsts),x4,none,none] ⟨sp,some (0,[])⟩ k=r:=fun l=>by
  induction l with
  |nil=>exact fun _ x4 _ _ hk=>hk x4
  |cons r l ih=>
   intro hl x4 k _ hk
   have R:=hl r (.head _)
   rw [<-l1] at R
   exact az (pM R (rl (hl r (.head _))) n) (ih (fun r h=>hl r (.tail _ h)) _ hk)
 refine jh (Jm (zw (a:=1) (l1▸O.pos)) (bP (c:=!decide _) (congrArg not (Option.some.inj (zw (c:=12) (l1▸le_trans O.few (by decide))))) ?_))
 refine bn (e:=T.str) (fun _=>.bool true) (fun x hx=>⟨_,rfl,fun k=>az (n9 (O.marks x hx) _) rfl⟩) (mt (oR _) (bP (Option.some.inj (El (a:=(M.roads.map bY).length) (c:=(M.names.map T.str).length) (by rw [length_map,length_map,O.len]))) ?_))
 refine lp M.roads O.rows none fun x4=>?_
 refine az (pM (l1▸O.firsts) (rl O.firsts) n) ?_
 exact bn (e:=bY) bY (fun r _=>⟨_,rfl,fun k=>rfl⟩) rfl
end
structure Kw where
 m:Str
 g:List Bool
 b:Str
noncomputable instance:DecidableEq Kw:=fun a b=>Classical.propDecidable (a=b)
abbrev GA (k:Kw):T:=.tup [xP k.m k.g,.str k.b]
def Jn (k:Kw):Ky:=.tup [.tup [.str k.m,.tup (k.g.map fun b=>.int (u7 b))],.str k.b]
theorem EJ {a c:Kw}(h1:a.m=c.m)(h2:a.g=c.g)(h3:a.b=c.b):a=c:=by
 show Kw.mk a.m a.g a.b=Kw.mk c.m c.g c.b
 rw [h1,h2,h3]
theorem n8:t5 GA Jn:=⟨fun a=>by
  have e:kS 4 (gT a.g)=some (.tup (a.g.map fun b=>.int (u7 b))):=by rw [Dk,n6];rfl
  show o1 (o2 (o1 (o2 (some (Ky.str a.m)) (o2 (kS 4 (gT a.g)) (some []) fun k ks=>some (k::ks)) fun k ks=>some (k::ks)) fun ks=>some (Ky.tup ks)) (some [Ky.str a.b]) fun k ks=>some (k::ks)) (fun ks=>some (Ky.tup ks))=_
  rw [e];rfl,
 fun a c h=>by
  have h1:=List.cons.inj (Ky.tup.inj h)
  have h2:=List.cons.inj (Ky.tup.inj h1.1)
  exact EJ (Ky.str.inj h2.1) (lM (Ky.tup.inj (List.cons.inj h2.2).1)) (Ky.str.inj (List.cons.inj h1.2).1)⟩
theorem vQ {α:Type}{e:α->T}{H:α->Ky} [DecidableEq α] (K:t5 e H){l:List α}{vs:List T}(a:α):dI (e a) (.dct (l.map e) vs)=some (!decide (a∈l)):=by
 show (AR _ _).map _=_
 rw [K.has];rfl
section
variable {M:Mc} {s:Sy}
def beh (s:Sy)(m:Str)(g:List Bool)(m':Str):List (List Bool):=(gI (ao s).length).filter fun g'=>lC (ao s) m g m' g'
def th (M:Mc)(s:Sy)(k:Kn):List Kn:=(M.road k.p).flatMap fun q=>(beh s (M.mark k.p) k.g (M.mark q)).map (Kn.mk q)
abbrev fL (s:Sy)(kk:List Kw):T:=.dct (kk.map GA) (kk.map fun k=>.lst ((beh s k.m k.g k.b).map gT))
abbrev FK (M:Mc)(s:Sy)(D:List Kn):T:=.dct (D.map aV) (D.map fun k=>.lst ((th M s k).map aV))
abbrev wS (M:Mc)(s:Sy)(sp:Int)(kk:List Kw)(K:List Kn)(bg:Nat)(D:List Kn):Sg:=⟨sp,some (10,[dH (ao s),.lst (lj s),M.t,fL s kk,.lst (K.map aV),.int bg,FK M s D])⟩
theorem Gs.bds (G:Gs s){g:List Bool}(h:g.length=(ao s).length):ue (ao s) g:=⟨fun x hx=>le_trans (cY hx) (le_trans (succ_le_succ G.dep) (by decide)),h,le_trans G.few (by decide)⟩
variable {sp:Int} {kk:List Kw} {K:List Kn} {bg:Nat} {D:List Kn}
theorem xG (G:Gs s){m m':Str}{g:List Bool}(hg:g.length=(ao s).length)(hl:kk.length < lim)(n:Nat):
  ck (fun t J'=>t=.lst ((beh s m g m').map gT)/\∃kk',kk'.length<=kk.length+1/\J'=wS M s sp kk' K bg D) (aw Ψ (n+20) 1004 [.self,xP m g,.str m'] (wS M s sp kk K bg D)):=by
 refine gU ?_
 by_cases h:(⟨m,g,m'⟩:Kw)∈kk
 .refine d7 (o:=dI (GA ⟨m,g,m'⟩) (fL s kk)) (a:=false) ?_ ?_
  .rw [fL,vQ n8,decide_eq_true h];rfl
  .exact d7 (n8.get (a:=⟨m,g,m'⟩) h) (cT ⟨rfl,kk,le_succ _,rfl⟩)
 .refine d7 (o:=dI (GA ⟨m,g,m'⟩) (fL s kk)) (a:=true) ?_ ?_
  .rw [fL,vQ n8,decide_eq_false h];rfl
  .have gl:=oc (J:=wS M s sp kk K bg D) (n+18) ((ao s).map bo) (by rw [length_map];exact G.few)
   rw [length_map] at gl
   refine jX gl (Aj (e:=gT) (fun g'=>lC (ao s) m g m' g') gT (fun g' hg'=>⟨_,rfl,fun k=>az (Cj rfl (G.bds hg) (G.bds (ft hg')) (n:=n+16) fun x hx=>?_) rfl,fun _ k=>rfl⟩) ?_)
   .exact le_trans (cY hx) (le_trans (succ_le_succ G.dep) (le_trans (by decide) (le_add_left 16 n)))
   .refine d7 (o:=d5 (fL s kk) (GA ⟨m,g,m'⟩) (.lst ((beh s m g m').map gT))) (a:=fL s (kk++[⟨m,g,m'⟩])) ?_ ?_
    .rw [fL,n8.put h hl,fL,map_append (f:=fun k:Kw=>T.lst _)];rfl
    .refine d7 (n8.get (l:=kk++[⟨m,g,m'⟩]) (a:=⟨m,g,m'⟩) (mem_append_right _ (.head _))) (cT ⟨rfl,_,?_,rfl⟩)
     rw [List.length_append];exact le_refl _
theorem iG:∀n:Nat,(gI n).length=2 ^ n:=by
 intro n
 induction n with
 |zero=>rfl
 |succ n ih=>
  show ((gI n).map _++(gI n).map _).length=_
  rw [List.length_append,length_map,length_map,ih,pow_succ,Nat.mul_two]
theorem CH (G:Gs s)(m:Str)(g:List Bool)(m':Str):(beh s m g m').length<=16:=
 le_trans (length_filter_le _ _) (by rw [iG];exact pow_le_pow_right (j:=4) (by decide) G.few)
theorem Hp {f l a:Nat}(h:f+(l+1) * 16<=10000)(ha:a<=16):f+a<=10000:=le_trans (add_le_add_left (le_trans ha (Nat.le_mul_of_pos_left 16 (succ_pos l))) f) h
theorem Ho {f l a b:Nat}(h:f+(l+1) * 16<=10000)(hb:b<=a)(ha:a<=16):f+b+l * 16<=10000:=le_trans (add_le_add_right (add_le_add_left (le_trans hb ha) f) _) (by rw [add_assoc,add_comm 16,<-Nat.succ_mul];exact h)
theorem Ex (O:M.Ok)(G:Gs s){k:Kn}(hp:k.p < M.names.length)(hg:k.g.length=(ao s).length)(hr:∀q∈M.road k.p,q < M.names.length)(hl:(M.road k.p).length<=12)(hk:kk.length<=10000)(n:Nat):
  ck (fun t J'=>t=.lst ((th M s k).map aV)/\∃kk',kk'.length<=kk.length+12/\J'=wS M s sp kk' K bg D) (aw Ψ (n+21) 1003 [.self,aV k] (wS M s sp kk K bg D)):=by
 have lp:∀(l:List Nat),(∀q∈l,q < M.names.length)->∀(F:List Kn) (kk:List Kw) (x4:Option T) {H:PK aP} {Q:T->Sg->Prop},F.length+l.length * 16<=10000->kk.length+l.length<=20000->
   (∀kk' x4,kk'.length<=kk.length+l.length->ck Q (H [some .self,some (aV k),some (xP (M.mark k.p) k.g),some (.lst ((F++l.flatMap fun q=>(beh s (M.mark k.p) k.g (M.mark q)).map (Kn.mk q)).map aV)),x4,none] (wS M s sp kk' K bg D)))->
   ck Q (cu (ba 4) (ah (iI 3 iO (aU (bm (ux 10 1004 (ae (pV 2) (ae (vH 0 1007 (fJ 10 2) (ae (pV 4) an)) an)))) (ba 5) aM (aT (ae (pV 4) (ae (pV 5) an))))) am) ⟨aw Ψ (n+20)⟩ (l.map nT) [some .self,some (aV k),some (xP (M.mark k.p) k.g),some (.lst (F.map aV)),x4,none] (wS M s sp kk K bg D) H):=fun l=>by
  induction l with
  |nil=>intro _ F kk x4 H Q _ _ hk;rw [flatMap_nil,append_nil] at hk;exact hk kk x4 (le_refl _)
  |cons q l ih=>
   intro hq F kk x4 H Q h1 h2 hk
   rw [length_cons] at h1 h2 hk
   have bl:=CH G (M.mark k.p) k.g (M.mark q)
   refine jX (j5 O (hq q (.head _)) _) (b9 (xG G hg (lt_of_le_of_lt (le_trans (le_add_right _ _) h2) (by decide)) n) ?_)
   rintro _ _ ⟨rfl,kk',h3,rfl⟩
   refine gt (e:=gT) (fun g=>aV ⟨q,g⟩) (fun g _=>⟨_,rfl,fun _=>rfl⟩) (d7 (o:=iO (.lst (F.map aV)) _) (a:=.lst ((F++(beh s (M.mark k.p) k.g (M.mark q)).map (Kn.mk q)).map aV)) ?_ (ih (fun q h=>hq q (.tail _ h)) _ kk' _ ?_ ?_ fun kk'' x4 h4=>?_))
   .rw [<-rq (by rw [length_map];exact le_trans (Hp h1 bl) (by decide)),map_map];rfl
   .rw [List.length_append,length_map];exact Ho h1 (le_refl _) bl
   .exact le_trans (add_le_add_right h3 _) (by rw [Nat.add_right_comm];exact h2)
   .have:=hk kk'' x4 (le_trans h4 (le_trans (add_le_add_right h3 _) (le_of_eq (Nat.add_right_comm ..))))
    rw [flatMap_cons,<-List.append_assoc] at this
    exact this
 refine qK (jX (j5 O hp _) (jX (zv O hp _) (lp (M.road k.p) hr [] kk none (by rw [length_nil,zero_add];exact le_trans (mul_le_mul_right 16 hl) (by decide)) (le_trans (add_le_add hk hl) (by decide)) fun kk' x4 h=>cT ⟨rfl,kk',le_trans h (add_le_add_left hl _),rfl⟩)))
end
theorem ze {S:List Kn}(h:S.Nodup):tf (.lst (S.map fun k=>.tup [aV k,.bool true]))=some (lu S):=by
 show o1 (oq (S.map fun k=>.tup [aV k,.bool true]) ([].map aV) []) _=_
 rw [lJ S [] [] h];rfl
section
variable {M:Mc} {s:Sy}
def rW (M:Mc)(s:Sy):List Kn:=(List.range M.names.length).flatMap fun p=>(gI (ao s).length).map (Kn.mk p)
theorem dN {k:Kn}:k∈rW M s↔k.p < M.names.length/\k.g.length=(ao s).length:=by
 constructor
 .intro h
  obtain ⟨p,h1,h2⟩:=mem_flatMap.mp h
  obtain ⟨g,h3,rfl⟩:=aC h2
  exact ⟨bh h1,ft h3⟩
 .exact fun h=>mem_flatMap.mpr ⟨k.p,bJ h.1,dK ⟨k.g,kO h.2,rfl⟩⟩
theorem vh:(rW M s).length=M.names.length * 2 ^ (ao s).length:=by
 have:∀l:List Nat,(l.flatMap fun p=>(gI (ao s).length).map (Kn.mk p)).length=l.length * 2 ^ (ao s).length:=fun l=>by
  induction l with
  |nil=>exact (Nat.zero_mul _).symm
  |cons p l ih=>rw [flatMap_cons,List.length_append,ih,length_map,iG,length_cons,Nat.succ_mul,add_comm]
 rw [rW,this,length_range]
theorem jK (O:M.Ok){p:Nat}(h:p < M.names.length):xU M.names.length (M.road p):=by
 have h:=O.len▸h
 refine O.rows _ ?_
 rw [Mc.road,getElem?_eq_getElem h];exact getElem_mem h
theorem DS (O:M.Ok){k y:Kn}(hp:k.p < M.names.length)(h:y∈th M s k):y∈rW M s:=by
 obtain ⟨q,h1,h2⟩:=mem_flatMap.mp h
 obtain ⟨g,h3,rfl⟩:=aC h2
 exact dN.mpr ⟨(jK O hp).lt q h1,ft (bu h3).1⟩
structure rK (M:Mc) (s:Sy) (S D R:List Kn):Prop where
 nd:(D++R).Nodup
 sub:∀k∈D++R,k∈rW M s
 clo:∀k∈D,∀y∈th M s k,y∈D++R
 rch:∀k∈D++R,∃a∈S,lP (th M s) a k
 pre:S <+:D++R
theorem rK.push {S D R:List Kn}{k y:Kn}(P:rK M s S D R)(hk:k∈D++R)(hy:y∈th M s k)(hu:y∈rW M s)(hn:y∉D++R):rK M s S D (R++[y]):=by
 have e:D++(R++[y])=(D++R)++[y]:=(List.append_assoc ..).symm
 refine ⟨?_,?_,?_,?_,?_⟩
 .rw [e,nodup_append]
  exact ⟨P.nd,pairwise_singleton _ _,fun a ha b hb q=>hn (aa hb▸q▸ha)⟩
 .rw [e];exact fun x hx=>(ai hx).elim (P.sub x) fun h=>aa h▸hu
 .rw [e];exact fun x hx z hz=>mem_append_left _ (P.clo x hx z hz)
 .rw [e]
  intro x hx
  rcases ai hx with h |h
  .exact P.rch x h
  .obtain ⟨a,h1,h2⟩:=P.rch k hk
   exact ⟨a,h1,aa h▸h2.trans (.one hy)⟩
 .rw [e];exact P.pre.trans (List.prefix_append _ _)
theorem rK.done {S D R:List Kn}{k:Kn}(P:rK M s S D (k::R))(h:∀y∈th M s k,y∈D++k::R):rK M s S (D++[k]) R:=by
 have e:(D++[k])++R=D++k::R:=by rw [List.append_assoc];rfl
 refine ⟨e▸P.nd,e▸P.sub,fun x hx=>?_,e▸P.rch,e▸P.pre⟩
 rw [e]
 rcases ai hx with hx |hx
 .exact P.clo x hx
 .exact aa hx▸h
inductive SW (M:Mc) (s:Sy) (S:List Kn) (sp:Int) (bg:Nat):List Kn×List Kn×List Kw->aP->Sg->Prop
 |mk {D R:List Kn} {kk:List Kw} {x3 x4:Option T} (P:rK M s S D R) (hk:kk.length<=12 * D.length):SW M s S sp bg (D,R,kk) [some .self,some (lu (D++R)),some (.int D.length),x3,x4,none] (wS M s sp kk (D++R) bg D)
inductive SF (M:Mc) (s:Sy) (S:List Kn) (sp:Int) (bg:Nat) (D:List Kn) (k:Kn) (kk:List Kw):List Kn->aP->Sg->Prop
 |mk {pre R':List Kn} {x4:Option T} (P:rK M s S D (k::R')) (hp:∀y∈pre,y∈D++k::R'):SF M s S sp bg D k kk pre [some .self,some (lu (D++k::R')),some (.int D.length),some (aV k),x4,none] (wS M s sp kk (D++k::R') bg (D++[k]))
theorem A5 (O:M.Ok)(G:Gs s)(U:(rW M s).length<=128){S:List Kn}{sp:Int}(hS:S.Nodup)(hu:∀k∈S,k∈rW M s)(bg:Nat)(n:Nat):
  ck (fun t v'=>t=.none/\∃kk K,v'=wS M s sp kk K bg K/\rK M s S K []) (aw Ψ (n+22) 1002 [.self] (wS M s sp [] S bg [])):=by
 have ul:=U
 refine ut (gt (e:=aV) (fun k=>.tup [aV k,.bool true]) (fun k _=>⟨_,rfl,fun _=>rfl⟩) (d7 (ze hS) ?_))
 refine k6 (S:=List Kn×List Kn×List Kw) (SW M s S sp bg)
  (fun x=>decide ((x.1.length:Int) < (((x.1++x.2.1).map aV).length:Int))) (fun x=>128 - x.1.length) ?_ ?_ ?_ (s:=([],S,[])) (show 128 - 0 < 400 by decide) (.mk ⟨hS,hu,fun _ h=>(nomatch h),fun k hk=>⟨k,hk,.refl _⟩,List.prefix_rfl⟩ (le_refl _))
 .rintro _ _ _ ⟨⟩ k hk
  exact hk
 .rintro _ _ _ @⟨D,R,kk,x3,x4,P,hk⟩ hg H hκ
  have len:=le_trans (aS P.nd P.sub) ul
  obtain _ | ⟨k,R⟩:=R
  .have:=of_decide_eq_true hg
   rw [length_map,append_nil] at this
   exact absurd this (Int.lt_irrefl _)
  have km:k∈D++k::R:=mem_append_right _ (.head _)
  obtain ⟨hp,hgl⟩:=dN.mp (P.sub k km)
  have rr:=jK O hp
  have kD:k∉D:=fun h=>(aG P.nd).2.2 k h k (.head _) rfl
  rw [List.length_append,length_cons] at len
  have e1:(D++k::R)[D.length]?=some k:=by rw [getElem?_append_right (le_refl _),sub_self];rfl
  refine d7 (bq (e:=aV) e1 (le_of_lt (e9 (le_trans (le_add_right _ _) len) (by decide)))) (b9 (Ex O G hp hgl rr.lt ?_ ?_ n) ?_)
  .have:=aS (m:=List.range M.names.length) rr.nd fun p hp=>bJ (rr.lt p hp)
   rw [length_range] at this;exact le_trans this O.few
  .exact le_trans hk (le_trans (Nat.mul_le_mul_left 12 (le_trans (le_add_right _ _) len)) (by decide))
  rintro _ _ ⟨rfl,kk',h1,rfl⟩
  refine d7 (o:=d5 (FK M s D) (aV k) _) (a:=FK M s (D++[k])) ?_ ?_
  .rw [FK,cg.put kD (e9 (le_trans (le_add_right _ _) len) (by decide)),FK,map_append (f:=fun k=>T.lst _)];rfl
  refine d7 (cg.get (l:=D++[k]) (a:=k) (mem_append_right _ (.head _))) ?_
  refine td (e:=aV) (l:=th M s k) (SF M s S sp bg D k kk') ?_ ?_ (pre:=[]) rfl (.mk P fun _ h=>nomatch h)
  .rintro pre y suf _ _ hl @⟨R',x4,P,hp'⟩ κ' hκ'
   have yt:y∈th M s k:=by rw [hl];exact mem_append_right _ (.head _)
   have len:=le_trans (aS P.nd P.sub) ul
   by_cases h:y∈D++k::R'
   .refine d7 (o:=dI (aV y) (lu (D++k::R'))) (a:=false) (by rw [iB,decide_eq_true h];rfl) (hκ' _ _ (.mk P fun z hz=>?_))
    exact (ai hz).elim (hp' z) fun q=>aa q▸h
   .have ll:(D++k::R').length < lim:=by exact lt_of_le_of_lt (by assumption) (by decide)
    refine d7 (o:=dI (aV y) (lu (D++k::R'))) (a:=true) (by rw [iB,decide_eq_false h];rfl) (d7 (jZ h ll) (d7 (cO y ll) ?_))
    have e:(D++k::R')++[y]=D++k::(R'++[y]):=List.append_assoc ..
    rw [e]
    refine hκ' _ _ (.mk (R':=R'++[y]) (P.push (mem_append_right _ (.head _)) yt (DS O hp yt) h) fun z hz=>?_)
    rw [<-e]
    exact (ai hz).elim (fun q=>mem_append_left _ (hp' z q)) fun q=>mem_append_right _ q
  .rintro _ _ @⟨R',x4,P,hp'⟩
   have e:(D++[k])++R'=D++k::R':=by rw [List.append_assoc];rfl
   have l:(D++[k]).length=D.length+1:=List.length_append ..
   have w:=SW.mk (sp:=sp) (bg:=bg) (kk:=kk') (x3:=some (aV k)) (x4:=x4) (P.done hp') (by rw [l];exact le_trans h1 (add_le_add_right hk 12))
   rw [e,l] at w
   exact hκ _ _ _ (show 128 - (D++[k]).length < 128 - D.length by rw [l];exact Nat.sub_lt_sub_left (lt_of_lt_of_le (Nat.lt_add_of_pos_right (succ_pos _)) len) (lt_succ_self _)) w
 .rintro _ _ _ @⟨D,R,kk,x3,x4,P,_⟩ hg
  obtain _ | ⟨k,R⟩:=R
  .exact cT ⟨rfl,kk,D,by rw [append_nil],P⟩
  .have:=of_decide_eq_false hg
   rw [length_map,List.length_append,length_cons] at this
   exact absurd (bN (Nat.lt_add_of_pos_right (succ_pos _))) this
end
section
variable {M:Mc} {s:Sy}
theorem og {f:Nat->List (List Bool)}(hf:∀p,(f p).Nodup):∀{l:List Nat},l.Nodup->(l.flatMap fun p=>(f p).map (Kn.mk p)).Nodup:=by
 intro l
 induction l with
 |nil=>exact fun _=>.nil
 |cons p l ih=>
  intro h
  obtain ⟨h1,h2⟩:=aX h
  rw [flatMap_cons,nodup_append]
  refine ⟨pW (fun x y e=>congrArg Kn.g e) (hf p),ih h2,fun a ha b hb e=>?_⟩
  obtain ⟨g,_,rfl⟩:=aC ha
  obtain ⟨q,h3,h4⟩:=mem_flatMap.mp hb
  obtain ⟨g',_,rfl⟩:=aC h4
  exact h1 ((show p=q from congrArg Kn.p e)▸h3)
def st (M:Mc)(s:Sy):List Kn:=M.firsts.flatMap fun p=>((gI (ao s).length).filter fun g=>!so (M.mark p) (ao s) g s).map (Kn.mk p)
theorem qV {k:Kn}:k∈st M s↔k.p∈M.firsts/\k.g.length=(ao s).length/\so (M.mark k.p) (ao s) k.g s=false:=by
 constructor
 .intro h
  obtain ⟨p,h1,h2⟩:=mem_flatMap.mp h
  obtain ⟨g,h3,rfl⟩:=aC h2
  obtain ⟨h4,h5⟩:=bu h3
  exact ⟨h1,ft h4,(not_eq_true' _).mp h5⟩
 .exact fun h=>mem_flatMap.mpr ⟨k.p,h.1,dK ⟨k.g,cM ⟨kO h.2.1,(not_eq_true' _).mpr h.2.2⟩,rfl⟩⟩
theorem jC (O:M.Ok){k:Kn}(h:k.p < M.names.length):(th M s k).Nodup:=og (fun _=>(jp _).filter _) (jK O h).nd
abbrev iS (M:Mc)(s:Sy)(sp:Int)(F:List Kn):Sg:=⟨sp,some (10,[dH (ao s),.lst (lj s),M.t,.dct [] [],.lst (F.map aV)])⟩
theorem DL (O:M.Ok)(G:Gs s)(U:(rW M s).length<=128){sp:Int}(n:Nat):
  ck (fun t J'=>t=.none/\∃kk K,J'=wS M s sp kk K (st M s).length K/\rK M s (st M s) K []) (aw Ψ (n+23) 1001 [.self,M.t,bo s] ⟨sp,some (10,[])⟩):=by
 have inner:∀(p:Nat),p < M.names.length->∀(l:List (List Bool)),(∀g∈l,g.length=(ao s).length)->∀(F:List Kn) (x4:Option T) {k:PK aP} {Q:T->Sg->Prop},F.length+l.length<=10000->
   (∀x4,ck Q (k [some .self,some M.t,some (bo s),some (nT p),x4] (iS M s sp (F++(l.filter fun g=>!so (M.mark p) (ao s) g s).map (Kn.mk p)))))->
   ck Q (cu (ba 4) (ah (bI (c9 (qE (ax 10 (ae (pV 2) (ae (vH 0 1007 (pV 1) (ae (pV 3) an)) (ae (fJ 10 0) (ae (pV 4) an))))))) (ah (sO 10 4 (aT (ae (pV 3) (ae (pV 4) an)))) am) am) am) ⟨aw Ψ (n+22)⟩ (l.map gT) [some .self,some M.t,some (bo s),some (nT p),x4] (iS M s sp F) k):=fun p hp l=>by
  induction l with
  |nil=>intro _ F x4 k Q _ hk;rw [filter_nil,map_nil,append_nil] at hk;exact hk x4
  |cons g l ih=>
   intro hl F x4 k Q h1 hk
   rw [length_cons] at h1
   refine jX (j5 O hp _) (jX (nc (G.bds (hl g (.head _))) s (n+20) (le_trans G.dep (le_trans (by decide) (le_add_left 20 n))) (eG s)) ?_)
   cases e:so (M.mark p) (ao s) g s with
   |true=>
    rw [List.filter_cons_of_neg (by rw [e];decide)] at hk
    exact ih (fun g h=>hl g (.tail _ h)) F _ (le_of_succ_le h1) hk
   |false=>
    rw [List.filter_cons_of_pos (by rw [e];rfl)] at hk
    refine d7 (cO (e:=aV) (l:=F) ⟨p,g⟩ (lt_of_le_of_lt (le_trans (le_add_right _ _) h1) (by decide))) (ih (fun g h=>hl g (.tail _ h)) (F++[⟨p,g⟩]) _ ?_ fun x4=>?_)
    .rw [List.length_append];exact le_trans (le_of_eq (add_assoc ..)) (add_comm 1 _▸h1)
    .rw [List.append_assoc];exact hk x4
 have outer:∀(l:List Nat),(∀p∈l,p < M.names.length)->∀(F:List Kn) (x3 x4:Option T) {k:PK aP} {Q:T->Sg->Prop},F.length+l.length * 16<=10000->
   (∀x3 x4,ck Q (k [some .self,some M.t,some (bo s),x3,x4] (iS M s sp (F++l.flatMap fun p=>((gI (ao s).length).filter fun g=>!so (M.mark p) (ao s) g s).map (Kn.mk p)))))->
   ck Q (cu (ba 3) (ah (cC (bm (ax 8 (ae (fJ 10 0) an))) (ba 4) (ah (bI (c9 (qE (ax 10 (ae (pV 2) (ae (vH 0 1007 (pV 1) (ae (pV 3) an)) (ae (fJ 10 0) (ae (pV 4) an))))))) (ah (sO 10 4 (aT (ae (pV 3) (ae (pV 4) an)))) am) am) am)) am) ⟨aw Ψ (n+22)⟩ (l.map nT) [some .self,some M.t,some (bo s),x3,x4] (iS M s sp F) k):=fun l=>by
  induction l with
  |nil=>intro _ F x3 x4 k Q _ hk;rw [flatMap_nil,append_nil] at hk;exact hk x3 x4
  |cons p l ih=>
   intro hl F x3 x4 k Q h1 hk
   rw [length_cons] at h1
   have gl:=oc (J:=iS M s sp F) (n+21) ((ao s).map bo) (by rw [length_map];exact G.few)
   rw [length_map] at gl
   have al:(gI (ao s).length).length<=16:=by rw [iG];exact pow_le_pow_right (j:=4) (by decide) G.few
   refine jX gl (inner p (hl p (.head _)) _ (fun g h=>ft h) F _ (Hp h1 al) fun x4=>ih (fun q h=>hl q (.tail _ h)) _ _ _ ?_ fun x3 x4=>?_)
   .have:=length_filter_le (fun g=>!so (M.mark p) (ao s) g s) (gI (ao s).length)
    rw [List.length_append,length_map];exact Ho h1 this al
   .have:=hk x3 x4
    rw [flatMap_cons,<-List.append_assoc] at this
    exact this
 have fl:M.firsts.length<=12:=by
  have:=aS (m:=List.range M.names.length) O.firsts.nd fun p hp=>bJ (O.firsts.lt p hp)
  rw [length_range] at this;exact le_trans this O.few
 have d8:dep s<=8:=le_trans G.dep (by decide)
 refine nE (jX (Bz G (n+13)) (jX (kH _ s (le_trans d8 (le_trans (by decide) (le_add_left 21 n))) d8) (jX (sH d8 (le_trans G.few (by decide)) (n+12)) (jX (wH (n+21)) ?_))))
 refine outer M.firsts O.firsts.lt [] none none (by rw [length_nil,zero_add];exact le_trans (mul_le_mul_right 16 fl) (by decide)) fun x3 x4=>?_
 refine b9 (A5 O G U (sp:=sp) (S:=st M s) (og (fun _=>(jp _).filter _) O.firsts.nd) (fun k hk=>dN.mpr ⟨O.firsts.lt _ (qV.mp hk).1,(qV.mp hk).2.1⟩) ((st M s).map aV).length n) ?_
 rintro _ _ ⟨rfl,kk,K,rfl,P⟩
 exact cT ⟨rfl,kk,K,by rw [length_map],P⟩
end
theorem eE {xs:List T}{j:Nat}{t:T}(h:xs[j]?=some t)(hj:j<=lim):aL (.lst xs) (.int j)=some t:=by
 have:=bq (e:=id) h hj
 rw [List.map_id] at this;exact this
section
variable {M:Mc} {s:Sy}
def nV (M:Mc)(s:Sy)(k:Kn):Nat->Bool
 | 0=>true
 |j+1=>match (mI s)[j]? with
  |some x=>met (ao s) (M.mark k.p) k.g x
  |none=>true
abbrev Hh (M:Mc)(s:Sy)(kk:List Kw)(K:List Kn):T:=fH (dH (ao s)) (.lst (lj s)) M.t (fL s kk) K (st M s).length (th M s)
variable {kk:List Kw} {K:List Kn} {J:Sg}
theorem jL (G:Gs s):(mI s).length<=4:=le_trans (length_filter_le _ _) G.few
theorem sP (O:M.Ok)(G:Gs s)(hu:∀k∈K,k∈rW M s)(n:Nat):∀k∈K,∀j,j < (lj s).length->aw Ψ (n+20) 1005 [Hh M s kk K,aV k,.int j] J=.ret (.bool (nV M s k j)) J:=by
 intro k hk j hj
 obtain ⟨h1,h2⟩:=dN.mp (hu k hk)
 have pl:=jL G
 obtain _ |j:=j
 .exact mj (mt (eE (j:=0) rfl (zero_le _)) (az (j5 O h1 (n+18)) (az (zd (m:=M.mark k.p) (g:=k.g) (t:=dH (ao s)) (n+18)) rfl)))
 .have hj:j < (mI s).length:=by rw [length_cons,length_map] at hj;exact Nat.lt_of_succ_lt_succ hj
  have e1:(mI s)[j]?=some (mI s)[j]:=getElem?_eq_getElem hj
  have m1:=bu (getElem_mem hj)
  have e2:(lj s)[j+1]?=some (bo (mI s)[j]):=by
   show ((mI s).map bo)[j]?=_
   rw [getElem?_map,e1];rfl
  have e3:nV M s k (j+1)=met (ao s) (M.mark k.p) k.g (mI s)[j]:=by
   show (match (mI s)[j]? with |some x=>met (ao s) (M.mark k.p) k.g x |none=>true)=_
   rw [e1]
  rw [e3]
  generalize (mI s)[j]=x at m1 e2
  have hk:(∃a c,x=.till a c)\/∃a,x=.always a:=by
   rcases cL m1.1 with ⟨a,rfl⟩ |h
   .cases m1.2
   .exact h
  exact mj (mt (eE e2 (le_trans (le_trans hj pl) (by decide))) (az (j5 O h1 (n+18)) (az (Ep (G.bds h2) m1.1 hk (fun p hp=>gv m1.1 hp) (n:=n+17) (le_trans (cY m1.1) (le_trans (succ_le_succ G.dep) (le_trans (by decide) (le_add_left 17 n))))) rfl)))
structure Fs (M:Mc) (s:Sy) (K P R:List Kn):Prop where
 lasso:kQ (th M s) (st M s) P R
 sub:∀x∈P++R,x∈K
 met:∀j,j < (lj s).length->∃x∈R,nV M s x j=true
 len:(P++R).length<=1000
abbrev C9 (l:List Kn):T:=.lst (l.map fun k=>nT k.p)
theorem xE (O:M.Ok)(G:Gs s)(U:(rW M s).length<=128)(S:rK M s (st M s) K []){c0:Kn}{r:List Kn}(hC:∀x∈c0::r,x∈K)(scc:∀x∈c0::r,∀y∈c0::r,lP (th M s) x y)(hs:∀u∈c0::r,∃v∈th M s u,v∈c0::r)(hmet:∀j,j < (lj s).length->∃k∈c0::r,nV M s k j=true)(n:Nat):
  ck (fun t J'=>J'=J/\∃P R,t=.tup [.str (ofString "breaks"),C9 P,C9 R]/\Fs M s K P R) (aw Ψ (n+22) 42 [Hh M s kk K,.lst ((c0::r).map aV)] J):=by
 have hu:∀k∈K,k∈rW M s:=fun k hk=>S.sub k (by rw [append_nil];exact hk)
 have nd:K.Nodup:=by have:=S.nd;rw [append_nil] at this;exact this
 have hc:∀k∈K,∀y∈th M s k,y∈K:=fun k hk y hy=>by have:=S.clo k hk y hy;rw [append_nil] at this;exact this
 have k2:K.length<=128:=le_trans (aS nd hu) U
 have k1:K.length<=300:=le_trans k2 (by decide)
 have pl:=jL G
 have pre:st M s <+:K:=by have:=S.pre;rw [append_nil] at this;exact this
 have e1:cut none (some ((st M s).length:Int)) K=st M s:=by rw [je];exact List.prefix_iff_eq_take.mp pre |>.symm
 refine sB (d7 (fw e1) (d7 (fw (je 1 (c0::r))) (b9 (qL (starts:=st M s) (goals:=[c0]) k1 hc (nd.sublist pre.sublist) (fun x hx=>pre.subset hx) (n+19)) ?_)))
 rintro _ _ ⟨rfl,P,rfl,h⟩
 have W:CP (th M s) K (st M s) c0 P:=by
  rcases h with ⟨g,h1,h2⟩ | ⟨_,h⟩
  .cases aa h1;exact h2
  .obtain ⟨a,h1,h2⟩:=S.rch c0 (by rw [append_nil];exact hC c0 (.head _))
   exact absurd h2 (h a h1 c0 (.head _))
 refine d7 (fw (oy P)) (gt (e:=aV) (fun k=>nT k.p) (fun k _=>⟨_,rfl,fun _=>rfl⟩) (b9 (Bl (n:=n+18) k2 hc (fun k hk=>jC O (dN.mp (hu k hk)).1) hC ?_ scc hs hmet (sP O G hu n)) ?_))
 .rw [length_cons,length_map];lia
 rintro _ _ ⟨rfl,R,rfl,w1,w2,w3,w4,w5,w6⟩
 refine gt (e:=aV) (fun k=>nT k.p) (fun k _=>⟨_,rfl,fun _=>rfl⟩) (cT ⟨rfl,P.dropLast,R,rfl,W.lasso w1 w2 w3,fun x hx=>(ai hx).elim (fun h=>W.sub x (List.dropLast_subset _ h)) (w4 x),w5,?_⟩)
 rw [List.length_append,List.length_dropLast];exact le_trans (add_le_add (le_trans (sub_le _ _) (le_trans W.len k2)) w6) (by decide)
end
theorem Gd {Q:T->Sg->Prop}{o:cj}{c:Nat}{sp:Int}{fs:List T}{k:PK T}(h:o=.ret .none ⟨sp,some (c,fs)⟩)(h2:ck Q (k (.obj c fs) ⟨sp,none⟩)):ck Q (w0 c o k):=by
 rw [h]
 unfold w0
 show ck Q (bif Nat.beq c c then k (.obj c fs) ⟨sp,none⟩ else .bad)
 rw [beq_refl];exact h2
section
variable {th:Kn->List Kn} {K:List Kn}
def FZ (th:Kn->List Kn):List Kn->Bool
 | []=>false
 |c::r=>!r.isEmpty||decide (c∈th c)
theorem Ed {A B:List (List Kn)}{c:Kn}{r:List Kn}(HHH:xW th K (A++(c::r)::B))(hK:∀k∈K,∀y∈th k,y∈K)(h:FZ th (c::r)=true):∀u∈c::r,∃v∈th u,v∈c::r:=by
 have mem:c::r∈A++(c::r)::B:=mem_append_right _ (.head _)
 have nd:(c::r).Nodup:=by
  have:=HHH.nd
  rw [flatten_append,flatten_cons] at this
  exact (aG (aG this).2.1).1
 have two:∀u d,u∈c::r->d∈c::r->u≠d->∃v∈th u,v∈c::r:=fun u d hu hd ne=>by
  cases HHH.scc _ mem u hu d hd with
  |refl=>exact absurd rfl ne
  |step e q=>exact ⟨_,e,HHH.within hu e hK q hd⟩
 intro u hu
 cases r with
 |nil=>
  cases aa hu
  exact ⟨c,of_decide_eq_true (show decide (c∈th c)=true from h),.head _⟩
 |cons d r=>
  by_cases q:u=c
  .exact two u d hu (.tail _ (.head _)) fun e=>(aX nd).1 (q▸e▸.head _)
  .exact two u c hu (.head _) q
theorem AZ {m:Nat}:∀l:List Kn,(∀k∈l,(th k).length<=m)->eT th [] l<=l.length * (m+2):=by
 intro l
 induction l with
 |nil=>exact fun _=>zero_le _
 |cons k l ih=>
  intro h
  have h1:=ih fun x hx=>h x (.tail _ hx)
  have h2:=h k (.head _)
  show (if k∈[] then 0 else (th k).length+2)+eT th [] l<=_
  rw [if_neg (fun q=>nomatch q),length_cons,Nat.succ_mul];lia -abstractProof
end
structure Rw where
 k:Kn
 r:Nat
 n:Nat
abbrev mH (w:Rw):T:=.tup [nT w.k.p,gT w.k.g,.int w.r,.int w.n]
section
variable {M:Mc} {s:Sy}
structure t8 (M:Mc) (s:Sy) (ws:List Rw):Prop where
 ex:∃K,rK M s (st M s) K []/\K.Perm (ws.map (·.k))
 num:∀w∈ws,w.n < (lj s).length
 same:∀w∈ws,∀v∈ws,w.r=v.r->w.n=v.n
 edge:∀w∈ws,∀v∈ws,v.k∈th M s w.k->v.r < w.r\/(v.r=w.r/\nV M s v.k w.n=false)
 len:ws.length<=300
structure CR (M:Mc) (s:Sy) (Cs pre:List (List Kn)) (ws:List Rw):Prop where
 ks:ws.map (·.k)=pre.flatten
 at_:∀w∈ws,∃i C,Cs[i]?=some C/\w.k∈C/\w.r+i+1=Cs.length/\i < pre.length/\(FZ (th M s) C=true->∀k∈C,nV M s k w.n=false)
 num:∀w∈ws,w.n < (lj s).length
 same:∀w∈ws,∀v∈ws,w.r=v.r->w.n=v.n
theorem CR.nil {Cs:List (List Kn)}:CR M s Cs [] []:=⟨rfl,fun _ h=>(nomatch h),fun _ h=>(nomatch h),fun _ h=>(nomatch h)⟩
theorem CR.push {Cs pre suf:List (List Kn)}{C:List Kn}{ws:List Rw}{j:Nat}(R:CR M s Cs pre ws)(e:Cs=pre++C::suf)(hj:j < (lj s).length)(hm:FZ (th M s) C=true->∀k∈C,nV M s k j=false):CR M s Cs (pre++[C]) (ws++C.map fun k=>⟨k,suf.length,j⟩):=by
 have len:Cs.length=suf.length+pre.length+1:=by rw [e,List.length_append,length_cons];lia
 have old:∀w∈ws,w.r≠suf.length:=fun w hw q=>by
  obtain ⟨i,D,_,_,h3,h4,_⟩:=R.at_ w hw
  lia
 refine ⟨?_,fun w hw=>?_,fun w hw=>?_,fun w hw v hv q=>?_⟩
 .rw [map_append,R.ks,cW,map_map]
  exact congrArg _ (List.map_id _)
 .rcases ai hw with h |h
  .obtain ⟨i,D,h1,h2,h3,h4,h5⟩:=R.at_ w h
   exact ⟨i,D,h1,h2,h3,by rw [List.length_append];exact Nat.lt_succ_of_lt h4,h5⟩
  .obtain ⟨k,hk,rfl⟩:=aC h
   exact ⟨pre.length,C,by rw [e,getElem?_append_right (le_refl _),sub_self];rfl,hk,len.symm,by rw [List.length_append];exact lt_succ_self _,hm⟩
 .rcases ai hw with h |h
  .exact R.num w h
  .obtain ⟨k,hk,rfl⟩:=aC h
   exact hj
 .rcases ai hw with h |h<;>rcases ai hv with h' |h'
  .exact R.same w h v h' q
  .obtain ⟨k,hk,rfl⟩:=aC h'
   exact absurd q (old w h)
  .obtain ⟨k,hk,rfl⟩:=aC h
   exact absurd q.symm (old v h')
  .obtain ⟨k,hk,rfl⟩:=aC h
   obtain ⟨k',hk',rfl⟩:=aC h'
   rfl
theorem rC {α:Type}{th:α->List α}{K:List α}{Cs:List (List α)}(HHH:xW th K Cs){i j:Nat}{C D:List α}{x:α}(hi:Cs[i]?=some C)(hj:Cs[j]?=some D)(hx:x∈C)(hy:x∈D):i<=j:=by
 refine Nat.le_of_not_lt fun lt=>?_
 obtain ⟨A,B,e,l⟩:=tV hi
 have hD:D∈A:=by
  rw [e,getElem?_append_left (by lia)] at hj;exact mem_of_getElem? hj
 have nd:=HHH.nd
 rw [e,flatten_append] at nd
 exact (aG nd).2.2 x (mem_flatten.mpr ⟨D,hD,hy⟩) x (mem_flatten.mpr ⟨C,.head _,hx⟩) rfl
theorem CR.cert {K:List Kn}{Cs:List (List Kn)}{ws:List Rw}(S:rK M s (st M s) K [])(HHH:xW (th M s) K Cs)(cov:∀x∈K,x∈Cs.flatten)(nd:K.Nodup)(kl:K.length<=300)(R:CR M s Cs Cs ws):t8 M s ws:=by
 have p:K.Perm (ws.map (·.k)):=by
  rw [R.ks]
  exact (List.perm_ext_iff_of_nodup nd HHH.nd).mpr fun k=>⟨cov k,HHH.sub k⟩
 refine ⟨⟨K,S,p⟩,R.num,R.same,fun w hw v hv e=>?_,by have:=p.length_eq;rw [length_map] at this;rw [<-this];exact kl⟩
 obtain ⟨i,C,c1,c2,c3,_,c4⟩:=R.at_ w hw
 obtain ⟨j,D,d1,d2,d3,_,_⟩:=R.at_ v hv
 have wK:w.k∈K:=p.mem_iff.mpr (mem_map_of_mem hw)
 obtain ⟨A,B,eq,l⟩:=tV d1
 rcases ai (HHH.back A D B eq v.k d2 w.k wK e) with h |h
 .obtain ⟨E,hE,hx⟩:=mem_flatten.mp h
  obtain ⟨m,hm⟩:=getElem?_of_mem hE
  have lt:=(ak hm).1
  have:=rC HHH (j:=m) c1 (by rw [eq,getElem?_append_left lt];exact hm) c2 hx
  exact .inl (by lia)
 .have h1:=rC HHH c1 d1 c2 h
  have h2:=rC HHH d1 c1 h c2
  have ij:i=j:=le_antisymm h1 h2
  subst ij
  cases c1.symm.trans d1
  refine .inr ⟨by lia,c4 ?_ v.k d2⟩
  obtain _ | ⟨c,_ | ⟨d,r⟩⟩:=C
  .cases c2
  .rw [aa c2,aa d2] at e
   show (!true||decide (c∈th M s c))=true
   rw [decide_eq_true e];rfl
  .rfl
inductive G9 (M:Mc) (s:Sy):T->Prop
 |keeps (ws:List Rw) (h:t8 M s ws):G9 M s (.tup [.str (ofString "keeps"),.lst (ws.map mH)])
 |breaks (K P R:List Kn) (S:rK M s (st M s) K []) (h:Fs M s K P R):G9 M s (.tup [.str (ofString "breaks"),C9 P,C9 R])
theorem Bm (a b:Nat):((a+(b+1):Nat):Int) - 1 - a=b:=by lia
theorem xh (O:M.Ok)(G:Gs s)(U:(rW M s).length<=128){sp:Int}(n:Nat):ck (fun t J'=>J'=⟨sp,none⟩/\G9 M s t) (aw Ψ (n+24) 43 [M.t,bo s] ⟨sp,none⟩):=by
 obtain ⟨_,_,w1,rfl,kk,K,rfl,S⟩:=DL O G U (sp:=sp) n
 have hu:∀k∈K,k∈rW M s:=fun k hk=>S.sub k (by rw [append_nil];exact hk)
 have nd:K.Nodup:=by have:=S.nd;rw [append_nil] at this;exact this
 have hc:∀k∈K,∀y∈th M s k,y∈K:=fun k hk y hy=>by have:=S.clo k hk y hy;rw [append_nil] at this;exact this
 have k1:K.length<=128:=le_trans (aS nd hu) U
 have hw:∀k∈K,(th M s k).length<=128:=fun k hk=>le_trans (aS (jC O (dN.mp (hu k hk)).1) (hc k hk)) k1
 have ws:eT (th M s) [] K < 20000:=lt_of_le_of_lt (AZ K hw) (lt_of_le_of_lt (mul_le_mul_right _ k1) (by decide))
 refine yN (Gd w1 (b9 (xz nd (le_trans k1 (by decide)) hc ws (fun k hk=>le_trans (hw k hk) (by decide)) (n+21)) ?_))
 rintro _ _ ⟨rfl,Cs,rfl,HHH,cov⟩
 have lp:∀(suf pre:List (List Kn)) (ws:List Rw) (x5 x6 x7:Option T),Cs=pre++suf->CR M s Cs pre ws->ws.length+suf.flatten.length<=1000->
   ck (fun t J'=>J'=⟨sp,none⟩/\G9 M s t) (cu (xN 5 6) jB ⟨aw Ψ (n+23)⟩ (im pre.length (suf.map xS)) [some M.t,some (bo s),some (Hh M s kk K),some (.lst (Cs.map xS)),some (.lst (ws.map mH)),x5,x6,x7,none] ⟨sp,none⟩ fun V J=>jE ⟨aw Ψ (n+23)⟩ V J (kE 43)):=fun suf=>by
  induction suf with
  |nil=>
   intro pre ws x5 x6 x7 e R _
   rw [append_nil] at e
   exact cT ⟨rfl,.keeps ws (CR.cert S HHH cov nd (le_trans k1 (by decide)) (e▸R))⟩
  |cons C suf ih=>
   intro pre ws x5 x6 x7 e R hX
   obtain _ | ⟨c,r⟩:=C
   .exact absurd rfl (HHH.ne [] (by rw [e];exact mem_append_right _ (.head _)))
   have CK:∀x∈c::r,x∈K:=fun x hx=>HHH.sub x (by rw [e,flatten_append,flatten_cons];exact mem_append_right _ (mem_append_left _ hx))
   have er:((Cs.map xS).length:Int) - 1 - pre.length=suf.length:=by rw [length_map,e,List.length_append,length_cons];exact Bm _ _
   rw [flatten_cons,List.length_append] at hX
   have go:∀j:Nat,j < (lj s).length->(FZ (th M s) (c::r)=true->∀k∈c::r,nV M s k j=false)->
     ck (fun t J'=>J'=⟨sp,none⟩/\G9 M s t) (jR ⟨aw Ψ (n+23)⟩ [some M.t,some (bo s),some (Hh M s kk K),some (.lst (Cs.map xS)),some (.lst (ws.map mH)),some (nT pre.length),some (xS (c::r)),some (nT j),none] ⟨sp,none⟩ fun V J=>cu (xN 5 6) jB ⟨aw Ψ (n+23)⟩ (im (pre.length+1) (suf.map xS)) V J fun V J=>jE ⟨aw Ψ (n+23)⟩ V J (kE 43)):=fun j hj hm=>by
    have ext:iO (.lst (ws.map mH)) (.lst ((c::r).map fun k=>.tup [nT k.p,gT k.g,.int (((Cs.map xS).length:Int) - 1 - pre.length),nT j]))=some (.lst ((ws++(c::r).map fun k=>Rw.mk k suf.length j).map mH)):=by
     rw [er,map_append,map_map (f:=fun k=>Rw.mk k suf.length j)]
     exact uP (by rw [length_map,length_map];exact le_trans (le_trans (add_le_add_left (le_add_right _ _) _) hX) (by decide))
    refine gt (e:=aV) (fun k=>.tup [nT k.p,gT k.g,.int (((Cs.map xS).length:Int) - 1 - pre.length),nT j]) (fun k _=>⟨_,rfl,fun _=>rfl⟩) (d7 ext ?_)
    have:=ih (pre++[c::r]) (ws++(c::r).map fun k=>Rw.mk k suf.length j) (some (nT pre.length)) (some (xS (c::r))) (some (nT j)) (by rw [e,List.append_assoc];rfl) (R.push e hj hm) (by rw [List.length_append,length_map];exact le_trans (le_of_eq (add_assoc ..)) hX)
    rw [List.length_append] at this
    exact this
   have H':=HHH
   rw [e] at H'
   refine jX (yJ (CK c (.head _)) (n+22)) ?_
   cases hr:FZ (th M s) (c::r) with
   |false=>
    rw [show (!r.isEmpty||decide (c∈th M s c))=false from hr]
    exact go 0 (succ_pos _) fun q=>absurd (hr.symm.trans q) (by decide)
   |true=>
    rw [show (!r.isEmpty||decide (c∈th M s c))=true from hr]
    refine b9 (yf CK ?_ (sP O G hu (n+2))) ?_
    .rw [length_cons,length_map];exact le_trans (succ_le_succ (jL G)) (by decide)
    rintro _ _ ⟨rfl,⟨rfl,h⟩ | ⟨j,h1,rfl,h2⟩⟩
    .refine b9 (xE O G U S CK (H'.scc _ (mem_append_right _ (.head _))) (Ed H' hc hr) h (n+1)) ?_
     rintro _ _ ⟨rfl,P,R,rfl,B⟩
     exact cT ⟨rfl,.breaks K P R S B⟩
    .exact go j h1 fun _=>h2
 exact lp Cs [] [] none none none rfl .nil (by rw [length_nil,zero_add];exact le_trans (aS HHH.nd HHH.sub) (le_trans k1 (by decide)))
end
section
variable {M:Mc} {s:Sy}
def lw (ms:List Str)(b:Nat)(t:Nat):Str:=(ms[it ms.length b t 0]?).getD default
structure Jv (M:Mc) (p:Nat->Nat):Prop where
 fst:p 0∈M.firsts
 nxt:∀i,p (i+1)∈M.road (p i)
theorem uz {k y:Kn}:y∈th M s k↔y.p∈M.road k.p/\y.g.length=(ao s).length/\lC (ao s) (M.mark k.p) k.g (M.mark y.p) y.g=true:=by
 constructor
 .intro h
  obtain ⟨q,h1,h2⟩:=mem_flatMap.mp h
  obtain ⟨g,h3,rfl⟩:=aC h2
  obtain ⟨h4,h5⟩:=bu h3
  exact ⟨h1,ft h4,h5⟩
 .exact fun h=>mem_flatMap.mpr ⟨y.p,h.1,dK ⟨y.g,cM ⟨kO h.2.1,h.2.2⟩,rfl⟩⟩
theorem rc {n b t i:Nat}:it n b (t+1) i=nx n b (it n b t i):=fb t 1 i
theorem CD {K P R:List Kn}(B:Fs M s K P R):∃p,Jv M p/\(fun i=>M.mark (p i))=lw ((P++R).map fun k=>M.mark k.p) P.length/\¬Sem (fun i=>M.mark (p i)) s 0:=by
 have hb:=B.lasso.lt
 have h0:0 < (P++R).length:=lt_of_le_of_lt (zero_le _) hb
 have lt:=fun t=>sZ hb t 0 h0
 let H:Nat->Kn:=fun t=>(P++R)[it (P++R).length P.length t 0]'(lt t)
 have hκ:∀t,(P++R)[it (P++R).length P.length t 0]?=some (H t):=fun t=>getElem?_eq_getElem (lt t)
 have h1:∀i,H (i+1)∈th M s (H i):=fun i=>B.lasso.step (hκ i) (by rw [<-rc];exact hκ (i+1))
 obtain ⟨a,ha,hs⟩:=B.lasso.hd
 have e0:H 0=a:=Option.some.inj ((hκ 0).symm.trans (by rw [<-ha,List.head?_eq_getElem?];rfl))
 obtain ⟨s1,s2,s3⟩:=qV.mp hs
 refine ⟨fun t=>(H t).p,⟨by rw [e0];exact s1,fun i=>(uz.mp (h1 i)).1⟩,?_,fun q=>?_⟩
 .funext t
  rw [lw,length_map,getElem?_map,hκ t];rfl
 .have:=(cS (w:=fun i=>M.mark (H i).p) (γ:=fun i=>(H i).g) (fun i=>(uz.mp (h1 i)).2.2) (fun x hx i=>?_) s (eG s) 0).mpr q
  .rw [e0,s3] at this;cases this
  .have main:Hy x=true->∃j,i<=j/\met (ao s) (M.mark (H j).p) (H j).g x=true:=fun hP=>by
    have px:x∈mI s:=cM ⟨hx,hP⟩
    obtain ⟨j,hj,e⟩:=List.getElem_of_mem px
    obtain ⟨y,hy,hm⟩:=B.met (j+1) (by rw [length_cons,length_map];exact Nat.succ_lt_succ hj)
    have hm:(match (mI s)[j]? with |some x=>met (ao s) (M.mark y.p) y.g x |none=>true)=true:=hm
    rw [getElem?_eq_getElem hj,e] at hm
    obtain ⟨r,hr,ey⟩:=List.getElem_of_mem hy
    obtain ⟨t,ht⟩:=ja (i:=it (P++R).length P.length i 0) (j:=P.length+r) hb (lt i) (le_add_right _ _) (by rw [List.length_append];exact Nat.add_lt_add_left hr _)
    have:H (i+t)=y:=by
     refine Option.some.inj ((hκ (i+t)).symm.trans ?_)
     rw [fb,ht,getElem?_append_right (le_add_right _ _),Nat.add_sub_cancel_left,getElem?_eq_getElem hr,ey]
    exact ⟨i+t,le_add_right _ _,by rw [this];exact hm⟩
   rcases cL hx with ⟨a,rfl⟩ | ⟨a,c,rfl⟩ | ⟨a,rfl⟩
   .exact ⟨i,le_refl _,rfl⟩
   .exact main rfl
   .exact main rfl
end
noncomputable abbrev bT (n:Nat)(f:Nat->Bool):T:=.lst ((List.range n).map fun i=>.bool (f i))
section
variable {n:Nat} {f g:Nat->Bool}
theorem Aw (h:∀i,i < n->f i=g i):bT n f=bT n g:=congrArg T.lst (map_congr_left fun i hi=>by rw [h i (bh hi)])
theorem oO {i:Nat}(h:i < n)(hn:n<=lim):aL (bT n f) (.int i)=some (.bool (f i)):=bq (e:=fun i=>T.bool (f i)) (List.getElem?_range h) (le_trans (le_of_lt h) hn)
end
section
variable {ms:List Str} {b:Nat} {J:Sg}
def i9 (ms:List Str)(b:Nat)(s:Sy)(i:Nat):Bool:=@decide (Sem (lw ms b) s i) (Classical.propDecidable _)
theorem b8 {s:Sy}{i:Nat}:i9 ms b s i=true↔Sem (lw ms b) s i:=@decide_eq_true_iff _ (Classical.propDecidable _)
theorem Cc {n b:Nat}(hb:b < n):∀i,i < n->it n b i 0=i:=by
 intro i
 induction i with
 |zero=>exact fun _=>rfl
 |succ i ih=>exact fun h=>by rw [rc,ih (lt_of_succ_lt h),nx,if_neg (ne_of_lt h)]
theorem yG (hb:b < ms.length)(s:Sy)(t:Nat):Sem (lw ms b) s t↔Sem (lw ms b) s (it ms.length b t 0):=by
 refine cn s _ _ fun j=>?_
 have lt:=sZ hb t 0 (lt_of_le_of_lt (zero_le _) hb)
 rw [lw,lw,fb,fb,Cc hb _ lt]
theorem gP (hb:b < ms.length)(s:Sy){i t:Nat}(hi:i < ms.length):Sem (lw ms b) s (i+t)↔i9 ms b s (it ms.length b t i)=true:=by
 rw [b8,yG hb,fb,Cc hb _ hi]
theorem wJ (hb:b < ms.length){a c:Sy}{i:Nat}(hi:i < ms.length):U ms.length b (i9 ms b a) (i9 ms b c) (ms.length - i+(ms.length - b)) i=i9 ms b (.till a c) i:=by
 rw [Bool.eq_iff_iff,b8]
 constructor
 .intro h
  obtain ⟨t,_,h1,h2⟩:=tY.mp h
  exact ⟨t,(gP hb c hi).mpr h1,fun u hu=>(gP hb a hi).mpr (h2 u hu)⟩
 .rintro ⟨t,h1,h2⟩
  exact AI (add_le_add_right (Nat.sub_le_sub_right (le_of_lt hb) i) _) (wu hb hi t ((gP hb c hi).mp h1) fun u hu=>(gP hb a hi).mp (h2 u hu))
theorem sj (hb:b < ms.length){a:Sy}{i:Nat}(hi:i < ms.length):(!U ms.length b (fun _=>true) (fun j=>!i9 ms b a j) (ms.length - i+(ms.length - b)) i)=i9 ms b (.always a) i:=by
 rw [Bool.eq_iff_iff,b8,not_eq_true',<-Bool.not_eq_true]
 constructor
 .intro h t
  refine (gP hb a hi).mpr ?_
  cases e:i9 ms b a (it ms.length b t i) with
  |true=>rfl
  |false=>exact absurd (AI (add_le_add_right (Nat.sub_le_sub_right (le_of_lt hb) i) _) (wu (p:=fun _=>true) (q:=fun j=>!i9 ms b a j) hb hi t (by rw [e];rfl) fun _ _=>rfl)) h
 .intro h q
  obtain ⟨t,_,h1,_⟩:=tY.mp q
  rw [(gP hb a hi).mp (h t)] at h1;cases h1
theorem uk (hb:b < ms.length){a:Sy}{i:Nat}(hi:i < ms.length):((List.range ms.length).drop b).any (i9 ms b a)=i9 ms b (.again a) i:=by
 rw [Bool.eq_iff_iff,b8,any_eq_true]
 constructor
 .rintro ⟨j,hj,h⟩ t
  obtain ⟨h1,h2⟩:=hY.mp hj
  obtain ⟨u,hu⟩:=ja hb (sZ hb t i hi) h1 h2
  refine ⟨u,?_⟩
  rw [add_assoc,gP hb a hi,fb,hu];exact h
 .intro h
  obtain ⟨t,ht⟩:=ja hb hi (le_refl b) hb
  obtain ⟨u,hu⟩:=h t
  rw [add_assoc,gP hb a hi,fb,ht] at hu
  exact ⟨_,hY.mpr ⟨wM hb (le_refl _) hb u,sZ hb u _ hb⟩,hu⟩
end
theorem rD {n b:Nat}(h:b<=n):clipAt n (b:Int)=b:=(kq n b).trans (Nat.min_eq_left h)
theorem Af {α:Type}{b:Nat}{l:List α}(h:b<=l.length):cut (some (b:Int)) none l=l.drop b:=by
 show (l.drop (clipAt l.length b)).take (l.length - clipAt l.length b)=_
 rw [rD h,<-length_drop,take_length]
section
variable {n b:Nat} {f g:Nat->Bool}
theorem tQ (f:Nat->Bool):∀l:List Nat,ip (l.map fun i=>.bool (f i))=some (l.map f):=by
 intro l
 induction l with
 |nil=>rfl
 |cons i l ih=>show o2 (some (f i)) (ip (l.map fun i=>.bool (f i))) _=_;rw [ih];rfl
theorem xX (op:Bool->Bool->Bool):qr op (bT n f) (bT n g)=some (bT n fun i=>op (f i) (g i)):=by
 show o2 (ip ((List.range n).map fun i=>.bool (f i))) (ip ((List.range n).map fun i=>.bool (g i))) _=_
 rw [tQ,tQ]
 show some (T.lst ((zipWith op ((List.range n).map f) ((List.range n).map g)).map T.bool))=_
 rw [List.zipWith_map,List.zipWith_self,map_map];rfl
end
abbrev Ew (w:Str)(x:String)(b:Bool):Prop:=cH (.str w) (.str (ofString x))=some b
section
variable {J:Sg} {c:eO} {t0 X Y r0 r1 v o:T} {w:Str} {ts ys:List T}
theorem fF {bd:PB}{cond:PT}{elt:PE}{V:aP}{xs zs:List T}{k:PK (List T)}{r:cj}(h:∀k:PK (List T),bx bd cond elt c V xs J [] k=k zs J)(hk:k zs J=r):bx bd cond elt c V xs J [] k=r:=(h k).trans hk
end
section
variable {ms:List Str} {b:Nat} {J:Sg}
theorem A6 {a:Sy}{i:Nat}:(!i9 ms b a i)=i9 ms b (.not a) i:=by
 rw [Bool.eq_iff_iff,not_eq_true',<-Bool.not_eq_true,b8,b8];exact .rfl
end
section
variable {J:Sg} {c:eO} {t0 W R run r0 r1 v o:T} {w:Str} {ts ys rs zs:List T} {n:Nat}
noncomputable abbrev mF (t0 W R run:T)(w:Str)(y:Option T):aP:=[some t0,some W,some R,some (.str w),some run,y,none,none,none,none,none,none,none,none,none]
theorem dt {V:aP}{i:Nat}{x:String}{A Z:PS}{k:PK aP}{r:cj}(hw:bX V i=some (.str w))(e:Ew w x false)(h:Z c V J k=r):ah (bI (p2 cH (pV i) (pZ x)) A am) Z c V J k=r:=af hw (af e (bP rfl h))
theorem s8 {V:aP}{i:Nat}{x:String}{A Z:PS}{k:PK aP}{r:cj}(hw:bX V i=some (.str w))(e:Ew w x true)(h:A c V J (fun V J=>Z c V J k)=r):ah (bI (p2 cH (pV i) (pZ x)) A am) Z c V J k=r:=af hw (af e (c7 rfl h))
variable (h0:aL t0 (.int 0)=some (.str w)) (hA:bw W R=some run) (e1:Ew w "mark" false) (e2:Ew w "yes" false) (hS:bR t0 (some 1) none=some (.tup ts)) (hC:∀k:PK (List T),bx (ba 8) aM (ax 46 (ae (pV 8) (ae (pV 1) (ae (pV 2) an)))) c (mF t0 W R run w none) ts J [] k=k ys J)
include h0 hA e1 e2 hS hC
theorem nX {k:PK aP}{r:cj}(h:mR c (mF t0 W R run w (some (.lst ys))) J k=r):bv c [some t0,some W,some R,none,none,none,none,none,none,none,none,none,none,none,none] J k=r:=
 by refine af rfl (af h0 (af rfl (af rfl (af hA ?_))));refine dt rfl e1 (dt rfl e2 ?_);exact af rfl (af rfl (af hS (af rfl ((hC _).trans h))))
theorem Et (e3:Ew w "not" true){xs:List T}(hr:aL (.lst ys) (.int 0)=some (.lst xs))(hN:∀k:PK (List T),bx (ba 9) aM (lk (pV 9)) c (mF t0 W R run w (some (.lst ys))) xs J [] k=k zs J){k:PK aP}:bv c [some t0,some W,some R,none,none,none,none,none,none,none,none,none,none,none,none] J k=.ret (.lst zs) J:=
 nX h0 hA e1 e2 hS hC (s8 rfl e3 (af rfl (af hr (af rfl (fF hN rfl)))))
theorem Eu (e3:Ew w "not" false)(e4:Ew w "and" true)(hr:aL (.lst ys) (.int 0)=some r0)(hr1:aL (.lst ys) (.int 1)=some r1)(hz:qr (·&&·) r0 r1=some o){k:PK aP}:bv c [some t0,some W,some R,none,none,none,none,none,none,none,none,none,none,none,none] J k=.ret o J:=
 nX h0 hA e1 e2 hS hC (dt rfl e3 (s8 rfl e4 (af rfl (af hr (af rfl (af hr1 (af hz rfl)))))))
theorem Gk (e3:Ew w "not" false)(e4:Ew w "and" false)(e5:Ew w "or" true)(hr:aL (.lst ys) (.int 0)=some r0)(hr1:aL (.lst ys) (.int 1)=some r1)(hz:qr (·||·) r0 r1=some o){k:PK aP}:bv c [some t0,some W,some R,none,none,none,none,none,none,none,none,none,none,none,none] J k=.ret o J:=
 nX h0 hA e1 e2 hS hC (dt rfl e3 (dt rfl e4 (s8 rfl e5 (af rfl (af hr (af rfl (af hr1 (af hz rfl))))))))
theorem BC (e3:Ew w "not" false)(e4:Ew w "and" false)(e5:Ew w "or" false)(e6:Ew w "next" true)(hl:br run=some (.int n))(hg:vy [.int n]=some rs)(hX:∀k:PK (List T),bx (ba 10) aM (p2 aL (xI 5 0) (p2 aL (ax 44 (ae (pV 1) (ae (pV 2) (ae (pV 10) an)))) (pI 1))) c (mF t0 W R run w (some (.lst ys))) rs J [] k=k zs J){k:PK aP}:bv c [some t0,some W,some R,none,none,none,none,none,none,none,none,none,none,none,none] J k=.ret (.lst zs) J:=
 nX h0 hA e1 e2 hS hC (dt rfl e3 (dt rfl e4 (dt rfl e5 (s8 rfl e6 (af rfl (af hl (af hg (fF hX rfl))))))))
theorem w8 (e3:Ew w "not" false)(e4:Ew w "and" false)(e5:Ew w "or" false)(e6:Ew w "next" false)(e7:Ew w "always" true)(hl:br run=some (.int n))(hg:vy [.int n]=some rs)(hX:∀k:PK (List T),bx (ba 11) aM (pB (p2 fK (pC (.bool false)) (aU (bm (ax 44 (ae (pV 1) (ae (pV 2) (ae (pV 11) an))))) (ba 12) aM (p2 aL (xI 5 0) (pV 12))))) c (mF t0 W R run w (some (.lst ys))) rs J [] k=k zs J){k:PK aP}:bv c [some t0,some W,some R,none,none,none,none,none,none,none,none,none,none,none,none] J k=.ret (.lst zs) J:=
 nX h0 hA e1 e2 hS hC (dt rfl e3 (dt rfl e4 (dt rfl e5 (dt rfl e6 (s8 rfl e7 (af rfl (af hl (af hg (fF hX rfl)))))))))
theorem zg (e3:Ew w "not" false)(e4:Ew w "and" false)(e5:Ew w "or" false)(e6:Ew w "next" false)(e7:Ew w "always" false)(e8:Ew w "again" true)(hs:run=.lst rs)(hX:∀k:PK (List T),bx (ba 13) aM (pB (p2 iM (pC (.bool true)) (p3 bR (xI 5 0) (p1 cZ (p1 br (pV 1))) jt))) c (mF t0 W R run w (some (.lst ys))) rs J [] k=k zs J){k:PK aP}:bv c [some t0,some W,some R,none,none,none,none,none,none,none,none,none,none,none,none] J k=.ret (.lst zs) J:=
 nX h0 hA e1 e2 hS hC (dt rfl e3 (dt rfl e4 (dt rfl e5 (dt rfl e6 (dt rfl e7 (s8 rfl e8 (af rfl (af (show gO run=some rs by rw [hs];rfl) (fF hX rfl)))))))))
theorem BB (e3:Ew w "not" false)(e4:Ew w "and" false)(e5:Ew w "or" false)(e6:Ew w "next" false)(e7:Ew w "always" false)(e8:Ew w "again" false)(hl:br run=some (.int n))(hg:vy [.int n]=some rs)(hX:∀k:PK (List T),bx (ba 14) aM (ax 45 (ae (xI 5 0) (ae (xI 5 1) (ae (ax 44 (ae (pV 1) (ae (pV 2) (ae (pV 14) an)))) an)))) c (mF t0 W R run w (some (.lst ys))) rs J [] k=k zs J){k:PK aP}:bv c [some t0,some W,some R,none,none,none,none,none,none,none,none,none,none,none,none] J k=.ret (.lst zs) J:=
 nX h0 hA e1 e2 hS hC (dt rfl e3 (dt rfl e4 (dt rfl e5 (dt rfl e6 (dt rfl e7 (dt rfl e8 (af rfl (af hl (af hg (fF hX rfl))))))))))
end
section
variable {J:Sg} {c:eO} {V:aP} {H:PK T} {t0 W R run r0 r1 v mo j x:T} {w:Str} {ys zs xs:List T} {b:Int}
theorem BD (h0:aL t0 (.int 0)=some (.str w))(hA:bw W R=some run)(e1:Ew w "mark" true)(hs:gO run=some xs)(hX:∀k:PK (List T),bx (ba 6) aM (pB (p2 cH (pV 6) (xI 0 1))) c (mF t0 W R run w none) xs J [] k=k zs J){k:PK aP}:bv c [some t0,some W,some R,none,none,none,none,none,none,none,none,none,none,none,none] J k=.ret (.lst zs) J:=af rfl (af h0 (af rfl (af rfl (af hA (s8 rfl e1 (af rfl (af hs (fF hX rfl))))))))
theorem Es (h0:aL t0 (.int 0)=some (.str w))(hA:bw W R=some run)(e1:Ew w "mark" false)(e2:Ew w "yes" true)(hs:gO run=some xs)(hX:∀k:PK (List T),bx (ba 7) aM (pC (.bool true)) c (mF t0 W R run w none) xs J [] k=k zs J){k:PK aP}:bv c [some t0,some W,some R,none,none,none,none,none,none,none,none,none,none,none,none] J k=.ret (.lst zs) J:=af rfl (af h0 (af rfl (af rfl (af hA (dt rfl e1 (s8 rfl e2 (af rfl (af hs (fF hX rfl)))))))))
theorem Cv (h5:bX V 5=some (.lst ys))(h1:bX V 1=some W)(h2:bX V 2=some R)(h10:bX V 10=some x)(hr:aL (.lst ys) (.int 0)=some r0)(hc:c.call 44 [W,R,x] J=.ret mo J)(hm:aL mo (.int 1)=some j)(hv:aL r0 j=some v):p2 aL (xI 5 0) (p2 aL (ax 44 (ae (pV 1) (ae (pV 2) (ae (pV 10) an)))) (pI 1)) c V J H=H v J:=
 af h5 (af hr (af h1 (af h2 (af h10 (az hc (af hm (af hv rfl)))))))
theorem GI (h5:bX V 5=some (.lst ys))(h12:bX V 12=some x)(hr:aL (.lst ys) (.int 0)=some r0)(hv:aL r0 x=some v):p2 aL (xI 5 0) (pV 12) c V J H=H v J:=af h5 (af hr (af h12 (af hv rfl)))
theorem xp {a:Bool}(h1:bX V 1=some W)(h2:bX V 2=some R)(h11:bX V 11=some x)(hc:c.call 44 [W,R,x] J=.ret (.lst xs) J)(hX:∀k:PK (List T),bx (ba 12) aM (p2 aL (xI 5 0) (pV 12)) c V xs J [] k=k zs J)(hn:fK (.bool false) (.lst zs)=some a):pB (p2 fK (pC (.bool false)) (aU (bm (ax 44 (ae (pV 1) (ae (pV 2) (ae (pV 11) an))))) (ba 12) aM (p2 aL (xI 5 0) (pV 12)))) c V J H=H (.bool a) J:=
 af h1 (af h2 (af h11 (az hc (af rfl (fF hX (af hn rfl))))))
theorem zZ {a:Bool}(h5:bX V 5=some (.lst ys))(hr:aL (.lst ys) (.int 0)=some r0)(h1:bX V 1=some W)(hl:br W=some (.int b))(hs:bR r0 (some b) none=some r1)(hi:iM (.bool true) r1=some a):pB (p2 iM (pC (.bool true)) (p3 bR (xI 5 0) (p1 cZ (p1 br (pV 1))) jt)) c V J H=H (.bool a) J:=
 af h5 (af hr (af h1 (af hl (af rfl (af hs (af hi rfl))))))
theorem Cu (h5:bX V 5=some (.lst ys))(hr:aL (.lst ys) (.int 0)=some r0)(hr1:aL (.lst ys) (.int 1)=some r1)(h1:bX V 1=some W)(h2:bX V 2=some R)(h14:bX V 14=some x)(hc:c.call 44 [W,R,x] J=.ret mo J)(ht:c.call 45 [r0,r1,mo] J=.ret v J):ax 45 (ae (xI 5 0) (ae (xI 5 1) (ae (ax 44 (ae (pV 1) (ae (pV 2) (ae (pV 14) an)))) an))) c V J H=H v J:=
 af h5 (af hr (af h5 (af hr1 (af h1 (af h2 (af h14 (az hc (az ht rfl))))))))
end
noncomputable abbrev Em (n b i:Nat):List Nat:=range' i (n - i)++range' b (n - b)
theorem um {a n:Nat}(h:a<=n)(hn:n<=100000):vy [nT a,nT n]=some ((range' a (n - a)).map nT):=by
 have s:Builtin.Range.rangeSize a n 1=((n - a:Nat):Int):=by
  refine (if_pos (by decide)).trans ?_
  rcases Nat.lt_or_ge a n with q |q
  .rw [if_pos (bN q),ediv_one,Int.sub_add_cancel,Int.ofNat_sub h]
  .rw [if_neg (Int.not_lt.mpr (cc q)),Nat.sub_eq_zero_of_le q];rfl
 have e:dJ a n 1=(range' a (n - a)).map nT:=by
  rw [dJ,s,List.range'_eq_map_range,map_map]
  exact map_congr_left fun k _=>congrArg T.int (by rw [Int.mul_one];rfl)
 unfold vy
 show rg a n=_
 rw [rg,e,lh (by rw [dX];lia),lh (by rw [dX];lia),length_map,List.length_range',show bS (n - a)=true from ble_eq_true_of_le (by rw [dX];lia)];rfl
section
variable {J:Sg} {ws rs:List T} {n b i:Nat} {p q:Nat->Bool}
theorem AE (hw:ws.length=b)(hr:ws.length+rs.length=n)(hi:i<=n)(hn:n<=1000)(m:Nat):aw Ψ (m+1) 44 [.lst ws,.lst rs,nT i] J=.ret (.lst ((Em n b i).map nT)) J:=by
 have l1:br (.lst ws)=some (nT b):=by rw [<-hw];unfold br;rfl
 have l2:br (.lst rs)=some (.int rs.length):=by unfold br;rfl
 have e:bw (nT b) (.int rs.length)=some (nT n):=by unfold bw;exact congrArg (fun z=>some (T.int z)) (by rw [<-hr,<-hw];rfl)
 have hb:b<=n:=by rw [<-hr,hw];exact le_add_right _ _
 have cp:∀{c:eO} {V:aP} {j:Nat} {l:List Nat} {k:PK (List T)} {o:cj},(∀t,bX (V.set j (some t)) j=some t)->k (l.map nT) J=o->bx (ba j) aM (pV j) c V (l.map nT) J [] k=o:=fun {c V j l k o} h hk=>by
  refine bn (e:=nT) nT (fun x _=>⟨_,rfl,fun H=>?_⟩) hk
  show up (bX (List.set V j (some (nT x))) j) J H=_
  rw [h];unfold up;rfl
 refine rH (af rfl (af l1 (af rfl (af l2 (af e (af rfl (af rfl (af (um hi (le_trans hn (by decide))) (cp (fun _=>rfl) (af rfl (af l1 (af rfl (af (um hb (le_trans hn (by decide))) (cp (fun _=>rfl) (af (eN (e:=nT) (l:=range' i (n - i)) (q:=range' b (n - b)) ?_) rfl)))))))))))))))
 rw [List.length_range',List.length_range'];exact le_trans (add_le_add (le_trans (sub_le _ _) hn) (le_trans (sub_le _ _) hn)) (by decide)
theorem sW (hn:n<=1000)(m:Nat){mo:List Nat}(hm:∀x∈mo,x < n):aw Ψ (m+1) 45 [bT n p,bT n q,.lst (mo.map nT)] J=.ret (.bool (mr p q mo)) J:=by
 have lp:∀(l:List Nat) (x3:Option T) (k:PK aP),(∀x∈l,x < n)->(∀x3,k [some (bT n p),some (bT n q),some (.lst (mo.map nT)),x3] J=.ret (.bool false) J)->
   cu (ba 3) (ah (bI (qE (xV 1 3)) (ah (aF (pC (.bool true))) am) am) (ah (bI (c9 (qE (xV 0 3))) zF am) am)) ⟨aw Ψ m⟩ (l.map nT) [some (bT n p),some (bT n q),some (.lst (mo.map nT)),x3] J k=.ret (.bool (mr p q l)) J:=fun l=>by
  induction l with
  |nil=>exact fun x3 k _ hk=>hk x3
  |cons x l ih=>
   intro x3 k hl hk
   have nl:n<=lim:=le_trans hn (by decide)
   have hx:=hl x (.head _)
   have e:=ih (some (nT x)) k (fun y hy=>hl y (.tail _ hy)) hk
   refine fZ (v:=nT x) (l:=l.map nT) rfl (af rfl (af rfl (af (oO hx nl) (af rfl ?_))))
   rw [show mr p q (x::l)=(q x||(p x&&mr p q l)) from rfl]
   cases q x with
   |true=>exact c7 rfl rfl
   |false=>
    refine bP rfl (af rfl (af rfl (af (oO hx nl) (af rfl ?_))))
    cases p x with
    |true=>exact bP rfl e
    |false=>exact c7 rfl rfl
 exact tM (af rfl (af rfl (lp mo none _ hm fun _=>rfl)))
end
section
variable {n b i:Nat}
theorem y9 (hb:b < n)(hi:i < n):∀x∈Em n b i,x < n:=fun x hx=>by
 rcases ai hx with h |h
 .have:=List.mem_range'_1.mp h;lia
 .have:=List.mem_range'_1.mp h;lia
theorem Ge (hb:b < n)(hi:i < n):(Em n b i)[1]?=some (nx n b i):=by
 unfold nx
 show (range' i (n - i)++range' b (n - b))[1]?=_
 by_cases e:i+1=n
 .subst e;rw [if_pos rfl,Nat.add_sub_cancel_left,Nat.succ_sub (le_of_lt_succ hb),range'_succ,range'_succ];rfl
 .obtain ⟨d,rfl⟩:=exists_eq_add_of_le (show i+2<=n from Nat.lt_of_le_of_ne hi e)
  rw [if_neg e,add_assoc,Nat.add_sub_cancel_left,add_comm 2 d,range'_succ,range'_succ];rfl
end
section
variable {w r:List Str} {J:Sg}
theorem BA {α:Type}{f:α->Bool}{l:List α}:decide (true∈l.map f)=l.any f:=by
 rw [Bool.eq_iff_iff,decide_eq_true_iff,any_eq_true,mem_map]
theorem Bw {α:Type}{f:α->Bool}{l:List α}:(!decide (false∈l.map f))=l.all f:=by
 rw [Bool.eq_iff_iff,not_eq_true',decide_eq_false_iff_not,all_eq_true,mem_map]
 exact ⟨fun h x hx=>by cases e:f x with |true=>rfl |false=>exact absurd ⟨x,hx,e⟩ h,fun h ⟨x,hx,e⟩=>by rw [h x hx] at e;cases e⟩
theorem zf (hr:0 < r.length)(hn:(w++r).length<=1000):∀(m:Nat) (s:Sy),dep s<=m->aw Ψ (m+2) 46 [bo s,.lst (w.map .str),.lst (r.map .str)] J=.ret (bT (w++r).length (i9 (w++r) w.length s)) J:=by
 have hb:w.length < (w++r).length:=by rw [List.length_append];lia
 have nl:(w++r).length<=lim:=le_trans hn (by decide)
 have hA:bw (.lst (w.map .str)) (.lst (r.map .str))=some (.lst ((w++r).map .str)):=eN (by rw [<-List.length_append];exact nl)
 have hl:br (.lst ((w++r).map T.str))=some (.int (w++r).length):=congrArg (fun z:Nat=>some (T.int z)) (length_map ..)
 have hg:vy [.int (w++r).length]=some ((List.range (w++r).length).map nT):=gQ (le_trans hn (by decide))
 have ret:∀{f:Nat->Bool} {s:Sy},(∀i,i < (w++r).length->f i=i9 (w++r) w.length s i)->cj.ret (bT (w++r).length f) J=.ret (bT (w++r).length (i9 (w++r) w.length s)) J:=fun h=>by rw [Aw h]
 have over:∀f:Str->Bool,(w++r).map (fun x=>T.bool (f x))=(List.range (w++r).length).map fun i=>T.bool (f (((w++r)[i]?).getD default)):=fun f=>by
  refine List.ext_getElem? fun i=>?_
  rw [getElem?_map,getElem?_map]
  by_cases h:i < (w++r).length
  .rw [List.getElem?_range h]
   show _=some (T.bool (f (((w++r)[i]?).getD default)))
   rw [getElem?_eq_getElem h];rfl
  .rw [List.getElem?_eq_none (Nat.le_of_not_lt h),List.getElem?_eq_none (by rw [length_range];exact Nat.le_of_not_lt h)];rfl
 have after:∀{i:Nat} (m:Nat),i < (w++r).length->aw Ψ (m+1) 44 [.lst (w.map .str),.lst (r.map .str),nT i] J=.ret (.lst ((Em (w++r).length w.length i).map nT)) J:=fun m hi=>AE (length_map ..) (by rw [length_map,length_map,List.length_append]) (le_of_lt hi) hn m
 intro m
 induction m with
 |zero=>intro s h;exact absurd (gr s) (eR (lt_succ_of_le h))
 |succ m ih=>
  intro s hs
  have C:(∀x,s≠.mark x)->∀{v:Str} (k:PK (List T)),bx (ba 8) aM (ax 46 (ae (pV 8) (ae (pV 1) (ae (pV 2) an)))) ⟨aw Ψ (m+2)⟩ (mF (bo s) (.lst (w.map .str)) (.lst (r.map .str)) (.lst ((w++r).map .str)) v none) ((ci s).map bo) J [] k=k ((ci s).map fun p=>bT (w++r).length (i9 (w++r) w.length p)) J:=fun _ {v} k=>
   bn (e:=bo) (fun p=>bT (w++r).length (i9 (w++r) w.length p)) (fun p hp=>⟨_,rfl,fun H=>az (ih p (le_of_lt_succ (lt_of_lt_of_le (cb hp) hs))) rfl⟩) rfl
  cases s with
  |mark x=>
   refine bU ((BD rfl hA rfl rfl fun k=>bn (e:=T.str) (fun y=>.bool (PyData.eqv (.str y) (.str x))) (fun y _=>⟨_,rfl,fun k=>rfl⟩) rfl).trans ?_)
   rw [over]
   exact ret fun i hi=>by rw [Bool.eq_iff_iff,b8];show _↔PyData.eqv (.str (lw (w++r) w.length i)) (.str x)=true;rw [lw,Cc hb i hi]
  |yes=>
   refine bU ((Es rfl hA rfl rfl rfl fun k=>bn (e:=T.str) (fun _=>.bool true) (fun y _=>⟨_,rfl,fun k=>rfl⟩) rfl).trans ?_)
   rw [over fun _=>true]
   exact ret fun i hi=>((b8 (s:=.yes)).mpr trivial).symm
  |not a=>exact bU ((Et rfl hA rfl rfl (by kernel_rfl) (C fun _ h=>nomatch h) rfl rfl fun k=>bn (e:=fun i=>T.bool (i9 (w++r) w.length a i)) (fun i=>.bool (!i9 (w++r) w.length a i)) (fun i _=>⟨_,rfl,fun H=>rfl⟩) rfl).trans (ret fun i _=>A6))
  |and a c=>exact bU ((Eu rfl hA rfl rfl (by kernel_rfl) (C fun _ h=>nomatch h) rfl rfl rfl rfl (xX _)).trans (ret fun i _=>by rw [Bool.eq_iff_iff,and_eq_true,b8,b8,b8];exact .rfl))
  |or a c=>exact bU ((Gk rfl hA rfl rfl (by kernel_rfl) (C fun _ h=>nomatch h) rfl rfl rfl rfl rfl (xX _)).trans (ret fun i _=>by rw [Bool.eq_iff_iff,or_eq_true,b8,b8,b8];exact .rfl))
  |next a=>
   refine bU ((BC rfl hA rfl rfl (by kernel_rfl) (C fun _ h=>nomatch h) rfl rfl rfl rfl hl hg (fun k=>bn (e:=nT) (fun i=>.bool (i9 (w++r) w.length a (nx (w++r).length w.length i))) (fun i hi=>⟨_,rfl,fun H=>Cv rfl rfl rfl rfl rfl (after (m+1) (bh hi)) (bq (Ge hb (bh hi)) (by decide)) (oO (Dd hb (bh hi)) nl)⟩) rfl)).trans (ret fun i hi=>?_))
   rw [Bool.eq_iff_iff,b8,b8]
   show _↔Sem (lw (w++r) w.length) a (i+1)
   rw [yG hb a (i+1),rc,Cc hb i hi]
  |always a=>
   refine bU ((w8 rfl hA rfl rfl (by kernel_rfl) (C fun _ h=>nomatch h) rfl rfl rfl rfl rfl hl hg (fun k=>bn (e:=nT) (fun i=>.bool ((Em (w++r).length w.length i).all (i9 (w++r) w.length a))) (fun i hi=>⟨_,rfl,fun H=>xp rfl rfl rfl (after (m+1) (bh hi)) (fun k=>bn (e:=nT) (fun x=>.bool (i9 (w++r) w.length a x)) (fun x hx=>⟨_,rfl,fun H=>GI rfl rfl rfl (oO (y9 hb (bh hi) x hx) nl)⟩) rfl) ?_⟩) rfl)).trans (ret fun i hi=>?_))
   .rw [<-Bw]
    exact io.nin (by decide) (l:=(Em (w++r).length w.length i).map (i9 (w++r) w.length a)) trivial (fun _ _=>trivial) (congrArg some (map_map ..).symm)
   .rw [<-sj hb hi,<-sr hb hi,pH,Bool.not_not]
  |again a=>
   refine bU ((zg rfl hA rfl rfl (by kernel_rfl) (C fun _ h=>nomatch h) rfl rfl rfl rfl rfl rfl rfl (fun k=>bn (e:=T.str) (fun _=>.bool (((List.range (w++r).length).drop w.length).any (i9 (w++r) w.length a))) (fun x _=>⟨_,rfl,fun H=>zZ (b:=(w.length:Int)) rfl rfl rfl (congrArg (fun z:Nat=>some (T.int z)) (length_map ..)) vq ?_⟩) rfl)).trans ?_)
   .rw [Af (by rw [length_map,length_range];exact le_of_lt hb),<-List.map_drop,<-BA]
    exact io.mem (by decide) (l:=((List.range (w++r).length).drop w.length).map (i9 (w++r) w.length a)) trivial (fun _ _=>trivial) (congrArg some (map_map ..).symm)
   .rw [over fun _=>((List.range (w++r).length).drop w.length).any (i9 (w++r) w.length a)]
    exact ret fun i hi=>uk hb hi
  |till a c=>
   refine bU ((BB rfl hA rfl rfl (by kernel_rfl) (C fun _ h=>nomatch h) rfl rfl rfl rfl rfl rfl hl hg (fun k=>bn (e:=nT) (fun i=>.bool (mr (i9 (w++r) w.length a) (i9 (w++r) w.length c) (Em (w++r).length w.length i))) (fun i hi=>⟨_,rfl,fun H=>Cu rfl rfl rfl rfl rfl rfl (after (m+1) (bh hi)) (sW hn _ (y9 hb (bh hi)))⟩) rfl)).trans (ret fun i hi=>?_))
   rw [sr hb hi];exact wJ hb hi
end
theorem fh (a:Int){n:Nat}(h:0 < n):∃k:Nat,a.fmod (n:Int)=(k:Int)/\k < n:=by
 have h1:0<=a.fmod (n:Int):=Int.fmod_nonneg_of_pos _ (Int.natCast_pos.mpr h)
 have h2:a.fmod (n:Int) < (n:Int):=Int.fmod_lt_of_pos _ (Int.natCast_pos.mpr h)
 exact ⟨(a.fmod (n:Int)).toNat,(Int.toNat_of_nonneg h1).symm,(Int.toNat_lt h1).mpr h2⟩
theorem Lw.append {a b:Str}(ha:Lw a)(hb:Lw b):Lw (a++b):=fun c h=>by
 have e:(a++b).cps.toList=a.cps.toList++b.cps.toList:=by
  show (a.cps++b.cps).toList=_
  rw [Array.toList_append]
 rw [e] at h
 exact (ai h).elim (ha c) (hb c)
theorem Lw.cut {x:Str}{lo hi:Option Int}(h:Lw x):Lw (f6 lo hi x):=fun c hc=>h c (List.mem_of_mem_drop (List.mem_of_mem_take hc))
theorem gj (a b:Str):(a++b).length=a.length+b.length:=Array.size_append ..
theorem BN:∀k,k < 26->AF.cps[k]?=some (97+k):=by decide+kernel
noncomputable def lt (x:Int):Str:=⟨#[97+(x.fmod 26).toNat]⟩
theorem zm (x:Int):aL (.str AF) (.int (x.fmod 26))=some (.str (lt x)):=by
 obtain ⟨k,h1,h2⟩:=fh x (n:=26) (by decide)
 have h1:x.fmod 26=(k:Int):=h1
 rw [lt,h1]
 show vk k AF=_
 rw [vk,lh (le_trans (le_of_lt h2) (by decide)),jI (show k < AF.length from h2)]
 show (AF.cps[k]?).map _=_
 rw [BN k h2];rfl
theorem nY (x:Int):Lw (lt x):=fun c h=>by
 obtain ⟨k,h1,h2⟩:=fh x (n:=26) (by decide)
 have h1:x.fmod 26=(k:Int):=h1
 have e:c=97+(x.fmod 26).toNat:=aa h
 rw [e,h1]
 exact and_eq_true_iff.mpr ⟨ble_eq_true_of_le (le_add_right _ _),ble_eq_true_of_le (by lia)⟩
theorem nZ (x:Int):(lt x).length=1:=rfl
def A8 (f:Nat->Int):Str:=Txt.join (ofString "") [lt (f 0),lt (f 1),lt (f 2),lt (f 3),lt (f 4),lt (f 5)]
theorem yA (f:Nat->Int):A8 f=lt (f 0)++ofString ""++(lt (f 1)++ofString ""++(lt (f 2)++ofString ""++(lt (f 3)++ofString ""++(lt (f 4)++ofString ""++lt (f 5))))):=by
 show Builtin.Str.glued _ _=_
 rw [StrLaws.glued_eq_join];rfl
theorem rA:(ofString "").length=0:=by decide+kernel
theorem lH:Lw (ofString ""):=fun c h=>by
 have e:(ofString "").cps.toList=[]:=by decide+kernel
 rw [e] at h;cases h
theorem vr (f:Nat->Int):(A8 f).length=6:=by
 rw [yA];simp only [gj,nZ,rA]
theorem yz (f:Nat->Int):Lw (A8 f):=by
 rw [yA]
 exact ((nY _).append lH).append (((nY _).append lH).append (((nY _).append lH).append (((nY _).append lH).append (((nY _).append lH).append (nY _)))))
theorem Cb (f:Nat->Int):vR (.str (ofString "")) (.lst [.str (lt (f 0)),.str (lt (f 1)),.str (lt (f 2)),.str (lt (f 3)),.str (lt (f 4)),.str (lt (f 5))])=some (.str (A8 f)):=by
 have k:PyData.strOk (A8 f)=true:=by
  have:=yz f
  exact Array.all_eq_true_iff_forall_mem.mpr fun c hc=>decide_eq_true (lt_of_le_of_lt (ri (this c (Array.mem_toList_iff.mpr hc))).2 (by decide))
 show (bif JoinOk (ofString "") [lt (f 0),lt (f 1),lt (f 2),lt (f 3),lt (f 4),lt (f 5)]&&PyData.strOk (A8 f)&&bS (A8 f).length then some (T.str (A8 f)) else none)=_
 rw [k,vr,show JoinOk (ofString "") [lt (f 0),lt (f 1),lt (f 2),lt (f 3),lt (f 4),lt (f 5)]=true from by kernel_rfl];rfl
theorem Ai {x:Str}{lo hi:Option Int}:(f6 lo hi x).length<=x.length:=by
 show ((x.cps.toList.drop _).take _).toArray.size<=x.cps.toList.length
 rw [size_toArray,length_take,length_drop];exact le_trans (Nat.min_le_right _ _) (sub_le _ _)
theorem Ag {x:Str}(hx:x.length=6){k:Nat}(h:1<=k):1<=(f6 none (some (k:Int)) x).length:=by
 show 1<=(Mine.cut none (some (k:Int)) x.cps.toList).toArray.size
 have:x.cps.toList.length=6:=hx
 rw [je,size_toArray,length_take,this];lia
theorem Cy {x:Str}{k:Nat}:(f6 none (some (k:Int)) x).length<=k:=by
 show (Mine.cut none (some (k:Int)) x.cps.toList).toArray.size<=k
 rw [je,size_toArray,length_take];exact min_le_left _ _
theorem Ah {x:Str}(hx:x.length=6){a z:Nat}(h:a<=z)(hz:z<=6):(f6 (some (a:Int)) (some (z:Int)) x).length<=z - a:=by
 have e:x.cps.toList.length=6:=hx
 show ((x.cps.toList.drop (clipAt x.cps.toList.length a)).take (clipAt x.cps.toList.length z - clipAt x.cps.toList.length a)).toArray.size<=_
 rw [e,rD hz,rD (le_trans h hz),size_toArray,length_take];exact min_le_left _ _
structure Nm (x:Str):Prop where
 m:Mk x
 ne:x≠ofString ""
theorem Nm.of {x:Str}(h1:x.length<=6)(h2:Lw x)(h3:1<=x.length):Nm x:=⟨⟨h1,h2⟩,fun e=>by rw [e,rA] at h3;cases h3⟩
structure Fr (x y z:Str):Prop where
 a:Nm x
 b:Nm y
 c:Nm z
noncomputable abbrev mJ (x y z:Str):T:=.lst [.str x,.str y,.str z]
section
variable {J:Sg}
theorem cG (a:Int){k:Nat}(h:(bif ((k:Int)==0)||Nat.ble 1073741824 (k:Int).natAbs then false else true)=true):dY (.int a) (.int k)=some (.int (a.fdiv k)):=by
 unfold dY
 show (bif ((k:Int)==0)||Nat.ble 1073741824 (k:Int).natAbs then none else some (T.int (a.fdiv k)))=_
 cases e:((k:Int)==0)||Nat.ble 1073741824 (k:Int).natAbs with
 |true=>rw [e] at h;cases h
 |false=>rfl
theorem dg (a:Int){k:Nat}(h:0 < k):bZ (.int a) (.int k)=some (.int (a.fmod k)):=by
 unfold bZ
 show (bif ((k:Int)==0) then none else some (T.int (a.fmod k)))=_
 rw [beq_eq_false_iff_ne.mpr (by lia)];rfl
theorem fV (a:Int){n:Nat}(h:0 < n):∃k:Nat,bZ (.int a) (.int n)=some (nT k)/\k < n:=by
 obtain ⟨k,h1,h2⟩:=fh a h
 exact ⟨k,by rw [dg a h,h1],h2⟩
theorem add_int (a b:Int):bw (.int a) (.int b)=some (.int (a+b)):=by unfold bw;rfl
theorem mM {k:Nat}(a:Int)(h:sm k=true):hU (.int k) (.int a)=some (.int (k * a)):=by
 unfold hU
 show (bif sm k||sm a then some (T.int (k * a)) else none)=_
 rw [h];rfl
theorem yx (x:Str)(lo hi:Option Int):bR (.str x) lo hi=some (.str (f6 lo hi x)):=by unfold bR;rfl
theorem DD {a b:Str}(h:a.length+b.length<=100):bw (.str a) (.str b)=some (.str (a++b)):=by
 unfold bw
 exact uT (by rw [gj];exact le_trans h (by decide))
theorem y8 (cell:Int)(n:Nat):ck (fun t J'=>J'=J/\∃x y z,t=mJ x y z/\Fr x y z) (aw Ψ (n+1) 19 [.int cell] J):=by
 let f:Nat->Int:=fun j=>cell.fdiv 7+5 * (j:Int)
 have hl:=vr f
 have hw:=yz f
 refine qJ (aH (gQ (n:=6) (by decide)) (gt (e:=nT) (fun j=>.str (lt (f j))) (fun j _=>⟨_,rfl,fun k=>?_⟩) (aH (Cb f) ?_)))
 .exact af rfl (af rfl (af (cG cell (k:=7) rfl) (af rfl (af (mM (k:=5) j rfl) (af (add_int _ _) (af (dg _ (k:=26) (by decide)) (af (zm _) rfl)))))))
 generalize A8 f=rest at hl hw
 refine aH rfl (aH (dg cell (k:=3) (by decide)) (aH (ik _ _) ?_))
 have c6:∀{lo hi:Option Int},(f6 lo hi rest).length<=6:=hl▸Ai
 refine fN (fun _=>?_) fun _=>?_
 .obtain ⟨q,hq,q4⟩:=fV (cell.fdiv (3:Nat)) (n:=4) (by decide)
  have e:∀k:Nat,(1+(q:Int))+(k:Int)=((1+q+k:Nat):Int):=fun k=>by lia
  have nm:∀k:Nat,Nm (f6 none (some ((1+q+k:Nat):Int)) rest):=fun k=>.of c6 hw.cut (Ag hl (by lia))
  refine aH rfl (aH (cG cell (k:=3) rfl) (aH hq (aH (add_int 1 _) (aH (gQ (n:=3) (by decide)) (gt (e:=nT) (fun k=>.str (f6 none (some ((1+q+k:Nat):Int)) rest)) (fun k _=>⟨_,rfl,fun H=>?_⟩) (cT ⟨rfl,_,_,_,rfl,nm 0,nm 1,nm 2⟩))))))
  rw [<-e]
  exact af rfl (af rfl (af rfl (af (add_int _ _) (af rfl (af (yx _ _ _) rfl)))))
 .obtain ⟨z,hz,z6⟩:=fV (cell.fdiv (3:Nat)) (n:=6) (by decide)
  obtain ⟨a,ha,a1⟩:=fV (cell.fdiv (18:Nat)) (n:=z+1) (succ_pos _)
  let y:Nat->Str:=fun k=>f6 none (some (a:Int)) rest++lt (cell.fdiv 90+7 * (k:Int))++f6 (some (a:Int)) (some (z:Int)) rest
  have l1:(f6 none (some (a:Int)) rest).length<=a:=Cy
  have l2:(f6 (some (a:Int)) (some (z:Int)) rest).length<=z - a:=Ah hl (by lia) (by lia)
  have nm:∀k,Nm (y k):=fun k=>.of (by rw [gj,gj,nZ];lia) ((hw.cut.append (nY _)).append hw.cut) (by rw [gj,gj,nZ];lia)
  refine aH rfl (aH (cG cell (k:=3) rfl) (aH hz (aH rfl (aH (cG cell (k:=18) rfl) (aH rfl (aH (add_int _ _) (aH ha ?_)))))))
  have turn:∀(k:Nat) (X:List T) (x7:Option T),X.length<=10->∀H:PK aP,ah (aD 7 (p2 aL (pV 1) (p2 bZ (p2 bw (p2 dY (pV 0) (pI 90)) (p2 hU (pI 7) (pV 6))) (pI 26)))) (ah (iI 5 dL (p2 bw (p2 bw (p3 bR (pV 2) jt (p1 cZ (pV 4))) (pV 7)) (p3 bR (pV 2) (p1 cZ (pV 4)) (p1 cZ (pV 3))))) am)
    ⟨aw Ψ n⟩ [some (.int cell),some (.str AF),some (.str rest),some (nT z),some (nT a),some (.lst X),some (nT k),x7,none,none] J H=H [some (.int cell),some (.str AF),some (.str rest),some (nT z),some (nT a),some (.lst (X++[.str (y k)])),some (nT k),some (.str (lt (cell.fdiv 90+7 * (k:Int)))),none,none] J:=fun k X x7 hX H=>
   af rfl (af rfl (af (cG cell (k:=90) rfl) (af rfl (af (mM (k:=7) k rfl) (af (add_int _ _) (af (dg _ (k:=26) (by decide)) (af (zm _) (af rfl (af rfl (af rfl (af (yx _ _ _) (af rfl (af (DD (by rw [nZ];lia)) (af rfl (af rfl (af rfl (af rfl (af rfl (af (yx _ _ _) (af (DD (by rw [gj,nZ];lia)) (af (Az (lt_of_le_of_lt hX (by decide))) rfl)))))))))))))))))))))
  refine o8 rfl (aH (gQ (n:=3) (by decide)) ?_)
  have t0:=turn 0 [] none (le_of_ble_eq_true rfl)
  have t1:=fun x7=>turn 1 [.str (y 0)] x7 (le_of_ble_eq_true rfl)
  have t2:=fun x7=>turn 2 [.str (y 0),.str (y 1)] x7 (le_of_ble_eq_true rfl)
  refine ⟨mJ (y 0) (y 1) (y 2),J,?_,rfl,_,_,_,rfl,nm 0,nm 1,nm 2⟩
  refine (t0 _).trans ((t1 _ _).trans ((t2 _ _).trans ?_))
  exact af rfl rfl
end
section
variable {ns:List Int} {J:Sg}
theorem qD {k:Nat}(h:k < ns.length)(hn:ns.length<=63):aL (.scr ns) (nT k)=some (.int ns[k]):=by
 have:AS k (ns.map T.int)=some (.int ns[k]):=vb (getElem?_eq_getElem h) (le_trans (le_of_lt h) (le_trans hn (by decide)))
 unfold aL;exact this
theorem wj (hn:ns.length<=63)(k n:Nat):ck (fun t J'=>J'=J/\∃z,t=.int z) (aw Ψ (n+1) 17 [.scr ns,nT k] J):=by
 refine nC (aH rfl (aH rfl (aH rfl (aH rfl (fN (fun h=>?_) fun _=>cT ⟨rfl,0,rfl⟩)))))
 have h:k < ns.length:=ofNat_lt.mp (of_decide_eq_true h)
 exact aH rfl (aH rfl (aH (qD h hn) (cT ⟨rfl,_,rfl⟩)))
theorem Dh (a:Int){k:Nat}(h:sm k=true):hU (.int a) (.int k)=some (.int (a * k)):=by
 unfold hU
 show (bif sm a||sm k then some (T.int (a * k)) else none)=_
 rw [h,Bool.or_true];rfl
theorem FO (j:Nat):gF (.int ((j:Int)+1)) (.int 1)=some (nT j):=by unfold gF;exact congrArg (fun z=>some (T.int z)) (Int.add_sub_cancel ..)
theorem j9 (hn:ns.length<=63)(j n:Nat){se:Option (Nat×List T)}:ck (fun t J'=>J'=⟨((j+1:Nat):Int),se⟩/\∃z,t=.int z) (aw Ψ (n+1) 18 [.scr ns,.spot] ⟨(j:Int),se⟩):=by
 refine sE (aH (add_int _ _) (aH (FO j) (aH rfl (aH rfl (aH rfl (aH rfl (fN (fun h=>?_) fun _=>?_)))))))
 .have h:j < ns.length:=ofNat_lt.mp (of_decide_eq_true h)
  exact aH rfl (aH rfl (aH (qD h hn) (cT ⟨rfl,_,rfl⟩)))
 .refine aH rfl (aH rfl (aH rfl (fN (fun h=>?_) fun _=>?_)))
  .have h:4 < ns.length:=by have:=of_decide_eq_true h;lia
   obtain ⟨k,hk,k1⟩:=fV (j:Int) (n:=ns.length) (lt_trans (by decide) h)
   refine aH rfl (aH rfl (fN (fun _=>?_) fun _=>?_))
   .exact G0 (aH rfl (aH rfl (aH rfl (aH rfl (aH hk (aH (qD k1 hn) (aH rfl (aH (mM (k:=7919) j rfl) (aH (add_int _ _) (aH (Dh _ (k:=48271) rfl) (aH (dg _ (k:=1000003) (by decide)) (cT ⟨rfl,_,rfl⟩))))))))))))
   .exact cT ⟨rfl,0,rfl⟩
  .exact cT ⟨rfl,0,rfl⟩
noncomputable def vl (f:Int)(m k:Nat):Nat:=((f+(k:Int)).fmod (m:Int)).toNat
theorem Fy {f:Int}{m k:Nat}(hm:0 < m):vl f m k < m:=by
 obtain ⟨x,h1,h2⟩:=fh (f+(k:Int)) hm
 rw [vl,h1];exact h2
theorem yb {f:Int}{m k:Nat}(hm:0 < m):bZ (.int (f+(k:Int))) (nT m)=some (nT (vl f m k)):=by
 obtain ⟨x,h1,h2⟩:=fh (f+(k:Int)) hm
 rw [dg _ hm,vl,h1];rfl
theorem Fx {f:Int}{m j k:Nat}(hm:0 < m)(hj:j < k)(hk:k < m):vl f m j≠vl f m k:=fun e=>by
 have e1:(f+(j:Int)).fmod m=(f+(k:Int)).fmod m:=by
  obtain ⟨x,h1,_⟩:=fh (f+(j:Int)) hm
  obtain ⟨y,h2,_⟩:=fh (f+(k:Int)) hm
  rw [vl,vl,h1,h2] at e
  rw [h1,h2];exact congrArg ofNat e
 rw [Int.fmod_eq_emod_of_nonneg _ (by lia),Int.fmod_eq_emod_of_nonneg _ (by lia)] at e1
 have h0:=(Int.emod_eq_emod_iff_emod_sub_eq_zero).mp e1
 have h1:(f+(j:Int)) - (f+(k:Int))=-(((k - j:Nat):Int)):=by lia
 rw [h1] at h0
 have h2:((k - j:Nat):Int) % (m:Int)=0:=Int.emod_eq_zero_of_dvd (Int.dvd_neg.mp (Int.dvd_of_emod_eq_zero h0))
 rw [Int.emod_eq_of_lt (by lia) (by lia)] at h2
 lia
theorem vm {m:Nat}(hm:0 < m)(hm':m<=1000)(cell first:Int)(n:Nat):ck (fun t J'=>J'=J/\∃r,t=bY r/\xU m r) (aw Ψ (n+1) 24 [.int cell,nT m,.int first] J):=by
 have lp:∀(d k:Nat) (r:List Nat) (z:Int) (x5:Option T),k+d=m->r≠[]->r.Nodup->(∀p∈r,∃j,j < k/\p=vl first m j)->r.length<=k->
   ck (fun t J'=>J'=J/\∃r,t=bY r/\xU m r) (cu (ba 5) (ah (bI (p2 cH (p2 bZ (pV 3) (pI 3)) (pI 1)) (ah (iI 4 dL (p2 bZ (p2 bw (pV 2) (pV 5)) (pV 1))) am) am) (ah (aD 3 (p2 dY (pV 3) (pI 3))) am)) ⟨aw Ψ n⟩ ((range' k d).map nT) [some (.int cell),some (nT m),some (.int first),some (.int z),some (bY r),x5] J fun V J=>ah (aF (pV 4)) am ⟨aw Ψ n⟩ V J (kE 24)):=fun d=>by
  induction d with
  |zero=>exact fun k r z x5 e h1 h2 h3 _=>aH rfl (cT ⟨rfl,r,rfl,h1,h2,fun p hp=>by obtain ⟨j,_,rfl⟩:=h3 p hp;exact Fy hm⟩)
  |succ d ih=>
   intro k r z x5 e h1 h2 h3 h4
   have ih':=fun r z x5=>ih (k+1) r z x5 (by lia)
   have dv:∀(r:List Nat),r≠[]->r.Nodup->(∀p∈r,∃j,j < k+1/\p=vl first m j)->r.length<=k+1->ck (fun t J'=>J'=J/\∃r,t=bY r/\xU m r) (ah (aD 3 (p2 dY (pV 3) (pI 3))) am ⟨aw Ψ n⟩ [some (.int cell),some (nT m),some (.int first),some (.int z),some (bY r),some (nT k)] J fun V J=>cu (ba 5) (ah (bI (p2 cH (p2 bZ (pV 3) (pI 3)) (pI 1)) (ah (iI 4 dL (p2 bZ (p2 bw (pV 2) (pV 5)) (pV 1))) am) am) (ah (aD 3 (p2 dY (pV 3) (pI 3))) am)) ⟨aw Ψ n⟩ ((range' (k+1) d).map nT) V J fun V J=>ah (aF (pV 4)) am ⟨aw Ψ n⟩ V J (kE 24)):=fun r a b c d=>aH rfl (aH (cG z (k:=3) rfl) (ih' r _ _ a b c d))
   refine GG (v:=nT k) (l:=(range' (k+1) d).map nT) rfl (aH rfl (aH (dg z (k:=3) (by decide)) (aH (ik _ _) (fN (fun _=>?_) fun _=>?_))))
   .refine aH rfl (aH rfl (aH (add_int _ _) (aH rfl (aH (yb hm) (aH (cO (e:=nT) (vl first m k) (lt_of_le_of_lt h4 (by rw [dX];lia))) (dv (r++[vl first m k]) ?_ ?_ ?_ ?_))))))
    .exact fun q=>by cases List.append_eq_nil_iff.mp q |>.2
    .refine nodup_append.mpr ⟨h2,pairwise_singleton _ _,fun a ha b hb q=>?_⟩
     obtain ⟨j,j1,rfl⟩:=h3 a ha
     exact Fx hm j1 (by lia) (q.trans (aa hb))
    .intro p hp
     rcases ai hp with h |h
     .obtain ⟨j,j1,e⟩:=h3 p h
      exact ⟨j,Nat.lt_succ_of_lt j1,e⟩
     .exact ⟨k,lt_succ_self _,aa h⟩
    .rw [List.length_append];exact succ_le_succ h4
   .exact dv r h1 h2 (fun p hp=>by obtain ⟨j,j1,e⟩:=h3 p hp;exact ⟨j,Nat.lt_succ_of_lt j1,e⟩) (le_succ_of_le h4)
 have e0:bZ (.int first) (nT m)=some (nT (vl first m 0)):=by
  have:=yb (f:=first) (k:=0) hm
  rw [show first+((0:Nat):Int)=first from Int.add_zero _] at this;exact this
 exact sC (aH rfl (aH (Dh _ (k:=48271) rfl) (aH (dg _ (k:=1000003) (by decide)) (aH rfl (aH rfl (aH e0 (o8 rfl (aH rfl (aH (um (a:=1) hm (le_trans hm' (by decide))) (lp (m - 1) 1 [vl first m 0] _ none (by lia) (fun q=>nomatch q) (pairwise_singleton _ _) (fun p hp=>⟨0,Nat.zero_lt_one,aa hp⟩) (le_refl _)))))))))))
end
section
variable {ns:List Int}
theorem Eo:Mk (ofString ""):=⟨by rw [rA];decide,lH⟩
theorem zQ {a:T}{l:List T}:aL (.lst (a::l)) (.int 0)=some a:=eE (j:=0) rfl (zero_le _)
theorem zP {a b:T}{l:List T}:aL (.lst (a::b::l)) (.int 1)=some b:=eE (j:=1) rfl (by decide)
theorem G3 {a b:List T}(h:(a++b).length<=lim):bw (.lst a) (.lst b)=some (.lst (a++b)):=by unfold bw;exact uT h
theorem uB (hn:ns.length<=63)(j n:Nat){x y z:Str}(N:Fr x y z){most:Nat}(h1:0 < most)(h2:most<=12):
  ck (fun t w'=>(∃j':Nat,w'=⟨(j':Int),none⟩)/\∃M:Mc,t=.tup M.fs/\M.Ok/\M.names.length<=most) (aw Ψ (n+2) 25 [.scr ns,.spot,mJ x y z,nT most] ⟨(j:Int),none⟩):=by
 refine nB (aH rfl (aH rfl (b9 (j9 hn j n) ?_)))
 rintro _ _ ⟨rfl,cell,rfl⟩
 obtain ⟨m0,hm,ml⟩:=fV cell h1
 refine aH rfl (aH hm (aH (add_int 1 _) (aH rfl (aH rfl (aH zQ (aH rfl (aH zP (o8 rfl (aH (G3 (le_of_ble_eq_true rfl)) (o8 rfl (o8 rfl (aH rfl ?_))))))))))))
 obtain ⟨m,em⟩:∃m:Nat,m=1+m0:=⟨_,rfl⟩
 rw [show (1:Int)+(m0:Int)=(m:Int) by lia]
 have mp:0 < m:=by lia
 have mm:m<=most:=by lia
 let six':List Str:=[x,y,z,ofString "",x,y]
 have mk6:∀{i:Nat},i < 6->∃s,aL (.lst (six'.map .str)) (nT i)=some (.str s)/\Mk s:=fun {i} hi=>by
  have e:six'[i]?=some six'[i]:=getElem?_eq_getElem (show i < six'.length from hi)
  refine ⟨_,bq (e:=T.str) e (le_trans (le_of_lt hi) (by decide)),?_⟩
  have:=mem_of_getElem? e
  generalize six'[i]=s at this
  simp only [six',mem_cons,not_mem_nil,or_false] at this
  rcases this with rfl |rfl |rfl |rfl |rfl |rfl
  .exact N.a.m
  .exact N.b.m
  .exact N.c.m
  .exact Eo
  .exact N.a.m
  .exact N.b.m
 have lp:∀(d k:Nat) (L:List Str) (R:List (List Nat)) (x8 x9:Option T) (j:Nat) {H:PK aP} {Q:T->Sg->Prop},k+d=m->L.length=k->R.length=k->(∀s∈L,Mk s)->(∀r∈R,xU m r)->
   (∀(L:List Str) (R:List (List Nat)) (x8 x9:Option T) (j:Nat),L.length=m->R.length=m->(∀s∈L,Mk s)->(∀r∈R,xU m r)->ck Q (H [some (.scr ns),some .spot,some (mJ x y z),some (nT most),some (nT m),some (.lst (six'.map .str)),some (.lst (L.map .str)),some (.lst (R.map bY)),x8,x9] ⟨(j:Int),none⟩))->
   ck Q (cu (ba 8) (ah (aD 9 (ax 18 (ae (pV 0) (ae (pV 1) an)))) (ah (iI 6 dL (p2 aL (pV 5) (p2 bZ (pV 9) (pI 6)))) (ah (iI 7 dL (ax 24 (ae (pV 9) (ae (pV 4) (ae (p2 dY (pV 9) (pI 6)) an))))) am))) ⟨aw Ψ (n+1)⟩ ((range' k d).map nT)
    [some (.scr ns),some .spot,some (mJ x y z),some (nT most),some (nT m),some (.lst (six'.map .str)),some (.lst (L.map .str)),some (.lst (R.map bY)),x8,x9] ⟨(j:Int),none⟩ H):=fun d=>by
  induction d with
  |zero=>exact fun k L R x8 x9 j H Q e l1 l2 a b hk=>hk L R x8 x9 j (by lia) (by lia) a b
  |succ d ih=>
   intro k L R x8 x9 j H Q e l1 l2 a b hk
   refine GG (v:=nT k) (l:=(range' (k+1) d).map nT) rfl (aH rfl (aH rfl (b9 (j9 hn j n) ?_)))
   rintro _ _ ⟨rfl,c,rfl⟩
   obtain ⟨i,hi,i6⟩:=fV c (n:=6) (by decide)
   obtain ⟨s,hs,ms⟩:=mk6 i6
   refine aH rfl (aH rfl (aH hi (aH hs (aH (cO (e:=T.str) s (by rw [dX];lia)) (aH rfl (aH rfl (aH rfl (aH (cG c (k:=6) rfl) (b9 (vm mp (by lia) c _ n) ?_)))))))))
   rintro _ _ ⟨rfl,r,rfl,hr⟩
   refine aH (cO (e:=bY) r (by rw [dX];lia)) (ih (k+1) (L++[s]) (R++[r]) _ _ (j+1) (by lia) (by rw [List.length_append,l1];rfl) (by rw [List.length_append,l2];rfl) (fun s' h=>(ai h).elim (a s') fun q=>aa q▸ms) (fun r' h=>(ai h).elim (b r') fun q=>aa q▸hr) hk)
 have rg:vy [nT m]=some ((range' 0 m).map nT):=by rw [<-List.range_eq_range'];exact gQ (by lia)
 refine aH rg (lp m 0 [] [] none _ (j+1) (zero_add _) rfl rfl (fun _ h=>nomatch h) (fun _ h=>nomatch h) ?_)
 intro L R x8 x9 j l1 l2 a b
 refine aH rfl (aH rfl (b9 (j9 hn j n) ?_))
 rintro _ _ ⟨rfl,c,rfl⟩
 have ok:∀r,xU m r->(⟨L,R,r⟩:Mc).Ok:=fun r hr=>⟨by rw [l1];exact mp,by rw [l1];lia,a,by rw [l1,l2],by rw [l1];exact b,by rw [l1];exact hr⟩
 refine aH rfl (aH (dg c (k:=4) (by decide)) (aH (ik _ _) (fN (fun _=>?_) fun _=>?_)))
 .refine aH rfl (aH rfl (aH rfl (aH rfl (aH rfl (aH (cG c (k:=4) rfl) (b9 (vm mp (by lia) c _ n) ?_))))))
  rintro _ _ ⟨rfl,r,rfl,hr⟩
  exact cT ⟨⟨j+1,rfl⟩,⟨L,R,r⟩,rfl,ok r hr,by rw [show (⟨L,R,r⟩:Mc).names=L from rfl,l1];exact mm⟩
 .obtain ⟨p,hp,pm⟩:=fV (c.fdiv (4:Nat)) mp
  refine aH rfl (aH rfl (aH rfl (aH (cG c (k:=4) rfl) (aH rfl (aH hp (cT ⟨⟨j+1,rfl⟩,⟨L,R,[p]⟩,rfl,ok [p] ⟨(fun q=>nomatch q),pairwise_singleton _ _,(fun q hq=>by cases aa hq;exact pm)⟩,?_⟩))))))
  rw [show (⟨L,R,[p]⟩:Mc).names=L from rfl,l1];exact mm
end
noncomputable def Dl:List Str:=["not","and","or","next","till","always","again","till","always","next","not"].map ofString
theorem yu:qz (.str (ofString "not and or next till always again till always next not")) (.str (ofString " "))=some (.lst (Dl.map .str)):=by kernel_rfl
noncomputable abbrev IM:T:=.tup [.str (ofString "not"),.str (ofString "next"),.str (ofString "always"),.str (ofString "again")]
structure Un (k:Str) (C:Sy->Sy):Prop where
 t:iM (.str k) IM=some true
 to:∀a,bo (C a)=.tup [.str k,bo a]
 dep:∀a,dep (C a)=dep a+1
 all:∀a,all (C a)=C a::all a
 ne:∀a x,Sy.mark x≠C a
structure Bi (k:Str) (C:Sy->Sy->Sy):Prop where
 t:iM (.str k) IM=some false
 to:∀a c,bo (C a c)=.tup [.str k,bo a,bo c]
 dep:∀a c,dep (C a c)=max (dep a) (dep c)+1
 all:∀a c,all (C a c)=C a c::(all a++all c)
 ne:∀a c x,Sy.mark x≠C a c
theorem gg:Un (ofString "not") .not:=⟨by kernel_rfl,fun _=>rfl,fun _=>rfl,fun _=>rfl,fun _ _ h=>nomatch h⟩
theorem qw:Un (ofString "next") .next:=⟨by kernel_rfl,fun _=>rfl,fun _=>rfl,fun _=>rfl,fun _ _ h=>nomatch h⟩
theorem fS:Un (ofString "always") .always:=⟨by kernel_rfl,fun _=>rfl,fun _=>rfl,fun _=>rfl,fun _ _ h=>nomatch h⟩
theorem rX:Un (ofString "again") .again:=⟨by kernel_rfl,fun _=>rfl,fun _=>rfl,fun _=>rfl,fun _ _ h=>nomatch h⟩
theorem Au:Bi (ofString "and") .and:=⟨by kernel_rfl,fun _ _=>rfl,fun _ _=>rfl,fun _ _=>rfl,fun _ _ _ h=>nomatch h⟩
theorem As:Bi (ofString "or") .or:=⟨by kernel_rfl,fun _ _=>rfl,fun _ _=>rfl,fun _ _=>rfl,fun _ _ _ h=>nomatch h⟩
theorem kI:Bi (ofString "till") .till:=⟨by kernel_rfl,fun _ _=>rfl,fun _ _=>rfl,fun _ _=>rfl,fun _ _ _ h=>nomatch h⟩
theorem B8:∀i,i < 11->∃k,Dl[i]?=some k/\((∃C,Un k C)\/∃C,Bi k C)
 | 0,_=>⟨_,rfl,.inl ⟨_,gg⟩⟩
 | 1,_=>⟨_,rfl,.inr ⟨_,Au⟩⟩
 | 2,_=>⟨_,rfl,.inr ⟨_,As⟩⟩
 | 3,_=>⟨_,rfl,.inl ⟨_,qw⟩⟩
 | 4,_=>⟨_,rfl,.inr ⟨_,kI⟩⟩
 | 5,_=>⟨_,rfl,.inl ⟨_,fS⟩⟩
 | 6,_=>⟨_,rfl,.inl ⟨_,rX⟩⟩
 | 7,_=>⟨_,rfl,.inr ⟨_,kI⟩⟩
 | 8,_=>⟨_,rfl,.inl ⟨_,fS⟩⟩
 | 9,_=>⟨_,rfl,.inl ⟨_,qw⟩⟩
 | 10,_=>⟨_,rfl,.inl ⟨_,gg⟩⟩
 |_+11,h=>absurd h (by lia)
theorem Un.gm {k:Str}{C:Sy->Sy}(U:Un k C){a:Sy}(h:Gm a):Gm (C a):=fun x hx=>by
 rw [U.all] at hx
 rcases au hx with e |hx
 .exact absurd e (U.ne a x)
 .exact h x hx
theorem Bi.gm {k:Str}{C:Sy->Sy->Sy}(U:Bi k C){a c:Sy}(h:Gm a)(h':Gm c):Gm (C a c):=fun x hx=>by
 rw [U.all] at hx
 rcases au hx with e |hx
 .exact absurd e (U.ne a c x)
 .exact (ai hx).elim (h x) (h' x)
section
variable {ns:List Int}
theorem lt_int (a b:Int):o7 (.int a) (.int b)=some (decide (a < b)):=by unfold o7;rfl
theorem sub_int (a b:Int):gF (.int a) (.int b)=some (.int (a - b)):=by unfold gF;rfl
theorem BH (hn:ns.length<=63){x y z:Str}(N:Fr x y z):∀(d j n:Nat),1<=d->d<=n->ck (fun t w'=>(∃j':Nat,w'=⟨(j':Int),none⟩)/\∃s,t=bo s/\dep s<=d/\Gm s) (aw Ψ (n+1) 20 [.scr ns,.spot,mJ x y z,nT d] ⟨(j:Int),none⟩):=by
 intro d
 induction d with
 |zero=>intro j n h;cases h
 |succ d ih=>
  intro j n _ hd
  obtain ⟨n,rfl⟩:∃k,n=k+1:=⟨n - 1,by lia⟩
  refine sD (aH rfl (aH rfl (b9 (j9 hn j n) ?_)))
  rintro _ _ ⟨rfl,c,rfl⟩
  have leaf:∀{H:PK aP},ck (fun t w'=>(∃j':Nat,w'=⟨(j':Int),none⟩)/\∃s,t=bo s/\dep s<=d+1/\Gm s) (ah (bI (p2 cH (p2 bZ (pV 5) (pI 9)) (pI 4)) (ah (aF (aT (ae (pZ "yes") an))) am) am) (ah (aF (aT (ae (pZ "mark") (ae (p2 aL (pV 2) (p2 bZ (pV 5) (pI 3))) an)))) am)
    ⟨aw Ψ (n+1)⟩ [some (.scr ns),some .spot,some (mJ x y z),some (nT (d+1)),some (.int c),some (.int (c.fdiv (13:Nat))),none,none,none] ⟨((j+1:Nat):Int),none⟩ H):=fun {H}=>by
   refine aH rfl (aH (dg _ (k:=9) (by decide)) (aH (ik _ _) (fN (fun _=>?_) fun _=>?_)))
   .exact cT ⟨⟨_,rfl⟩,.yes,rfl,succ_le_succ (zero_le _),fun x h=>by cases aa h⟩
   .obtain ⟨i,hi,i3⟩:=fV (c.fdiv (13:Nat)) (n:=3) (by decide)
    obtain ⟨s,hs,ms⟩:∃s,aL (mJ x y z) (nT i)=some (.str s)/\Nm s:=by
     rcases Nat.lt_succ_iff_lt_or_eq.mp i3 with h |rfl
     .rcases Nat.lt_succ_iff_lt_or_eq.mp h with h |rfl
      .cases lt_one_iff.mp h;exact ⟨x,eE (j:=0) rfl (by decide),N.a⟩
      .exact ⟨y,eE (j:=1) rfl (by decide),N.b⟩
     .exact ⟨z,eE (j:=2) rfl (by decide),N.c⟩
    exact aH rfl (aH rfl (aH hi (aH hs (cT ⟨⟨_,rfl⟩,.mark s,rfl,succ_le_succ (zero_le _),fun x h=>by cases aa h;exact ⟨ms.m,ms.ne⟩⟩))))
  obtain ⟨i,hi,i13⟩:=fV c (n:=13) (by decide)
  refine aH rfl (aH (cG c (k:=13) rfl) (aH rfl (aH (lt_int _ _) ?_)))
  by_cases h1:((d+1:Nat):Int) < 2
  .rw [decide_eq_true h1];exact leaf
  rw [decide_eq_false h1]
  refine CG (aH rfl (aH hi (aH (lt_int _ _) ?_)))
  by_cases h2:(i:Int) < 2
  .rw [decide_eq_true h2];exact leaf
  rw [decide_eq_false h2]
  obtain ⟨k,hk,kc⟩:=B8 (i - 2) (by lia)
  have e1:gF (nT i) (.int 2)=some (nT (i - 2)):=by rw [sub_int];exact congrArg (fun z=>some (T.int z)) (by lia)
  have e2:gF (nT (d+1)) (.int 1)=some (nT d):=by rw [sub_int];exact congrArg (fun z=>some (T.int z)) (by lia)
  refine CG (CG (aH rfl (aH yu (aH rfl (aH hi (aH e1 (aH (bq (e:=T.str) hk (by rw [dX];lia)) (aH rfl (aH rfl (aH rfl (aH rfl (aH e2 (b9 (ih (j+1) n (by lia) (by lia)) ?_)))))))))))))
  rintro _ _ ⟨⟨j',rfl⟩,a,rfl,da,ga⟩
  refine aH rfl (o8 rfl ?_)
  rcases kc with ⟨C,U⟩ | ⟨C,U⟩
  .refine aH U.t (G0 ?_)
   exact aH rfl (aH rfl (cT ⟨⟨j',rfl⟩,C a,(U.to a).symm,by rw [U.dep];exact succ_le_succ da,U.gm ga⟩))
  .refine aH U.t (CG ?_)
   refine aH rfl (aH rfl (aH rfl (aH rfl (aH rfl (aH rfl (aH e2 (b9 (ih j' n (by lia) (by lia)) ?_)))))))
   rintro _ _ ⟨⟨j'',rfl⟩,b,rfl,db,gb⟩
   exact cT ⟨⟨j'',rfl⟩,C a b,(U.to a b).symm,by rw [U.dep];exact succ_le_succ (max_le.mpr ⟨da,db⟩),U.gm ga gb⟩
end
section
variable {J:Sg}
theorem CO:∀s:Sy,(all s).length+1<=2 ^ dep s:=by
 have two:∀(s a c:Sy),(all a).length+1<=2 ^ dep a->(all c).length+1<=2 ^ dep c->dep s=max (dep a) (dep c)+1->all s=s::(all a++all c)->(all s).length+1<=2 ^ dep s:=fun s a c ha hc e e2=>by
  have h1:=pow_le_pow_right (n:=2) (by decide) (le_max_left (dep a) (dep c))
  have h2:=pow_le_pow_right (n:=2) (by decide) (le_max_right (dep a) (dep c))
  rw [e,e2,pow_succ,length_cons,List.length_append];lia
 have one:∀(s a:Sy),(all a).length+1<=2 ^ dep a->dep s=dep a+1->all s=s::all a->(all s).length+1<=2 ^ dep s:=fun s a ha e e2=>by
  rw [e,e2,pow_succ,length_cons];lia
 intro s
 induction s with
 |mark |yes=>exact le_refl 2
 |not a ih |next a ih |always a ih |again a ih=>exact one _ a ih rfl rfl
 |and a c ih ih' |or a c ih ih' |till a c ih ih'=>exact two _ a c ih ih' rfl rfl
theorem AD {s:Sy}(h:dep s<=8):(all s).length<=256:=le_trans (le_succ _) (le_trans (CO s) (pow_le_pow_right (j:=8) (by decide) h))
theorem DO (s:Sy):∃ts,bo s=.tup ts:=by cases s<;>exact ⟨_,rfl⟩
theorem AC {c:eO}{t:Option T}:∀(l:List Sy),(∀a∈l,(all a).length<=256/\c.call 21 [bo a] J=.ret (dH (all a)) J)->∀(F:List Sy) (x2:Option T) {k:PK aP} {r:cj},F.length+l.length * 256<=10000->
  (∀x2,k [t,some (dH (l.foldl (fun f a=>f++all a) F)),x2] J=r)->cu (ba 2) DE c (l.map bo) [t,some (dH F),x2] J k=r:=by
 intro l
 induction l with
 |nil=>intro _ F x2 k r _ hk;exact hk x2
 |cons a l ih=>
  intro hl F x2 k r h1 hk
  obtain ⟨h2,h3⟩:=hl a (.head _)
  rw [length_cons] at h1
  have e:=ih (fun b hb=>hl b (.tail _ hb)) (F++all a) (some (bo a)) (by rw [List.length_append];lia) hk
  obtain ⟨ts,et⟩:=DO a
  rw [map_cons,et]
  rw [et] at h3 e
  exact az h3 (mt (eN (by rw [dX];lia)) e)
theorem Fb (s:Sy):all s=(ci s).foldl (fun f a=>f++all a) [s]:=by cases s<;>rfl
theorem Fa:∀(n:Nat) (s:Sy),dep s<=n->dep s<=8->aw Ψ (n+1) 21 [bo s] J=.ret (dH (all s)) J:=by
 intro n
 induction n with
 |zero=>intro s h;exact absurd (gr s) (eR (lt_succ_of_le h))
 |succ n ih=>
  intro s h h8
  have pl:(ci s).length<=2:=by cases s<;>exact le_of_ble_eq_true rfl
  have L:=AC (J:=J) (c:=⟨aw Ψ (n+1)⟩) (t:=some (bo s)) (ci s) (fun a ha=>⟨AD (le_trans (le_of_lt (cb ha)) h8),ih a (le_of_lt_succ (lt_of_lt_of_le (cb ha) h)) (le_trans (le_of_lt (cb ha)) h8)⟩) [s] none (k:=fun V J=>ah (aF (pV 1)) am ⟨aw Ψ (n+1)⟩ V J (kE 21)) (r:=.ret (dH (all s)) J) (by show 1+_<=_;lia) fun x2=>by rw [Fb s];rfl
  cases s with
  |mark x=>exact oM (mt (a:=.tup [.str x]) (by kernel_rfl) rfl)
  |_=>exact oM (mt (a:=.tup ((ci _).map bo)) (by kernel_rfl) (af rfl L))
end
section
variable {J:Sg}
theorem ED {c:eO}{t2:Option T}{t0:Option T}{f xs:List Sy}(hf:∀x∈f,dep x<=40)(hx:∀x∈xs,dep x<=40)(hl:f.length+xs.length<=20000){k:PK aP}{r:cj}(hk:k [t0,some (dH (ext f xs)),t2,some (dH xs),none] J=r):
  ah (aD 1 (p2 bw (pV 1) (aU (bm (pV 3)) (ba 4) (p2 fK (pV 4) (pV 1)) (pV 4)))) am c [t0,some (dH f),t2,some (dH xs),none] J k=r:=
 oz (i:=4) (fun _=>rfl) (fun _=>rfl) hf hx (mt (eN (e:=bo) (l:=f) (q:=xs.filter fun x=>!f.contains x) (qS f xs hl)) hk)
theorem BV {c:eO}{t0 x3:Option T}{f:List Sy}{t:Sy}(hf:∀x∈f,dep x<=40)(ht:dep t<=30)(hl:f.length<=10000){k:PK aP}{r:cj}(hk:k [t0,some (dH (ext f (cr t))),some (bo t),some (dH (cr t)),none] J=r):
  uE c [t0,some (dH f),some (bo t),x3,none] J k=r:=by
 have hx:∀x∈cr t,dep x<=40:=fun x hx=>le_trans (cY (bf.mpr ⟨t,jJ t,hx⟩)) (le_trans (succ_le_succ ht) (by decide))
 have ol:(cr t).length<=2:=by cases t<;>exact le_of_ble_eq_true rfl
 have E:=ED (c:=c) (t0:=t0) (t2:=some (bo t)) hf hx (by lia) hk
 cases t<;>exact E
theorem BW {c:eO}{t0:Option T}:∀(l:List Sy),(∀a∈l,dep a<=30)->∀(f:List Sy) (x2 x3:Option T) {k:PK aP} {r:cj},(∀x∈f,dep x<=40)->f.length+l.length * 2<=10000->
  (∀x2 x3,k [t0,some (dH (l.foldl (fun f t=>ext f (cr t)) f)),x2,x3,none] J=r)->cu (ba 2) uE c (l.map bo) [t0,some (dH f),x2,x3,none] J k=r:=by
 intro l
 induction l with
 |nil=>intro _ f x2 x3 k r _ _ hk;exact hk x2 x3
 |cons t l ih=>
  intro hl f x2 x3 k r hf h1 hk
  rw [length_cons] at h1
  have ht:=hl t (.head _)
  have ol:(cr t).length<=2:=by cases t<;>exact le_of_ble_eq_true rfl
  have el:=fC f (cr t)
  exact BV hf ht (by lia) (ih (fun a ha=>hl a (.tail _ ha)) _ _ _ (fun x hx=>(j0.mp hx).elim (hf x) fun q=>le_trans (cY (bf.mpr ⟨t,jJ t,q⟩)) (le_trans (succ_le_succ ht) (by decide))) (by lia) hk)
theorem Go {n:Nat}{s:Sy}(h:dep s<=n)(h8:dep s<=8):aw Ψ (n+2) 22 [bo s] J=.ret (dH (lb s)) J:=
 rG (az (Fa n s h h8) (BW (all s) (fun a ha=>le_trans (wq ha) (le_trans h8 (by decide))) [] none none (fun _ h=>nomatch h) (by have:=AD h8;rw [length_nil];lia) fun _ _=>rfl))
theorem xe {s:Sy}(h:0 < (lb s).length):∃p∈ci s,aL (bo s) (.int (-1))=some (bo p):=by
 cases s with
 |mark |yes=>cases h
 |not a |next a |always a |again a=>exact ⟨a,.head _,rfl⟩
 |and a c |or a c |till a c=>exact ⟨c,.tail _ (.head _),rfl⟩
theorem EV {s:Sy}{m:Nat}(h8:dep s<=8)(hg:Gm s)(n:Nat):ck (fun t J'=>J'=J/\∃s',t=bo s'/\dep s'<=dep s/\Gm s'/\(ao s').length<=m) (aw Ψ (n+12) 23 [bo s,nT m] J):=by
 have lp:∀(N:Nat) (s':Sy),dep s' < N->dep s'<=dep s->Gm s'->ck (fun t J'=>J'=J/\∃s',t=bo s'/\dep s'<=dep s/\Gm s'/\(ao s').length<=m)
   (fG (p2 Dp (p1 br (ax 22 (ae (pV 0) an))) (pV 1)) (ah (aD 0 (p2 aL (pV 0) (p1 qU (pI 1)))) am) ⟨aw Ψ (n+11)⟩ N [some (bo s'),some (nT m)] J fun V J=>ah (aF (pV 0)) am ⟨aw Ψ (n+11)⟩ V J (kE 23)):=fun N=>by
  induction N with
  |zero=>intro s' h;cases h
  |succ N ih=>
   intro s' h hs g
   have L:=Go (J:=J) (n:=n+9) (s:=s') (le_trans (le_trans hs h8) (by lia)) (le_trans hs h8)
   rw [jx]
   refine jX L (aH rfl (aH rfl (aH rfl (fN (fun q=>?_) fun q=>?_))))
   .have q:m < (lb s').length:=by have:=of_decide_eq_true q;rw [length_map] at this;lia
    obtain ⟨p,hp,e⟩:=xe (lt_of_le_of_lt (zero_le _) q)
    have d:=cb hp
    exact d7 e (ih p (by lia) (by lia) fun x hx=>g x (oS hp hx))
   .have q:(lb s').length<=m:=by have:=of_decide_eq_false q;rw [length_map] at this;lia
    exact cT ⟨rfl,s',rfl,hs,g,EC s'▸q⟩
 exact ur (lp 40 s (by lia) (le_refl _) hg)
end
section
variable {bs:List Sy} {g g':List Bool} {m m':Str} {J:Sg}
def Bd (x:Sy):Prop:=(∃a,x=.next a)\/(∃a c,x=.till a c)\/∃a,x=.always a
theorem gp (B:ue bs g){x:Sy}(hx:x∈bs):fM (dH bs) (bo x)=some (.int (bs.idxOf x))/\aL (gT g) (.int (bs.idxOf x))=some (.bool (look bs g x)):=
 ⟨(rt 40).idx (by decide) (B.dep x hx) B.dep hx,vV (e:=T.bool) (vM B hx) (le_trans (le_of_lt (List.idxOf_lt_length_iff.mpr hx)) (le_trans B.few (by decide)))⟩
theorem Do (B:ue bs g){x:Sy}(h:dep x<=40):iM (bo x) (dH bs)=some (decide (x∈bs)):=(rt 40).mem (by decide) h B.dep rfl
section
variable {c:eO} {t0 M Bt G v:T} {w:Str} {i:Int} {ts ys:List T} {k:PK aP}
noncomputable abbrev sF (t0 M Bt G:T)(w:Str)(y:Option T):aP:=[some t0,some M,some Bt,some G,some (.str w),y,none]
theorem qY {xs:List T}(h0:aL t0 (.int 0)=some (.str w))(e1:cH (.str w) (.str (ofString "mark"))=some false)(e2:cH (.str w) (.str (ofString "yes"))=some false)(e3:cH (.str w) (.str (ofString "again"))=some false)(hi:iM t0 (.lst xs)=some true)(hx:fM (.lst xs) t0=some (.int i))(hv:aL G (.int i)=some v):
  iy c [some t0,some M,some (.lst xs),some G,none,none,none] J k=.ret v J:=
 af rfl (af h0 (dt rfl e1 (dt rfl e2 (dt rfl e3 (af rfl (af rfl (af hi (c7 rfl (af rfl (af rfl (af rfl (af hx (af hv rfl)))))))))))))
theorem Ev {x y:Bool}:Ht c (sF t0 M Bt G (ofString "and") (some (.lst [.bool x,.bool y]))) J k=.ret (.bool (x&&y)) J:=by
 cases x<;>cases y<;>with_unfolding_all rfl
theorem Gn {x y:Bool}:Ht c (sF t0 M Bt G (ofString "or") (some (.lst [.bool x,.bool y]))) J k=.ret (.bool (x||y)) J:=by
 cases x<;>cases y<;>with_unfolding_all rfl
theorem qX {xs:List T}{o:cj}(h0:aL t0 (.int 0)=some (.str w))(e1:cH (.str w) (.str (ofString "mark"))=some false)(e2:cH (.str w) (.str (ofString "yes"))=some false)(e3:cH (.str w) (.str (ofString "again"))=some false)(hi:iM t0 (.lst xs)=some false)(hS:bR t0 (some 1) none=some (.tup ts))
  (hC:∀k:PK (List T),bx (ba 6) aM (ax 26 (ae (pV 6) (ae (pV 1) (ae (pV 2) (ae (pV 3) an))))) c (sF t0 M (.lst xs) G w none) ts J [] k=k ys J)
  (h:Ht c (sF t0 M (.lst xs) G w (some (.lst ys))) J k=o):
  iy c [some t0,some M,some (.lst xs),some G,none,none,none] J k=o:=
 af rfl (af h0 (dt rfl e1 (dt rfl e2 (dt rfl e3 (af rfl (af rfl (af hi (bP rfl (af rfl (af rfl (af hS (af rfl ((hC _).trans h)))))))))))))
end
theorem lB (B:ue bs g)(hb:∀x∈bs,Bd x):∀(n:Nat) (s:Sy),dep s<=n->dep s<=40->dk bs s->aw Ψ (n+1) 26 [bo s,.str m,dH bs,gT g] J=.ret (.bool (so m bs g s)) J:=by
 have no:∀{x:Sy},¬Bd x->x∉bs:=fun h q=>h (hb _ q)
 intro n
 induction n with
 |zero=>intro s h;exact absurd (gr s) (not_lt.mpr h)
 |succ n ih=>
  intro s hs h40 cl
  have C:∀{w:Str} (k:PK (List T)),bx (ba 6) aM (ax 26 (ae (pV 6) (ae (pV 1) (ae (pV 2) (ae (pV 3) an))))) ⟨aw Ψ (n+1)⟩ (sF (bo s) (.str m) (dH bs) (gT g) w none) ((ci s).map bo) J [] k=k ((ci s).map fun p=>.bool (so m bs g p)) J:=fun {w} k=>
   bn (e:=bo) (fun p=>.bool (so m bs g p)) (fun p hp=>⟨_,rfl,fun H=>az (ih p (le_of_lt_succ (lt_of_lt_of_le (cb hp) hs)) (le_trans (le_of_lt (cb hp)) h40) (aY cl hp)) rfl⟩) rfl
  have bd:∀{x:Sy},x=s->x∈bs->iM (bo x) (dH bs)=some true:=fun {x} e hx=>by rw [Do B (e▸h40),decide_eq_true hx]
  have nb:∀{x:Sy},x=s->¬Bd x->iM (bo x) (dH bs)=some false:=fun {x} e hx=>by rw [Do B (e▸h40),decide_eq_false (no hx)]
  cases s with
  |mark x=>exact c5 rfl
  |yes=>exact c5 rfl
  |not a=>
   refine c5 (qX rfl rfl rfl rfl (nb rfl ?_) (by with_unfolding_all rfl) C ?_)
   .rintro (⟨_,h⟩ | ⟨_,_,h⟩ | ⟨_,h⟩)<;>cases h
   .exact af rfl (af rfl (c7 rfl (af rfl (af (bq (e:=fun p=>T.bool (so m bs g p)) (l:=[a]) (i:=0) rfl (by decide)) rfl))))
  |and a b=>
   refine c5 (qX rfl rfl rfl rfl (nb rfl ?_) (by with_unfolding_all rfl) C ?_)
   .rintro (⟨_,h⟩ | ⟨_,_,h⟩ | ⟨_,h⟩)<;>cases h
   .exact Ev (x:=so m bs g a) (y:=so m bs g b)
  |or a b=>
   refine c5 (qX rfl rfl rfl rfl (nb rfl ?_) (by with_unfolding_all rfl) C ?_)
   .rintro (⟨_,h⟩ | ⟨_,_,h⟩ | ⟨_,h⟩)<;>cases h
   .exact Gn (x:=so m bs g a) (y:=so m bs g b)
  |next a=>exact have h:=gp B (bb cl _ (.head _));c5 (qY rfl rfl rfl rfl (bd rfl (bb cl _ (.head _))) h.1 h.2)
  |till a b=>exact have h:=gp B (bb cl _ (.head _));c5 (qY rfl rfl rfl rfl (bd rfl (bb cl _ (.head _))) h.1 h.2)
  |always a=>exact have h:=gp B (bb cl _ (.head _));c5 (qY rfl rfl rfl rfl (bd rfl (bb cl _ (.head _))) h.1 h.2)
  |again a=>
   have h:=gp B (x:=.always (.till .yes a)) (bb cl _ (.tail _ (.head _)))
   exact c5 (af rfl (af rfl (af rfl (af rfl (bP rfl (af rfl (af rfl (bP rfl (af rfl (af rfl (c7 rfl (af rfl (af rfl (c7 rfl (af rfl (af rfl (c7 rfl (c7 rfl (af h.1 (af h.2 rfl))))))))))))))))))))
end
section
variable {s:Sy} {g g':List Bool} {m m':Str} {J:Sg}
noncomputable abbrev oF (B:T)(m g m' g':T)(k x:Option T)(y z:Option T):aP:=[some B,some m,some g,some m',some g',k,x,y,z,none]
theorem Eh {c:eO}{B M G M' G' K x y:T}{a b:Bool}{o:cj}{H:PK aP}(hg:aL G K=some (.bool a))(h:a=b->H (oF B M G M' G' (some K) (some x) (some y) (some (.bool b))) J=o)(h2:a≠b->cj.ret (.bool false) J=o):
  oE c (oF B M G M' G' (some K) (some x) (some y) (some (.bool b))) J H=o:=by
 refine af rfl (af rfl (af hg (af rfl ?_)))
 cases a<;>cases b<;>first |exact h rfl |exact h2 (fun q=>nomatch q)
section
variable {c:eO} {B M G M' G' K X P v:T} {p q r:Bool} {o:cj} {H:PK aP} {x7 x8:Option T} {ts ys:List T}
theorem qO (hS:bR X (some 1) none=some (.tup ts))(hC:∀k:PK (List T),bx (ba 9) aM (ax 26 (ae (pV 9) (ae (pV 1) (ae (pV 0) (ae (pV 2) an))))) c (oF B M G M' G' (some K) (some X) x7 x8) ts J [] k=k ys J)(h1:aL X (.int 1)=some P)(hc:c.call 26 [P,M',B,G'] J=.ret v J)
  (h:oT c (oF B M G M' G' (some K) (some X) (some (.lst ys)) (some v)) J H=o):oB c (oF B M G M' G' (some K) (some X) x7 x8) J H=o:=
 af rfl (af rfl (af hS (af rfl ((hC _).trans (af rfl (af h1 (af rfl (af rfl (af rfl (az hc h))))))))))
theorem Br (h:oE c (oF B M G M' G' (some K) (some (.tup [.str (ofString "next"),X])) (some v) (some (.bool p))) J H=o):oT c (oF B M G M' G' (some K) (some (.tup [.str (ofString "next"),X])) (some v) (some (.bool p))) J H=o:=h
theorem wY (hg:aL G' K=some (.bool q))(h:oE c (oF B M G M' G' (some K) (some (.tup [.str (ofString "always"),X])) (some (.lst [.bool p])) (some (.bool (p&&q)))) J H=o):oT c (oF B M G M' G' (some K) (some (.tup [.str (ofString "always"),X])) (some (.lst [.bool p])) (some v)) J H=o:=by
 cases p with
 |false=>exact h
 |true=>exact af rfl (af rfl (af rfl (c7 rfl (af rfl (af rfl (af rfl (af rfl (af hg h))))))))
theorem Bq (hg:aL G' K=some (.bool q))(h:oE c (oF B M G M' G' (some K) (some (.tup [.str (ofString "till"),X,P])) (some (.lst [.bool p,.bool r])) (some (.bool (r||p&&q)))) J H=o):oT c (oF B M G M' G' (some K) (some (.tup [.str (ofString "till"),X,P])) (some (.lst [.bool p,.bool r])) (some v)) J H=o:=by
 cases r with
 |true=>exact h
 |false=>
  cases p with
  |false=>exact h
  |true=>exact af rfl (af rfl (af rfl (bP rfl (af rfl (af rfl (af rfl (c7 rfl (af rfl (af rfl (af rfl (af rfl (af rfl (af rfl (af hg h))))))))))))))
end
theorem xd (hd:∀x∈ao s,dep x<=40)(B:ue (ao s) g)(B':ue (ao s) g'){n:Nat}(hn:∀x∈ao s,dep x<=n):
  aw Ψ (n+2) 27 [dH (ao s),.str m,gT g,.str m',gT g'] J=.ret (.bool (lC (ao s) m g m' g')) J:=by
 have lp:∀(suf pre:List Sy) (x5 x6 x7 x8:Option T) (k:PK aP),ao s=pre++suf->(∀x5 x6 x7 x8,k (oF (dH (ao s)) (.str m) (gT g) (.str m') (gT g') x5 x6 x7 x8) J=.ret (.bool true) J)->
   cu (xN 5 6) oB ⟨aw Ψ (n+1)⟩ (im pre.length (suf.map bo)) (oF (dH (ao s)) (.str m) (gT g) (.str m') (gT g') x5 x6 x7 x8) J k=.ret (.bool (suf.all fun x=>look (ao s) g x==eU (ao s) m g m' g' x)) J:=by
  intro suf
  induction suf with
  |nil=>exact fun pre x5 x6 x7 x8 k _ hk=>hk x5 x6 x7 x8
  |cons x suf ih=>
   intro pre x5 x6 x7 x8 k e hk
   have hx:x∈ao s:=e▸mem_append_right _ (.head _)
   have hi:(ao s).idxOf x=pre.length:=by
    have nd:=bD s
    rw [e] at nd ⊢
    have hp:x∉pre:=fun q=>(aG nd).2.2 x q x (.head _) rfl
    rw [List.idxOf_append,if_neg hp,idxOf_cons,beq_self_eq_true,cond_true,zero_add]
   have h1:=(gp B hx).2
   have h2:=(gp B' hx).2
   rw [hi] at h1 h2
   have ih:=fun x5 x6 x7 x8=>ih (pre++[x]) x5 x6 x7 x8 k (by rw [e,List.append_assoc];rfl) hk
   rw [List.length_append] at ih
   have dp:∀p∈ci x,dep p<=n/\dep p<=40:=fun p hp=>⟨le_trans (le_of_lt (cb hp)) (hn x hx),le_trans (le_of_lt (cb hp)) (hd x hx)⟩
   have cl:∀p∈ci x,dk (ao s) p:=fun p hp=>gv hx hp
   have S:∀{m:Str} {g:List Bool},ue (ao s) g->∀p∈ci x,aw Ψ (n+1) 26 [bo p,.str m,dH (ao s),gT g] J=.ret (.bool (so m (ao s) g p)) J:=fun B p hp=>lB B (fun x hx=>cL hx) n p (dp p hp).1 (dp p hp).2 (cl p hp)
   have C:∀k:PK (List T),bx (ba 9) aM (ax 26 (ae (pV 9) (ae (pV 1) (ae (pV 0) (ae (pV 2) an))))) ⟨aw Ψ (n+1)⟩ (oF (dH (ao s)) (.str m) (gT g) (.str m') (gT g') (some (nT pre.length)) (some (bo x)) x7 x8) ((ci x).map bo) J [] k=k ((ci x).map fun p=>.bool (so m (ao s) g p)) J:=fun k=>
    bn (e:=bo) (fun p=>.bool (so m (ao s) g p)) (fun p hp=>⟨_,rfl,fun H=>az (S B p hp) rfl⟩) rfl
   have fin:∀{b:Bool} {y:T},eU (ao s) m g m' g' x=b->oE ⟨aw Ψ (n+1)⟩ (oF (dH (ao s)) (.str m) (gT g) (.str m') (gT g') (some (nT pre.length)) (some (bo x)) (some y) (some (.bool b))) J (fun V J=>cu (xN 5 6) oB ⟨aw Ψ (n+1)⟩ (im (pre.length+1) (suf.map bo)) V J k)=.ret (.bool ((x::suf).all fun x=>look (ao s) g x==eU (ao s) m g m' g' x)) J:=fun {b y} hw=>by
    refine Eh h1 (fun q=>?_) fun q=>?_
    .rw [List.all_cons,hw,<-q,beq_self_eq_true,Bool.true_and];exact ih _ _ _ _
    .rw [List.all_cons,hw,beq_eq_false_iff_ne.mpr q,Bool.false_and]
   refine fZ (v:=.tup [nT pre.length,bo x]) (l:=im (pre.length+1) (suf.map bo)) rfl ?_
   rcases cL hx with ⟨a,rfl⟩ | ⟨a,c,rfl⟩ | ⟨a,rfl⟩
   .exact qO (by with_unfolding_all rfl) C rfl (S B' a (.head _)) (Br (fin rU))
   .exact qO (by with_unfolding_all rfl) C rfl (S B' a (.head _)) (Bq h2 (fin gJ))
   .exact qO (by with_unfolding_all rfl) C rfl (S B' a (.head _)) (wY h2 (fin fI))
 exact xD (af rfl (af rfl (lp (ao s) [] none none none none _ rfl fun _ _ _ _=>rfl)))
theorem uF (hd:∀x∈ao s,dep x<=40)(B:ue (ao s) g){x:Sy}(hx:x∈ao s)(hk:(∃a c,x=.till a c)\/∃a,x=.always a){n:Nat}(hn:dep x<=n):
  aw Ψ (n+2) 28 [bo x,.str m,dH (ao s),gT g] J=.ret (.bool (met (ao s) m g x)) J:=by
 have h:=gp B hx
 have S:∀p∈ci x,aw Ψ (n+1) 26 [bo p,.str m,dH (ao s),gT g] J=.ret (.bool (so m (ao s) g p)) J:=fun p hp=>lB B (fun x hx=>cL hx) n p (le_trans (le_of_lt (cb hp)) hn) (le_trans (le_of_lt (cb hp)) (hd x hx)) (gv hx hp)
 rcases hk with ⟨a,c,rfl⟩ | ⟨a,rfl⟩
 .refine gu (af rfl (af rfl (bP rfl (af rfl (af rfl (af rfl (af h.1 (af h.2 (af rfl (af rfl (af rfl (c7 rfl (af rfl (af rfl ?_))))))))))))))
  rw [nU]
  cases look (ao s) g (.till a c) with
  |false=>rfl
  |true=>exact af rfl (af rfl (az (S c (.tail _ (.head _))) rfl))
 .refine gu (af rfl (af rfl (bP rfl (af rfl (af rfl (af rfl (af h.1 (af h.2 (af rfl (af rfl (af rfl (bP rfl (af rfl ?_)))))))))))))
  rw [jb]
  cases look (ao s) g (.always a) with
  |true=>rfl
  |false=>exact af rfl (af rfl (az (S a (.head _)) rfl))
theorem q7 {t:T}(n:Nat):aw Ψ (n+1) 28 [.none,.str m,t,gT g] J=.ret (.bool true) J:=gu rfl
end
end
end Mine.L07
section
set_option maxRecDepth 100000
namespace Mine.L07
noncomputable section
open PySem Ltl
section
variable {J:Sg}
noncomputable def O8 (a b:Str):List Sy:=[.again (.mark a),.not (.again (.mark a)),.always (.or (.not (.mark a)) (.till .yes (.mark b))),.not (.always (.till .yes (.mark b))),.not (.always (.or (.not (.mark a)) (.till .yes (.mark b)))),.or (.again (.mark a)) (.next (.mark b)),.not (.and (.again (.mark a)) (.mark b)),.not (.till (.not (.mark a)) (.mark b))]
theorem vY {x:Str}(N:Nm x):Gm (.mark x):=fun z h=>by cases aa h;exact ⟨N.m,N.ne⟩
theorem zV:Gm .yes:=fun z h=>nomatch aa h
noncomputable def nb:Sy->Nat
 |.mark _=>0
 |.yes=>0
 |.not a=>nb a
 |.and a c=>nb a+nb c
 |.or a c=>nb a+nb c
 |.next a=>nb a+1
 |.till a c=>nb a+nb c+1
 |.always a=>nb a+1
 |.again a=>nb a+2
theorem Ap:∀s:Sy,(ao s).length<=nb s:=by
 have e:∀{f xs:List Sy} {m n:Nat},f.length<=m->xs.length<=n->(ext f xs).length<=m+n:=fun h1 h2=>le_trans (fC _ _) (add_le_add h1 h2)
 have z:∀{xs:List Sy} {n:Nat},xs.length<=n->(ext [] xs).length<=n:=fun {xs n} h=>zero_add n▸e (f:=[]) (le_refl 0) h
 intro s
 induction s with
 |mark x=>exact le_refl 0
 |yes=>exact le_refl 0
 |not a ih=>exact e (n:=0) (z ih) (le_refl _)
 |and a c ih ih'=>exact e (n:=0) (e (z ih) ih') (le_refl _)
 |or a c ih ih'=>exact e (n:=0) (e (z ih) ih') (le_refl _)
 |next a ih=>exact e (z ih) (le_refl 1)
 |till a c ih ih'=>exact e (e (z ih) ih') (le_refl 1)
 |always a ih=>exact e (z ih) (le_refl 1)
 |again a ih=>exact e (z ih) (le_refl 2)
theorem Ij {Q:T->Sg->Prop}{o o':cj}(h:o=o')(h2:ck Q o'):ck Q o:=by rw [h];exact h2
theorem G7 {a b:Str}(A:Nm a)(B:Nm b):∀q∈O8 a b,Gs q:=by
 have ga:=vY A
 have gb:=vY B
 have g1:=rX.gm ga
 have g2:=As.gm (gg.gm ga) (kI.gm zV gb)
 have ok:∀{q:Sy},Nat.ble (dep q) 5=true->Nat.ble (nb q) 4=true->Gm q->Gs q:=fun h1 h2 g=>⟨le_of_ble_eq_true h1,le_trans (Ap _) (le_of_ble_eq_true h2),g⟩
 exact aI ⟨ok rfl rfl g1,aI ⟨ok rfl rfl (gg.gm g1),aI ⟨ok rfl rfl (fS.gm g2),aI ⟨ok rfl rfl (gg.gm (fS.gm (kI.gm zV gb))),
  aI ⟨ok rfl rfl (gg.gm (fS.gm g2)),aI ⟨ok rfl rfl (As.gm g1 (qw.gm gb)),aI ⟨ok rfl rfl (gg.gm (Au.gm g1 gb)),aI ⟨ok rfl rfl (gg.gm (kI.gm (gg.gm ga) gb)),fun _ h=>nomatch h⟩⟩⟩⟩⟩⟩⟩⟩
theorem De {x y z:Str}(N:Fr x y z){i:Nat}(h:i < 3):∃a,aL (mJ x y z) (nT i)=some (.str a)/\Nm a:=by
 match i,h with
 | 0,_=>exact ⟨x,rfl,N.a⟩
 | 1,_=>exact ⟨y,rfl,N.b⟩
 | 2,_=>exact ⟨z,rfl,N.c⟩
theorem Bs {n:Nat}{c:Int}{x y z a b:Str}(H:PK aP):Ej ⟨aw Ψ n⟩ [some (.int c),some (mJ x y z),some (bo (.mark a)),some (bo (.mark b)),none,none] J H=up (bZ (.int c) (.int 8)) J fun i J=>up (aL (.lst ((O8 a b).map bo)) i) J fun v J=>.ret v J:=by kernel_rfl
theorem Gb {n i:Nat}{c:Int}{x y z a:Str}(hi:bZ (.int (c.fdiv (8:Nat))) (.int (3:Nat))=some (nT i))(ea:aL (mJ x y z) (nT i)=some (.str a))(H:PK aP):Bv ⟨aw Ψ n⟩ [some (.int c),some (mJ x y z),none,none,none,none] J H=H [some (.int c),some (mJ x y z),some (bo (.mark a)),none,none,none] J:=by
 unfold Bv
 exact af rfl (af rfl (af (cG c (k:=8) rfl) (af hi (af ea rfl))))
theorem Ga {n j:Nat}{c:Int}{x y z a b:Str}(hj:bZ (.int (c.fdiv (8:Nat)+1+(c.fdiv (24:Nat)).fmod (2:Nat))) (.int (3:Nat))=some (nT j))(eb:aL (mJ x y z) (nT j)=some (.str b))(H:PK aP):Bu ⟨aw Ψ n⟩ [some (.int c),some (mJ x y z),some (bo (.mark a)),none,none,none] J H=H [some (.int c),some (mJ x y z),some (bo (.mark a)),some (bo (.mark b)),none,none] J:=by
 unfold Bu
 exact af rfl (af rfl (af (cG c (k:=8) rfl) (af (add_int _ _) (af rfl (af (cG c (k:=24) rfl) (af (dg _ (k:=2) (by decide)) (af (add_int _ _) (af hj (af eb rfl)))))))))
theorem Ei:eB=ah Bv (ah Bu Ej):=rfl
theorem yZ {x y z:Str}(N:Fr x y z)(c:Int)(n:Nat):ck (fun t J'=>J'=J/\∃s,t=bo s/\Gs s) (aw Ψ (n+1) 47 [.int c,mJ x y z] J):=by
 obtain ⟨i,hi,i3⟩:=fV (c.fdiv (8:Nat)) (n:=3) (by decide)
 obtain ⟨j,hj,j3⟩:=fV (c.fdiv (8:Nat)+1+(c.fdiv (24:Nat)).fmod (2:Nat)) (n:=3) (by decide)
 obtain ⟨k,hk,k8⟩:=fV c (n:=8) (by decide)
 obtain ⟨a,ea,A⟩:=De N i3
 obtain ⟨b,eb,B⟩:=De N j3
 have e:(O8 a b)[k]?=some (O8 a b)[k]:=getElem?_eq_getElem (show k < (O8 a b).length from k8)
 have run:eB ⟨aw Ψ n⟩ [some (.int c),some (mJ x y z),none,none,none,none] J (kE 47)=up (bZ (.int c) (.int 8)) J fun i J=>up (aL (.lst ((O8 a b).map bo)) i) J fun v J=>.ret v J:=by
  rw [Ei];exact (Gb hi ea _).trans ((Ga hj eb _).trans (Bs _))
 exact qI (Ij run (aH hk (aH (bq (e:=bo) e (le_trans (le_of_lt k8) (by decide))) (cT ⟨rfl,_,rfl,G7 A B _ (mem_of_getElem? e)⟩))))
end
end
end Mine.L07
end
namespace Mine.L07
noncomputable section
open PySem Ltl
section
variable {ns:List Int}
noncomputable def IR:List Nat:=[4,3,2,12,8]
noncomputable def bnd:List Nat:=[2,3,4,1,1]
theorem Fw {y:Nat}(h:y < 16):∃i,i < 5/\(y∉[3,4]->i < 3)/\hU (nT y) (.int (u7 (decide ((y:Int) < 5))))=some (nT i):=by
 have m:∀a:Int,hU (nT y) (.int a)=some (.int (y * a)):=fun a=>mM a (lh (le_trans (le_of_lt h) (by decide)))
 by_cases q:y < 5
 .refine ⟨y,q,fun z=>?_,?_⟩
  .refine Classical.byContradiction fun l=>z ?_
   have:y=3\/y=4:=by lia
   rcases this with rfl |rfl
   .exact .head _
   .exact .tail _ (.head _)
  .rw [m,decide_eq_true (by lia)];exact congrArg (fun i=>some (T.int i)) (Int.mul_one _)
 .refine ⟨0,by decide,fun _=>by decide,?_⟩
  rw [m,decide_eq_false (by lia)];exact congrArg (fun i=>some (T.int i)) (Int.mul_zero _)
structure Pb (i p b:Nat):Prop where
 e1:IR[i]?=some p
 e2:bnd[i]?=some b
 p0:0 < p
 p12:p<=12
 b4:b<=4
 sz:p * 2 ^ b<=128
 p4:i < 3->p<=4
theorem pb:∀i,i < 5->∃p b,Pb i p b
 | 0,_=>⟨4,2,rfl,rfl,by decide,by decide,by decide,by decide,fun _=>by decide⟩
 | 1,_=>⟨3,3,rfl,rfl,by decide,by decide,by decide,by decide,fun _=>by decide⟩
 | 2,_=>⟨2,4,rfl,rfl,by decide,by decide,by decide,by decide,fun _=>by decide⟩
 | 3,_=>⟨12,1,rfl,rfl,by decide,by decide,by decide,by decide,fun h=>absurd h (by decide)⟩
 | 4,_=>⟨8,1,rfl,rfl,by decide,by decide,by decide,by decide,fun h=>absurd h (by decide)⟩
structure HH (M:Mc) (s:Sy):Prop where
 ok:M.Ok
 g:Gs s
 u:(rW M s).length<=128
theorem yv (hn:ns.length<=63)(j n:Nat){x y z:Str}(N:Fr x y z):ck (fun t w'=>(∃j':Nat,w'=⟨(j':Int),none⟩)/\∃M s,t=.tup [.tup M.fs,bo s]/\HH M s) (aw Ψ (n+14) 48 [.scr ns,.spot,mJ x y z,nT 5] ⟨(j:Int),none⟩):=by
 refine qH (aH rfl (b9 (wj hn 0 (n+12)) ?_))
 rintro _ _ ⟨rfl,c,rfl⟩
 obtain ⟨y',h1,h2⟩:=fV (c.fdiv (5:Nat)) (n:=16) (by decide)
 obtain ⟨i,i5,i3,ei⟩:=Fw h2
 obtain ⟨p,b,B⟩:=pb i i5
 have i6:i<=lim:=le_trans (le_of_lt i5) (by decide)
 refine aH (cG c (k:=5) rfl) (aH h1 (o8 rfl (aH rfl (aH rfl (aH rfl (aH rfl (aH ei (aH (bq (e:=nT) (l:=IR) B.e1 i6) (o8 rfl (aH rfl (aH rfl (aH rfl (aH rfl (aH ei (aH (bq (e:=nT) (l:=bnd) B.e2 i6) (aH rfl (aH rfl (aH rfl (aH rfl (b9 (uB hn j (n+11) N B.p0 B.p12) ?_))))))))))))))))))))
 rintro _ _ ⟨⟨j1,rfl⟩,M,rfl,O,ml⟩
 refine aH rfl (aH rfl (aH rfl (aH rfl (b9 (BH hn N 5 j1 (n+12) (by decide) (le_trans (by decide) (le_add_left 12 n))) ?_))))
 rintro _ _ ⟨⟨j2,rfl⟩,s0,rfl,d0,g0⟩
 refine aH rfl (b9 (EV (m:=b) (le_trans d0 (by decide)) g0 (n+1)) ?_)
 rintro _ _ ⟨rfl,s,rfl,ds,gs,bs⟩
 refine aH rfl (aH rfl (b9 (j9 hn j2 (n+12)) ?_))
 rintro _ _ ⟨rfl,c2,rfl⟩
 have S1:HH M s:=⟨O,⟨le_trans ds d0,le_trans bs B.b4,gs⟩,by rw [vh];exact le_trans (Nat.mul_le_mul ml (pow_le_pow_right (by decide) bs)) B.sz⟩
 refine aH rfl (aH (dg c2 (k:=3) (by decide)) (aH (ik _ _) (fN (fun _=>?_) fun _=>?_)))
 .refine aH rfl (o8 rfl (aH (fE.nin (by decide) (a:=y') (l:=[3,4]) trivial (fun _ _=>trivial) rfl) (fN (fun q=>?_) fun _=>?_)))
  .have q:y'∉[3,4]:=of_decide_eq_false ((not_eq_true' _).mp q)
   refine fN (c:=true) (fun _=>aH rfl (aH (cG c2 (k:=3) rfl) (aH rfl (b9 (yZ N _ (n+12)) ?_)))) fun h=>nomatch h
   rintro _ _ ⟨rfl,s',rfl,G⟩
   exact cT ⟨⟨j2+1,rfl⟩,M,s',rfl,O,G,by rw [vh];exact le_trans (Nat.mul_le_mul (le_trans ml (B.p4 (i3 q))) (pow_le_pow_right (j:=4) (by decide) G.few)) (by decide)⟩
  .exact cT ⟨⟨j2+1,rfl⟩,M,s,rfl,S1⟩
 .exact cT ⟨⟨j2+1,rfl⟩,M,s,rfl,S1⟩
end
structure Wk (M:Mc) (s:Sy) (w r:List Nat):Prop where
 ne:0 < r.length
 lt:∀p∈w++r,p < M.names.length
 hd:∃a,(w++r).head?=some a/\a∈M.firsts
 nxt:∀i a b,(w++r++r.take 1)[i]?=some a->(w++r++r.take 1)[i+1]?=some b->b∈M.road a
 no:¬Sem (lw (w.map M.mark++r.map M.mark) w.length) s 0
 len:(w++r).length<=1000
section
variable {M N:Mc} {s:Sy} {w r:List Nat}
theorem ya {l:List Kn}(h:dT (th M s) l)(i a b:Nat)(ha:(l.map (·.p))[i]?=some a)(hb:(l.map (·.p))[i+1]?=some b):b∈M.road a:=by
 rw [getElem?_map] at ha hb
 obtain ⟨u,hu,rfl⟩:=av ha
 obtain ⟨v,hv,rfl⟩:=av hb
 exact (uz.mp (h i u v hu hv)).1
theorem kQ.ring {α:Type}{th:α->List α}{S P R:List α}(L:kQ th S P R):0 < R.length/\dT th (P++R++R.take 1):=
 let ⟨c,y,hc,hy,hcy⟩:=L.back
 let ⟨_,e⟩:=List.head?_eq_some_iff.mp hc
 have tk:R.take 1=[c]:=e▸rfl
 have ly:(P++R).getLast?=some y:=by rw [List.getLast?_append,hy];rfl
 ⟨e▸succ_pos _,L.walk.app (tk▸dT.one c) fun u v hu hv=>by rw [tk] at hv;rw [ly] at hu;rw [<-Option.some.inj hu,<-Option.some.inj hv];exact hcy⟩
theorem Fu {K P R:List Kn}(S:rK M s (st M s) K [])(B:Fs M s K P R):Wk M s (P.map (·.p)) (R.map (·.p)):=
 have ⟨r0,wl⟩:=kQ.ring B.lasso
 have e:(P.map (·.p))++R.map (·.p)=(P++R).map (·.p):=map_append.symm
 ⟨length_map (f:=fun k:Kn=>k.p)▸r0,fun p hp=>let ⟨k,h,q⟩:=aC (e▸hp);q▸(dN.mp (S.sub k (by rw [append_nil];exact B.sub k h))).1,
  let ⟨a,h1,h2⟩:=B.lasso.hd;⟨a.p,by rw [e,List.head?_map,h1];rfl,(qV.mp h2).1⟩,by rw [e,<-List.map_take,<-map_append];exact ya wl,
  by
   obtain ⟨p,_,q,h⟩:=CD B
   rw [length_map,map_map,map_map,<-map_append,show (M.mark ∘ fun k:Kn=>k.p)=fun k=>M.mark k.p from rfl,<-q]
   exact h,by rw [e,length_map];exact B.len⟩
end
theorem Fv:di=ah (pD [4,5,6] (pV 0)) (ah Hn (ah Hm (ah Hl (ah Hk (ah Hj am))))):=rfl
abbrev wF (M:Mc)(s:Sy)(w r:List Nat)(x7 x8 x9:Option T):aP:=[some (.tup M.fs),some (bo s),some (bY w),some (bY r),some (.lst (M.names.map .str)),some (.lst (M.roads.map bY)),some (bY M.firsts),x7,x8,x9,none,none,none]
section
variable {M:Mc} {s:Sy} {w r:List Nat} {J:Sg} {c:eO}
theorem HR {x7 x9:Option T}{p:Nat}(h:p < M.names.length){H:PK aP}:Hi c (wF M s w r x7 (some (nT p)) x9) J H=H (wF M s w r x7 (some (nT p)) x9) J:=by
 have e:decide ((p:Int) < ((M.names.map T.str).length:Nat))=true:=decide_eq_true (by rw [length_map];exact bN h)
 show (bif !decide ((p:Int) < ((M.names.map T.str).length:Nat)) then _ else _)=_
 rw [e];rfl
theorem HQ:∀(l:List Nat),(∀p∈l,p < M.names.length)->∀(x7 x8 x9:Option T) {H:PK aP} {o:cj},(∀x8,H (wF M s w r x7 x8 x9) J=o)->cu (ba 8) Hi c (l.map nT) (wF M s w r x7 x8 x9) J H=o:=fun l=>by
 induction l with
 |nil=>exact fun _ x7 x8 x9 H o hk=>hk x8
 |cons p l ih=>exact fun h x7 x8 x9 H o hk=>fZ rfl ((HR (h p (.head _))).trans (ih (fun q hq=>h q (.tail _ hq)) x7 _ x9 hk))
theorem GH {l:List T}{x y r:cj}(hl:Nat.ble l.length 100=true)(h:x=r):(bif bS l.length then x else y)=r:=by
 rw [show bS l.length=true from ble_eq_true_of_le (le_trans (le_of_ble_eq_true hl) (by decide))];exact h
theorem HW (W:Wk M s w r){H:PK aP}{o:cj}(hk:∀x7 x8,H (wF M s w r x7 x8 none) J=o):Hn c (wF M s w r none none none) J H=o:=by
 unfold Hn
 have one:∀(l:List Nat),(∀p∈l,p < M.names.length)->∀{x7 x8:Option T} {ls:List T} {H:PK aP} {o:cj},(∀x8,H (wF M s w r (some (bY l)) x8 none) J=o)->(ah (bI (c9 (qE (p1 (dS .list) (pV 7)))) zF am) (ah (cC (bm (pV 7)) (ba 8) Hi) am)) c (wF M s w r (some (bY l)) x8 none) J H=o:=fun l hl {x7 x8 ls H o} hk=>
  af rfl (af rfl (af rfl (bP rfl (af rfl (af rfl (HQ l hl _ _ _ hk))))))
 exact af rfl (af rfl (GH rfl (af rfl (fZ rfl (one w (x7:=none) (ls:=[]) (fun p hp=>W.lt p (mem_append_left _ hp)) fun x8=>fZ rfl (one r (x7:=none) (ls:=[]) (fun p hp=>W.lt p (mem_append_right _ hp)) fun x8=>hk _ x8))))))
theorem HV (W:Wk M s w r){x7 x8:Option T}{H:PK aP}:Hm c (wF M s w r x7 x8 none) J H=H (wF M s w r x7 x8 none) J:=by
 obtain ⟨a,h1,h2⟩:=W.hd
 have e1:cH (bY r) (.lst [])=some false:=(fE.lst.is (by decide) (a:=r) (c:=[]) (fun _ _=>trivial) fun _ _=>trivial).trans (congrArg some (decide_eq_false fun q=>by have:=W.ne;rw [q] at this;cases this))
 have e2:aL (.lst ((w++r).map nT)) (.int 0)=some (nT a):=bq (e:=nT) (i:=0) (by rw [<-List.head?_eq_getElem?];exact h1) (zero_le _)
 have e3:fK (nT a) (bY M.firsts)=some false:=(fE.nin (by decide) trivial (fun _ _=>trivial) rfl).trans (by rw [decide_eq_true h2];rfl)
 unfold Hm
 exact af rfl (GH rfl (af e1 (bP rfl (af rfl (af rfl (af (eN (e:=nT) (by rw [<-List.length_append];exact le_trans W.len (by decide))) (af e2 (af rfl (af e3 rfl)))))))))
theorem HU (W:Wk M s w r){x7 x8:Option T}{H:PK aP}:Hl c (wF M s w r x7 x8 none) J H=H (wF M s w r x7 x8 (some (bY (w++r++r.take 1)))) J:=by
 have l1:=W.len
 unfold Hl
 exact af rfl (af rfl (af (eN (e:=nT) (by rw [<-List.length_append];exact le_trans l1 (by decide))) (af rfl (af rfl (af (fw (e:=nT) (je 1 r)) (af (eN (e:=nT) (le_trans (add_le_add l1 (List.length_take_le 1 r)) (by decide))) rfl))))))
theorem HT (O:M.Ok)(W:Wk M s w r){x7 x8:Option T}{H:PK aP}:Hk c (wF M s w r x7 x8 (some (bY (w++r++r.take 1)))) J H=H (wF M s w r x7 x8 (some (bY (w++r++r.take 1)))) J:=by
 obtain ⟨u,hu⟩:∃u,u=w++r++r.take 1:=⟨_,rfl⟩
 have nx:=W.nxt
 have lt:∀p∈u,p < M.names.length:=fun p hp=>(ai (hu▸hp)).elim (W.lt p) fun h=>W.lt p (mem_append_right _ (List.mem_of_mem_take h))
 have ln:u.length<=1001:=by rw [hu,List.length_append];exact add_le_add W.len (List.length_take_le 1 r)
 rw [<-hu] at nx ⊢
 have e1:gF (.int ((u.map nT).length:Nat)) (.int 1)=some (nT (u.length - 1)):=by
  rw [sub_int,length_map]
  show some (T.int ((u.length:Int) - (1:Nat)))=some (T.int ((u.length - 1:Nat):Int))
  rw [Int.ofNat_sub (by rw [hu,List.length_append,List.length_append];exact le_trans W.ne (le_trans (le_add_left _ _) (le_add_right _ _)))]
 have e2:vy [nT (u.length - 1)]=some ((List.range (u.length - 1)).map nT):=gQ (le_trans (sub_le _ _) (le_trans ln (by decide)))
 have e3:iM (.bool false) (.lst ((List.range (u.length - 1)).map fun _=>T.bool true))=some false:=(io.mem (by decide) (a:=false) (l:=(List.range (u.length - 1)).map fun _=>true) trivial (fun _ _=>trivial) (by rw [map_map];rfl)).trans (congrArg some (decide_eq_false fun q=>nomatch (aC q).choose_spec.2))
 unfold Hk
 refine af rfl (af rfl (af e1 (af e2 (bn (e:=nT) (fun _=>.bool true) (fun k hk=>⟨_,rfl,fun H=>?_⟩) (af e3 rfl)))))
 have hk:=bh hk
 have hk:k+1 < u.length:=Nat.add_lt_of_lt_sub hk
 have hk':k < u.length:=lt_of_succ_lt hk
 have kl:k+1<=lim:=le_trans (le_of_lt hk) (le_trans ln (by decide))
 have h1:u[k]?=some u[k]:=getElem?_eq_getElem hk'
 have h2:u[k+1]?=some u[k+1]:=getElem?_eq_getElem hk
 have p1:=lt _ (mem_of_getElem? h1)
 exact af rfl (af rfl (af (add_int _ _) (af (bq (e:=nT) (i:=k+1) h2 kl) (af rfl (af rfl (af rfl (af (bq (e:=nT) h1 (le_of_succ_le kl)) (af (bq (e:=bY) (a:=M.road u[k]) (qg (by rw [O.len];exact p1)) (O.lim p1))
  (af ((fE.mem (by decide) trivial (fun _ _=>trivial) rfl).trans (congrArg some (decide_eq_true (nx k _ _ h1 h2)))) rfl)))))))))
theorem pY (O:M.Ok){i:Nat}{V:aP}(h1:∀t,bX (V.set i (some t)) i=some t)(h2:∀t,bX (V.set i (some t)) 4=some (.lst (M.names.map .str)))(l:List Nat)(hl:∀p∈l,p < M.names.length){H:PK (List T)}:bx (ba i) aM (p2 aL (pV 4) (pV i)) c V (l.map nT) J [] H=H ((l.map M.mark).map .str) J:=by
 refine bn (e:=nT) (fun p=>.str (M.mark p)) (fun p hp=>⟨_,rfl,fun H=>af (h2 _) (af (h1 _) (af (bq (e:=T.str) (a:=M.mark p) (qg (hl p hp)) (O.lim (hl p hp))) rfl))⟩) ?_
 rw [map_map];rfl
theorem HS (O:M.Ok)(W:Wk M s w r)(hd:dep s<=10){x7 x8 x9:Option T}{n:Nat}{H:PK aP}:Hj ⟨aw Ψ (n+12)⟩ (wF M s w r x7 x8 x9) J H=.ret (.bool true) J:=by
 have hn:(w.map M.mark++r.map M.mark).length<=1000:=by rw [<-map_append,length_map];exact W.len
 have Z:=zf (J:=J) (w:=w.map M.mark) (r:=r.map M.mark) (by rw [length_map];exact W.ne) hn (n+10) s (le_trans hd (le_add_left _ _))
 have e:i9 (w.map M.mark++r.map M.mark) (w.map M.mark).length s 0=false:=Bool.eq_false_iff.mpr fun h=>W.no (by have:=b8.mp h;rw [length_map] at this;exact this)
 have i0:aL (bT (w.map M.mark++r.map M.mark).length (i9 (w.map M.mark++r.map M.mark) (w.map M.mark).length s)) (.int 0)=some (.bool false):=by
  rw [<-e];exact oO (i:=0) (by rw [List.length_append,length_map,length_map];exact lt_of_lt_of_le W.ne (le_add_left _ _)) (le_trans hn (by decide))
 unfold Hj
 exact af rfl (af rfl (af rfl ((pY O (fun _=>rfl) (fun _=>rfl) w fun p hp=>W.lt p (mem_append_left _ hp)).trans (af rfl (af rfl ((pY O (fun _=>rfl) (fun _=>rfl) r fun p hp=>W.lt p (mem_append_right _ hp)).trans (az Z (af i0 (af rfl rfl)))))))))
theorem A0 (O:M.Ok)(W:Wk M s w r)(hd:dep s<=10)(n:Nat):aw Ψ (n+13) 49 [.tup M.fs,bo s,bY w,bY r] J=.ret (.bool true) J:=by
 refine jg ?_
 rw [Fv]
 exact af rfl (af rfl (HW W fun x7 x8=>(HV W).trans ((HU W).trans ((HT O W).trans (HS O W hd)))))
end
end
end Mine.L07
namespace Mine.L07
noncomputable section
open PySem
def Sf (n:Nat)(t:T):Prop:=∃d,cX n t=some d/\PyData.eqv d d=true
theorem qC {n:Nat}{i:Int}:Sf n (.int i):=⟨.int i,mY n i,beq_self_eq_true i⟩
theorem Be {n:Nat}{b:Bool}:Sf n (.bool b):=⟨.bool b,tm n b,beq_self_eq_true b⟩
theorem yD {n:Nat}:∀{l:List T},(∀x∈l,Sf n x)->∃ds,fO (cX n) l=some ds/\PyData.eqvAll ds ds=true:=fun {l}=>by
 induction l with
 |nil=>exact fun _=>⟨[],rfl,rfl⟩
 |cons x l ih=>
  intro h
  obtain ⟨d,h1,h2⟩:=h x (.head _)
  obtain ⟨ds,h3,h4⟩:=ih fun y hy=>h y (.tail _ hy)
  exact ⟨d::ds,oU h1 h3,by rw [PyData.eqvAll,h2,h4];rfl⟩
theorem yB {n:Nat}{l:List T}(h:∀x∈l,Sf n x):Sf (n+1) (.tup l):=let ⟨ds,h1,h2⟩:=yD h;⟨.tuple ds,mQ h1,h2⟩
theorem yC {n:Nat}{l:List T}(h:∀x∈l,Sf n x):Sf (n+1) (.lst l):=let ⟨ds,h1,h2⟩:=yD h;⟨.list ds,congrArg (Option.map PyData.list) h1,h2⟩
theorem qB {α:Type}{n:Nat}{l:List α}{f:α->T}(h:∀x∈l,Sf n (f x)):∀t∈l.map f,Sf n t:=fun t ht=>let ⟨x,h1,h2⟩:=aC ht;h2▸h x h1
theorem Bb {n:Nat}{x:T}{l:List T}(h:Sf n x)(hl:∀y∈l,Sf n y):∀y∈x::l,Sf n y:=aI ⟨h,hl⟩
theorem H9 {n:Nat}:∀y∈([]:List T),Sf n y:=fun _ h=>nomatch h
theorem Sf.eq {t:T}(h:Sf du t):cH t t=some true:=by
 obtain ⟨d,h1,h2⟩:=h
 unfold cH;rw [h1];exact congrArg some h2
end
end Mine.L07
namespace Mine.L07
noncomputable section
open PySem Ltl
noncomputable def p9:Nat->List (List Bool)
 | 0=>[[]]
 |n+1=>(p9 n).flatMap fun r=>[r++[false],r++[true]]
theorem q0:∀{n:Nat} {g:List Bool},g∈p9 n->g.length=n:=by
 intro n
 induction n with
 |zero=>intro g h;cases aa h;rfl
 |succ n ih=>
  intro g h
  obtain ⟨a,ha,h⟩:=mem_flatMap.mp h
  have:g=a++[false]\/g=a++[true]:=(au h).imp id fun h=>aa h
  rcases this with rfl |rfl<;>(rw [List.length_append,ih ha];rfl)
theorem BJ:∀{n:Nat} {g:List Bool},g.length=n->g∈p9 n:=by
 intro n
 induction n with
 |zero=>intro g h;rw [length_eq_zero_iff.mp h];exact .head _
 |succ n ih=>
  intro g h
  rcases eq_nil_or_concat g with rfl | ⟨a,b,rfl⟩
  .cases h
  .rw [concat_eq_append,List.length_append] at h
   rw [concat_eq_append]
   refine mem_flatMap.mpr ⟨a,ih (Nat.succ.inj h),?_⟩
   cases b
   .exact .head _
   .exact .tail _ (.head _)
theorem p8:∀n:Nat,(p9 n).Nodup
 | 0=>pairwise_singleton _ _
 |n+1=>by
  have:∀l:List (List Bool),l.Nodup->(l.flatMap fun r=>[r++[false],r++[true]]).Nodup:=fun l=>by
   induction l with
   |nil=>exact fun _=>.nil
   |cons a l ih=>
    intro h
    obtain ⟨h1,h2⟩:=aX h
    rw [flatMap_cons,nodup_append]
    refine ⟨nodup_cons.mpr ⟨fun q=>?_,pairwise_singleton _ _⟩,ih h2,fun x hx y hy e=>?_⟩
    .cases (List.append_inj_right (aa q) rfl)
    .obtain ⟨b,hb,hy⟩:=mem_flatMap.mp hy
     have ex:x=a++[false]\/x=a++[true]:=(au hx).imp id fun h=>aa h
     have ey:y=b++[false]\/y=b++[true]:=(au hy).imp id fun h=>aa h
     have:a=b:=by
      have:=congrArg List.dropLast e
      rcases ex with rfl |rfl<;>rcases ey with rfl |rfl<;>(rw [dropLast_concat,dropLast_concat] at this;exact this)
     exact h1 (this▸hb)
  exact this _ (p8 n)
section
variable {J:Sg} {M:Mc} {s:Sy}
theorem xa (n:Nat):∀k:Nat,k < 4->aw Ψ (n+1) 30 [.lst ((p9 k).map gT)] J=.ret (.lst ((p9 (k+1)).map gT)) J
 | 0,_=>dO (by kernel_rfl)
 | 1,_=>dO (by kernel_rfl)
 | 2,_=>dO (by kernel_rfl)
 | 3,_=>dO (by kernel_rfl)
 |_+4,h=>absurd h (not_lt.mpr (le_add_left _ _))
def rP (M:Mc)(s:Sy)(k:Kn):List Kn:=(M.road k.p).flatMap fun q=>((p9 (ao s).length).filter fun g=>lC (ao s) (M.mark k.p) k.g (M.mark q) g).map (Kn.mk q)
def H6 (M:Mc)(s:Sy):List Kn:=M.firsts.flatMap fun p=>((p9 (ao s).length).filter fun g=>!so (M.mark p) (ao s) g s).map (Kn.mk p)
theorem n5 (n:Nat):(p9 n).Perm (gI n):=(List.perm_ext_iff_of_nodup (p8 n) (jp n)).mpr fun g=>⟨fun h=>kO (q0 h),fun h=>BJ (ft h)⟩
theorem lE {α z:Type}{f g:α->List z}(h:∀a,(f a).Perm (g a)):∀l:List α,(l.flatMap f).Perm (l.flatMap g)
 | []=>.refl _
 |a::l=>by rw [flatMap_cons,flatMap_cons];exact (h a).append (lE h l)
theorem jD (k:Kn):(rP M s k).Perm (th M s k):=lE (fun q=>((n5 _).filter _).map _) _
theorem yo:(H6 M s).Perm (st M s):=lE (fun q=>((n5 _).filter _).map _) _
theorem sQ:∀n:Nat,(p9 n).length=2 ^ n:=fun n=>(n5 n).length_eq.trans (iG n)
theorem mL (O:M.Ok){p:Nat}(h:p < M.names.length):aL (.lst (M.names.map .str)) (nT p)=some (.str (M.mark p)):=bq (e:=T.str) (qg h) (O.lim h)
theorem Bk (O:M.Ok){p:Nat}(h:p < M.names.length):aL (.lst (M.roads.map bY)) (nT p)=some (bY (M.road p)):=bq (e:=bY) (qg (O.len▸h)) (O.lim h)
abbrev Hu (s:Sy):T:=.lst ((p9 (ao s).length).map gT)
abbrev hF (M:Mc)(s:Sy)(k:Kn)(F:List Kn)(x6 x7:Option T):aP:=[some (.tup M.fs),some (dH (ao s)),some (Hu s),some (aV k),some (.lst (M.names.map .str)),some (.lst (M.roads.map bY)),some (.lst (F.map aV)),x6,x7]
theorem u5 (O:M.Ok)(G:Gs s){k:Kn}(hp:k.p < M.names.length)(hg:k.g.length=(ao s).length)(n:Nat):aw Ψ (n+20) 31 [.tup M.fs,dH (ao s),Hu s,aV k] J=.ret (.lst ((rP M s k).map aV)) J:=by
 have R:=jK O hp
 have dl:∀x∈ao s,dep x<=n+17:=fun x hx=>le_trans (cY hx) (le_trans (succ_le_succ G.dep) (le_trans (by decide) (le_add_left 17 n)))
 have d40:∀x∈ao s,dep x<=40:=fun x hx=>le_trans (cY hx) (le_trans (succ_le_succ G.dep) (by decide))
 have inner:∀(q:Nat),q < M.names.length->∀(l:List (List Bool)),(∀g∈l,g.length=(ao s).length)->∀(F:List Kn) (x7:Option T) {H:PK aP} {r:cj},F.length+l.length<=10000->
   (∀x7,H (hF M s k (F++(l.filter fun g=>lC (ao s) (M.mark k.p) k.g (M.mark q) g).map (Kn.mk q)) (some (nT q)) x7) J=r)->
   cu (ba 8) hB ⟨aw Ψ (n+19)⟩ (l.map gT) (hF M s k F (some (nT q)) x7) J H=r:=fun q hq l=>by
  induction l with
  |nil=>intro _ F x7 H r _ hk;rw [filter_nil,map_nil,append_nil] at hk;exact hk x7
  |cons g l ih=>
   intro hl F x7 H r h1 hk
   rw [length_cons] at h1
   refine fZ (v:=gT g) (l:=l.map gT) rfl ?_
   refine af rfl (af rfl (af rfl (af rfl (af (mL O hp) (af rfl (af rfl (af rfl (af rfl (af (mL O hq) (af rfl (az (xd d40 (G.bds hg) (G.bds (hl g (.head _))) dl) ?_)))))))))))
   cases e:lC (ao s) (M.mark k.p) k.g (M.mark q) g with
   |false=>
    rw [List.filter_cons_of_neg (by rw [e];decide)] at hk
    exact ih (fun g h=>hl g (.tail _ h)) F _ (le_of_succ_le h1) hk
   |true=>
    rw [List.filter_cons_of_pos e] at hk
    have hz:F.length < lim:=lt_of_le_of_lt (le_trans (le_add_right _ _) h1) (by decide)
    refine mt (o:=dL (.lst (F.map aV)) (aV ⟨q,g⟩)) (a:=.lst ((F++[Kn.mk q g]).map aV)) (cO (e:=aV) (l:=F) (Kn.mk q g) hz) ?_
    refine ih (fun g h=>hl g (.tail _ h)) (F++[⟨q,g⟩]) _ ?_ fun x7=>?_
    .rw [List.length_append];exact le_trans (le_of_eq (add_assoc ..)) (add_comm 1 _▸h1)
    .rw [List.append_assoc];exact hk x7
 have outer:∀(l:List Nat),(∀q∈l,q < M.names.length)->∀(F:List Kn) (x6 x7:Option T) {H:PK aP} {r:cj},F.length+l.length * 16<=10000->
   (∀x6 x7,H (hF M s k (F++l.flatMap fun q=>((p9 (ao s).length).filter fun g=>lC (ao s) (M.mark k.p) k.g (M.mark q) g).map (Kn.mk q)) x6 x7) J=r)->
   cu (ba 7) (ah (cC (bm (pV 2)) (ba 8) hB) am) ⟨aw Ψ (n+19)⟩ (l.map nT) (hF M s k F x6 x7) J H=r:=fun l=>by
  induction l with
  |nil=>intro _ F x6 x7 H r _ hk;rw [flatMap_nil,append_nil] at hk;exact hk x6 x7
  |cons q l ih=>
   intro hl F x6 x7 H r h1 hk
   rw [length_cons] at h1
   have al:(p9 (ao s).length).length<=16:=by rw [sQ];exact pow_le_pow_right (j:=4) (by decide) G.few
   refine fZ (v:=nT q) (l:=l.map nT) rfl ?_
   refine af rfl (af rfl ((inner q (hl q (.head _)) _ (fun g h=>q0 h) F _ (Hp h1 al) fun x7=>ih (fun q h=>hl q (.tail _ h)) _ _ _ ?_ fun x6 x7=>?_)))
   .have:=length_filter_le (fun g=>lC (ao s) (M.mark k.p) k.g (M.mark q) g) (p9 (ao s).length)
    rw [List.length_append,length_map];exact Ho h1 this al
   .have:=hk x6 x7
    rw [flatMap_cons,<-List.append_assoc] at this
    exact this
 have rl:(M.road k.p).length<=12:=by
  have:=aS (m:=List.range M.names.length) R.nd fun p hp=>bJ (R.lt p hp)
  rw [length_range] at this;exact le_trans this O.few
 refine py (af rfl (af rfl (af (show bR (.tup M.fs) none (some 2)=some (.tup [.lst (M.names.map .str),.lst (M.roads.map bY)]) by with_unfolding_all rfl) (af rfl (c7 rfl (af rfl (af rfl (af rfl (af (Bk O hp) (af rfl ?_))))))))))
 exact outer (M.road k.p) R.lt [] none none (by rw [length_nil,zero_add];exact le_trans (mul_le_mul_right 16 rl) (by decide)) fun x6 x7=>rfl
end
section
variable {J:Sg} {M:Mc} {s:Sy} {K:List Kn}
structure DI (M:Mc) (s:Sy) (K D R:List Kn):Prop where
 nd:(D++R).Nodup
 sub:∀k∈D++R,k∈K
 beg:∀k∈st M s,k∈D++R
 clo:∀k∈D,∀y∈th M s k,y∈D++R
theorem DI.step {D R:List Kn}{k:Kn}(S:rK M s (st M s) K [])(O:M.Ok)(L:DI M s K D (k::R)):DI M s K (D++[k]) (R++(rP M s k).filter fun y=>!decide (y∈D++k::R)):=by
 have e:∀T:List Kn,(D++[k])++(R++T)=(D++k::R)++T:=fun T=>by rw [List.append_assoc,List.append_assoc];rfl
 have hk:k∈K:=L.sub k (mem_append_right _ (.head _))
 have kp:=(dN.mp (S.sub k (by rw [append_nil];exact hk))).1
 have nt:(rP M s k).Nodup:=(jD k).nodup_iff.mpr (jC O kp)
 have cl:∀y∈th M s k,y∈K:=fun y hy=>by have:=S.clo k hk y hy;rwa [append_nil] at this
 refine ⟨?_,?_,?_,?_⟩
 .rw [e,nodup_append]
  refine ⟨L.nd,nt.filter _,fun a ha b hb q=>?_⟩
  have:=(bu hb).2
  rw [<-q,decide_eq_true ha] at this;cases this
 .rw [e]
  exact fun y hy=>(ai hy).elim (L.sub y) fun h=>cl y ((jD k).mem_iff.mp (bu h).1)
 .rw [e];exact fun y hy=>mem_append_left _ (L.beg y hy)
 .rw [e]
  intro x hx y hy
  rcases ai hx with hx |hx
  .exact mem_append_left _ (L.clo x hx y hy)
  .cases aa hx
   by_cases q:y∈D++k::R
   .exact mem_append_left _ q
   .exact mem_append_right _ (cM ⟨(jD k).mem_iff.mpr hy,by rw [decide_eq_false q];rfl⟩)
theorem DI.all {D:List Kn}(S:rK M s (st M s) K [])(L:DI M s K D []):K.Perm D:=by
 have sub:=L.sub;have beg:=L.beg;have clo:=L.clo;have nd:=L.nd
 rw [append_nil] at sub beg clo nd
 have nk:=S.nd;have rch:=S.rch
 rw [append_nil] at nk rch
 refine (List.perm_ext_iff_of_nodup nk nd).mpr fun k=>⟨fun hk=>?_,sub k⟩
 obtain ⟨a,ha,r⟩:=rch k hk
 have go:∀{a b:Kn},lP (th M s) a b->a∈D->b∈D:=fun r=>by
  induction r with
  |refl=>exact id
  |step h _ ih=>exact fun q=>ih (clo _ q _ h)
 exact go r (beg a ha)
abbrev vT (w:Rw):T:=.tup [nT w.r,nT w.n]
abbrev xf (ws:List Rw):T:=.dct ((ws.map (·.k)).map aV) (ws.map vT)
abbrev C6 (bs:List Rw):T:=.dct (bs.map fun b=>nT b.r) (bs.map fun b=>nT b.n)
theorem C3 {w:Rw}:∀bs:List Rw,(∀b∈bs,b.r=w.r->b.n=w.n)->C4 (bs.map fun b=>nT b.r) (bs.map fun b=>nT b.n) w.r=some (some (nT w.n))\/C4 (bs.map fun b=>nT b.r) (bs.map fun b=>nT b.n) w.r=some none
 | [],_=>.inr rfl
 |b::bs,h=>by
  show (bif decide ((b.r:Int)=w.r) then _ else _)=_\/(bif decide ((b.r:Int)=w.r) then _ else _)=_
  by_cases q:b.r=w.r
  .rw [decide_eq_true (show (b.r:Int)=w.r from congrArg ofNat q)]
   exact .inl (congrArg (fun n:Nat=>some (some (nT n))) (h b (.head _) q))
  .rw [decide_eq_false (fun e:(b.r:Int)=w.r=>q (ofNat.inj e))]
   exact C3 bs fun b hb=>h b (.tail _ hb)
theorem FU {w:Rw}{bs:List Rw}(h:∀b∈bs,b.r=w.r->b.n=w.n)(hl:bs.length < 1000):∃bs',Ec (C6 bs) (nT w.r) (nT w.n)=some (nT w.n,C6 bs')/\(bs'=bs\/bs'=bs++[w]):=by
 show ∃bs',(o1 (C4 (bs.map fun b=>nT b.r) (bs.map fun b=>nT b.n) w.r) fun o=>_)=_/\_
 rcases C3 bs h with e |e
 .rw [e];exact ⟨bs,rfl,.inl rfl⟩
 .rw [e]
  refine ⟨bs++[w],?_,.inr rfl⟩
  show mi _ _=_
  rw [mi,length_map,show bS (bs.length+1)=true from ble_eq_true_of_le (le_trans hl (by decide)),C6,map_append,map_append];rfl
noncomputable abbrev tF (X pr:T)(f b x4 x5:Option T):aP:=[some X,some pr,f,b,x4,x5]
theorem yI {w:Rw}:bR (mH w) (some 2) none=some (vT w):=by with_unfolding_all rfl
theorem Io (n:Nat):o7 (nT n) (.int 0)=some false:=congrArg some (decide_eq_false (Int.not_lt.mpr (natCast_nonneg n)))
theorem DW {c:eO}{X pr:T}{ws:List Rw}{w:Rw}{b x5:Option T}{H:PK aP}{r:cj}(hw:w.k∉ws.map (·.k))(hk:H (tF X pr (some (xf ws)) b (some (mH w)) x5) J=r):tA c (tF X pr (some (xf ws)) b (some (mH w)) x5) J H=r:=
 af rfl (af rfl (af rfl (bP rfl (af rfl (af rfl (af rfl (bP rfl (af rfl (af rfl (af rfl (af rfl (c7 rfl (af rfl (af ((cg.has w.k).trans (by rw [decide_eq_false hw])) (bP rfl (bP rfl hk))))))))))))))))
theorem yk {c:eO}{X pr:T}{f b x4:Option T}{H:PK aP}{r:cj}(n:Nat)(hk:H (tF X pr f b x4 (some (nT n))) J=r):tI c (tF X pr f b x4 (some (nT n))) J H=r:=
 af rfl (af rfl (af rfl (bP rfl (af rfl (af rfl (af rfl (bP rfl (af rfl (af (Io n) (bP rfl (bP rfl hk)))))))))))
theorem DV {c:eO}{X pr:T}{w:Rw}{f b x5:Option T}{H:PK aP}{r:cj}(hk:H (tF X pr f b (some (mH w)) (some (nT w.n))) J=r):tB c (tF X pr f b (some (mH w)) x5) J H=r:=
 af rfl (af rfl (af yI (af rfl (fZ rfl (yk w.r (fZ rfl (yk w.n hk)))))))
theorem DU {c:eO}{X:T}{P:List T}{w:Rw}{bs bs':List Rw}{f x5:Option T}{H:PK aP}{r:cj}(hn:w.n < P.length)(hs:Ec (C6 bs) (nT w.r) (nT w.n)=some (nT w.n,C6 bs'))(hk:H (tF X (.lst P) f (some (C6 bs')) (some (mH w)) x5) J=r):tC c (tF X (.lst P) f (some (C6 bs)) (some (mH w)) x5) J H=r:=
 af rfl (af rfl (af rfl (af rfl (af (show HA (nT w.n) (.int (P.length:Nat))=some false from congrArg some (decide_eq_false (Int.not_le.mpr (bN hn)))) (bP rfl (af rfl (af rfl (af rfl (af rfl (af hs (af rfl (af rfl (af ((fE.isN (by decide) trivial trivial).trans (by rw [decide_eq_true rfl];rfl)) (bP rfl hk))))))))))))))
theorem DT {c:eO}{X pr:T}{ws:List Rw}{w:Rw}{b x5:Option T}{H:PK aP}{r:cj}(hw:w.k∉ws.map (·.k))(hl:ws.length < 1000)(hk:H (tF X pr (some (xf (ws++[w]))) b (some (mH w)) x5) J=r):tD c (tF X pr (some (xf ws)) b (some (mH w)) x5) J H=r:=by
 refine af rfl (af rfl (af yI (af rfl (af rfl (af rfl (af rfl (c7 rfl (af ?_ hk))))))))
 have:=cg.put (vs:=ws.map vT) (v:=vT w) hw (by rw [length_map];exact lt_trans hl (by decide))
 rw [show xf (ws++[w])=T.dct ((ws.map (·.k)++[w.k]).map aV) (ws.map vT++[vT w]) by rw [xf,map_append (f:=fun x:Rw=>x.k),map_append (f:=vT)];rfl]
 exact this
theorem told_ok {ws:List Rw}(C:t8 M s ws)(n:Nat):aw Ψ (n+1) 50 [.lst (ws.map mH),.lst (lj s)] J=.ret (xf ws) J:=by
 have nd:(ws.map (·.k)).Nodup:=by
  obtain ⟨K,S,p⟩:=C.ex
  have:=S.nd
  rw [append_nil] at this
  exact p.nodup_iff.mp this
 have lp:∀(suf pre bs:List Rw) (x4 x5:Option T) {H:PK aP} {r:cj},ws=pre++suf->(∀b∈bs,b∈ws)->bs.length<=pre.length->(∀b x4 x5,H (tF (.lst (ws.map mH)) (.lst (lj s)) (some (xf ws)) b x4 x5) J=r)->
   cu (ba 4) (ah tA (ah tB (ah tC (ah tD am)))) ⟨aw Ψ n⟩ (suf.map mH) (tF (.lst (ws.map mH)) (.lst (lj s)) (some (xf pre)) (some (C6 bs)) x4 x5) J H=r:=fun suf=>by
  induction suf with
  |nil=>intro pre bs x4 x5 H r e _ _ hk;rw [append_nil] at e;rw [<-e];exact hk _ _ _
  |cons w suf ih=>
   intro pre bs x4 x5 H r e hb hl hk
   have hw:w∈ws:=e▸mem_append_right _ (.head _)
   have nw:w.k∉pre.map (·.k):=fun q=>by
    rw [e,map_append] at nd
    exact (aG nd).2.2 w.k q w.k (.head _) rfl
   have pl:pre.length < 1000:=by
    have:=C.len
    rw [e,List.length_append,length_cons] at this;lia
   obtain ⟨bs',h1,h2⟩:=FU (w:=w) (bs:=bs) (fun b hb' q=>C.same b (hb b hb') w hw q) (lt_of_le_of_lt hl pl)
   refine fZ rfl (DW nw (DV (DU (C.num w hw) h1 (DT nw pl ?_))))
   refine ih (pre++[w]) bs' _ _ (by rw [e,List.append_assoc];rfl) ?_ ?_ hk
   .rcases h2 with rfl |rfl
    .exact hb
    .exact fun b hb'=>(ai hb').elim (hb b) fun q=>aa q▸hw
   .rw [List.length_append]
    rcases h2 with rfl |rfl
    .exact le_succ_of_le hl
    .rw [List.length_append];exact succ_le_succ hl
 exact tL (af rfl (af rfl (lp ws [] [] none none rfl (fun _ h=>nomatch h) (le_refl _) fun _ _ _=>rfl)))
theorem BK (G:Gs s){k:Kn}(hg:k.g.length=(ao s).length){j:Nat}(hj:j < (lj s).length)(n:Nat):∃t,aL (.lst (lj s)) (nT j)=some t/\aw Ψ (n+10) 28 [t,.str (M.mark k.p),dH (ao s),gT k.g] J=.ret (.bool (nV M s k j)) J:=by
 have pl:=jL G
 obtain _ |j:=j
 .exact ⟨.none,eE (j:=0) rfl (zero_le _),q7 (m:=M.mark k.p) (n+9)⟩
 .have hj:j < (mI s).length:=by rw [length_cons,length_map] at hj;exact Nat.lt_of_succ_lt_succ hj
  have e1:(mI s)[j]?=some (mI s)[j]:=getElem?_eq_getElem hj
  have m1:=bu (getElem_mem hj)
  have e2:(lj s)[j+1]?=some (bo (mI s)[j]):=by
   show ((mI s).map bo)[j]?=_
   rw [getElem?_map,e1];rfl
  have e3:nV M s k (j+1)=met (ao s) (M.mark k.p) k.g (mI s)[j]:=by
   show (match (mI s)[j]? with |some x=>met (ao s) (M.mark k.p) k.g x |none=>true)=_
   rw [e1]
  rw [e3]
  refine ⟨_,eE e2 (le_trans (le_trans hj pl) (by decide)),?_⟩
  generalize (mI s)[j]=x at m1
  have hk:(∃a c,x=.till a c)\/∃a,x=.always a:=by
   rcases cL m1.1 with ⟨a,rfl⟩ |h
   .cases m1.2
   .exact h
  have d40:∀x∈ao s,dep x<=40:=fun x hx=>le_trans (cY hx) (le_trans (succ_le_succ G.dep) (by decide))
  exact uF d40 (G.bds hg) m1.1 hk (n:=n+8) (le_trans (cY m1.1) (le_trans (succ_le_succ G.dep) (le_trans (by decide) (le_add_left 8 n))))
theorem wB (O:M.Ok)(G:Gs s){w v:Rw}(hp:v.k.p < M.names.length)(hg:v.k.g.length=(ao s).length)(hn:w.n < (lj s).length)(h:v.r < w.r\/(v.r=w.r/\nV M s v.k w.n=false))(n:Nat):aw Ψ (n+12) 51 [.tup M.fs,dH (ao s),.lst (lj s),vT w,vT v,aV v.k] J=.ret (.bool true) J:=by
 have e1:mu (nT v.r) (nT w.r)=some (!decide (v.r=w.r)):=fE.isN (by decide) trivial trivial
 rcases h with h | ⟨h,hm⟩
 .rw [decide_eq_false (ne_of_lt h)] at e1
  exact d9 (af rfl (af rfl (af rfl (af rfl (af e1 (c7 rfl (af rfl (af rfl (af rfl (af rfl (af (show o7 (nT v.r) (nT w.r)=some true from congrArg some (decide_eq_true (bN h))) rfl)))))))))))
 .rw [decide_eq_true h] at e1
  obtain ⟨t,h1,h2⟩:=BK (M:=M) (J:=J) G hg hn (n+1)
  rw [hm] at h2
  exact d9 (af rfl (af rfl (af rfl (af rfl (af e1 (bP rfl (af rfl (af rfl (af rfl (af h1 (af rfl (af rfl (af rfl (af rfl (af (mL O hp) (af rfl (af rfl (af rfl (az h2 (af rfl rfl))))))))))))))))))))
end
section
variable {J:Sg} {M:Mc} {s:Sy} {K:List Kn} {ws:List Rw}
theorem C5:∀{ws:List Rw} {w:Rw},(ws.map (·.k)).Nodup->w∈ws->ws[(ws.map (·.k)).idxOf w.k]?=some w
 |v::ws,w,nd,h=>by
  obtain ⟨n1,n2⟩:=aX nd
  rw [map_cons,idxOf_cons]
  rcases au h with rfl |h
  .rw [beq_self_eq_true,cond_true];rfl
  .have ne:v.k≠w.k:=fun q=>n1 (show v.k∈_ from q▸mem_map_of_mem h)
   rw [beq_eq_false_iff_ne.mpr ne,cond_false]
   exact C5 n2 h
theorem zB (nd:(ws.map (·.k)).Nodup){w:Rw}(h:w∈ws):idxD (xf ws) (aV w.k)=some (vT w):=by
 show o1 (kU ((ws.map (·.k)).map aV) (aV w.k)) _=_
 rw [cg.fd,if_pos (mem_map_of_mem h)]
 show (ws.map vT)[(ws.map (·.k)).idxOf w.k]?=_
 rw [getElem?_map,C5 nd h];rfl
theorem zA {k:Kn}(h:k∈ws.map (·.k)):dI (aV k) (xf ws)=some false:=by
 show (AR _ _).map _=_
 rw [xf,cg.has k,decide_eq_true h];rfl
abbrev kF (M:Mc)(s:Sy)(ws:List Rw)(x3 x4 x5 x6 x7 x8 x9 x10 x11:Option T):aP:=[some (.tup M.fs),some (bo s),some (.lst (ws.map mH)),x3,x4,x5,x6,x7,x8,x9,x10,x11,none,none]
abbrev kG (M:Mc)(s:Sy)(ws:List Rw)(F:List Kn)(x6 x9 x10 x11:Option T):aP:=kF M s ws (some (dH (ao s))) (some (.lst (lj s))) (some (Hu s)) x6 (some (xf ws)) (some (.lst (F.map aV))) x9 x10 x11
theorem Ca:gZ=ah (bI (c9 (qE (p1 (dS .list) (pV 2)))) zF am) (ah (aD 3 (ax 500 (ae (pV 1) an))) (ah Ip (ah (aD 5 (bW (ae (aT an) an))) (ah IZ (ah (aD 7 (ax 50 (ae (pV 2) (ae (pV 4) an)))) (ah (aD 8 (bW an)) (ah IY (ah (aD 10 (pI 0)) (ah (eS 400 Hw Hv) (ah (aF (pB (p2 cH (p1 br (pV 2)) (p1 br (pV 8))))) am)))))))))):=rfl
theorem B7 (G:Gs s){c:eO}{H:PK aP}{r:cj}(hk:H (kF M s ws (some (dH (ao s))) (some (.lst (lj s))) none none none none none none none) J=r):Ip c (kF M s ws (some (dH (ao s))) none none none none none none none none) J H=r:=by
 have ad:bw (.lst [.none]) (.lst ((mI s).map bo))=some (.lst (lj s)):=by
  show mi _ _=_
  rw [mi,show bS ([T.none]++(mI s).map bo).length=true from ble_eq_true_of_le (by rw [List.length_append,length_map];exact le_trans (add_le_add_left (jL G) 1) (by decide))];rfl
 refine c7 rfl (af rfl (af rfl ((fk (e:=bo) Hy bo (fun x hx=>⟨_,rfl,fun H=>?_,fun _ H=>rfl⟩) rfl).trans (af ad hk))))
 rcases cL hx with ⟨a,rfl⟩ | ⟨a,c,rfl⟩ | ⟨a,rfl⟩<;>rfl
theorem B6 {n:Nat}{H:PK aP}{r:cj}:∀(l:List Sy) (k:Nat) (x6:Option T),k+l.length=(ao s).length->(ao s).length<=4->(∀x6,H (kF M s ws (some (dH (ao s))) (some (.lst (lj s))) (some (Hu s)) x6 none none none none none) J=r)->
  cu (ba 6) (ah (aD 5 (ax 30 (ae (pV 5) an))) am) ⟨aw Ψ (n+1)⟩ (l.map bo) (kF M s ws (some (dH (ao s))) (some (.lst (lj s))) (some (.lst ((p9 k).map gT))) x6 none none none none none) J H=r:=fun l=>by
 induction l with
 |nil=>intro k x6 e _ hk;rw [show k=_ from e];exact hk x6
 |cons x l ih=>
  intro k x6 e h4 hk
  rw [length_cons] at e
  exact fZ rfl (af rfl (az (xa n k (by lia)) (ih (k+1) _ (by lia) h4 hk)))
theorem B0 (O:M.Ok)(G:Gs s){n:Nat}{H:PK aP}{r:cj}:∀(l:List Nat),(∀q∈l,q < M.names.length)->∀(F:List Kn) (x6 x9:Option T),F.length+l.length * 16<=10000->
   (∀x9,H (kG M s ws (F++l.flatMap fun q=>((p9 (ao s).length).filter fun g=>!so (M.mark q) (ao s) g s).map (Kn.mk q)) x6 x9 none none) J=r)->
   cu (ba 9) GB ⟨aw Ψ (n+19)⟩ (l.map nT) (kG M s ws F x6 x9 none none) J H=r:=fun l=>by
 induction l with
 |nil=>intro _ F x6 x9 _ hk;rw [flatMap_nil,append_nil] at hk;exact hk x9
 |cons q l ih=>
  intro hl F x6 x9 h1 hk
  rw [length_cons] at h1
  have al:(p9 (ao s).length).length<=16:=by rw [sQ];exact pow_le_pow_right (j:=4) (by decide) G.few
  have fl:=length_filter_le (fun g=>!so (M.mark q) (ao s) g s) (p9 (ao s).length)
  have hq:=hl q (.head _)
  have ex:iO (.lst (F.map aV)) (.lst (((p9 (ao s).length).filter fun g=>!so (M.mark q) (ao s) g s).map fun g=>aV ⟨q,g⟩))=some (.lst ((F++((p9 (ao s).length).filter fun g=>!so (M.mark q) (ao s) g s).map (Kn.mk q)).map aV)):=by
   rw [map_append,map_map]
   exact uP (by rw [length_map,length_map];exact le_trans (Hp h1 (le_trans fl al)) (by decide))
  refine fZ rfl (af rfl (af rfl ((fk (e:=gT) (fun g=>!so (M.mark q) (ao s) g s) (fun g=>aV ⟨q,g⟩) (fun g hg=>⟨_,rfl,fun H=>?_,fun _ H=>rfl⟩) rfl).trans (af ex (ih (fun q h=>hl q (.tail _ h)) _ _ _ ?_ fun x9=>?_)))))
  .exact af rfl (af rfl (af rfl (af rfl (af (mL O hq) (af rfl (af rfl (az (lB (G.bds (q0 hg)) (fun x hx=>cL hx) (n+18) s (le_trans G.dep (le_trans (by decide) (le_add_left 18 n))) (le_trans G.dep (by decide)) (eG s)) (af rfl rfl))))))))
  .rw [List.length_append,length_map];exact Ho h1 fl al
  .have:=hk x9
   rw [flatMap_cons,<-List.append_assoc] at this
   exact this
theorem BZ (O:M.Ok)(G:Gs s)(C:t8 M s ws)(nd:(ws.map (·.k)).Nodup)(hu:∀w∈ws,w.k.p < M.names.length/\w.k.g.length=(ao s).length){w:Rw}(hw:w∈ws){D R:List Kn}{x6 x9:Option T}(hn:(rP M s w.k).Nodup)(hc:∀y∈rP M s w.k,y∈th M s w.k/\y∈ws.map (·.k))(hz:(D++w.k::R).length+(rP M s w.k).length<=1000){n:Nat}{H:PK aP}{r:cj}:∀(suf pre:List Kn) (x11:Option T),rP M s w.k=pre++suf->
   (∀x11,H (kG M s ws ((D++w.k::R)++(rP M s w.k).filter fun y=>!decide (y∈D++w.k::R)) x6 x9 (some (nT D.length)) x11) J=r)->
   cu (ba 11) IX ⟨aw Ψ (n+12)⟩ (suf.map aV) (kG M s ws ((D++w.k::R)++pre.filter fun y=>!decide (y∈D++w.k::R)) x6 x9 (some (nT D.length)) x11) J H=r:=fun suf=>by
 induction suf with
 |nil=>intro pre x11 e hk;rw [append_nil] at e;rw [<-e];exact hk x11
 |cons y suf ih=>
  intro pre x11 e hk
  have yt:y∈rP M s w.k:=e▸mem_append_right _ (.head _)
  obtain ⟨y1,y2⟩:=hc y yt
  obtain ⟨v,hv,rfl⟩:=aC y2
  have np:v.k∉pre:=fun q=>by rw [e] at hn;exact (aG hn).2.2 v.k q v.k (.head _) rfl
  have fl:(pre.filter fun y=>!decide (y∈D++w.k::R)).length+1<=(rP M s w.k).length:=by
   rw [e,List.length_append,length_cons]
   exact add_le_add (length_filter_le ..) (succ_le_succ (zero_le _))
  have e1:aL (.lst (((D++w.k::R)++pre.filter fun y=>!decide (y∈D++w.k::R)).map aV)) (nT D.length)=some (aV w.k):=bq (e:=aV) (by rw [List.append_assoc,getElem?_append_right (le_refl _),sub_self];rfl) (le_trans (le_trans (by rw [List.length_append];exact le_add_right _ _) (le_trans (le_add_right _ _) hz)) (by decide))
  have e3:fK (aV v.k) (.lst (((D++w.k::R)++pre.filter fun y=>!decide (y∈D++w.k::R)).map aV))=some (!decide (v.k∈(D++w.k::R)++pre.filter fun y=>!decide (y∈D++w.k::R))):=jd.nin (by decide) trivial (fun _ _=>trivial) rfl
  have T:=wB (J:=J) O G (hu v hv).1 (hu v hv).2 (C.num w hw) (C.edge w hw v hv y1) n
  refine fZ rfl (af rfl (af rfl (af (zA y2) (bP rfl (af rfl (af rfl (af rfl (af rfl (af rfl (af rfl (af e1 (af (zB nd hw) (af rfl (af rfl (af (zB nd hv) (af rfl (az T (af rfl (bP rfl (af rfl (af rfl (af e3 ?_))))))))))))))))))))))
  by_cases q:v.k∈D++w.k::R
  .rw [decide_eq_true (mem_append_left _ q)]
   have:=ih (pre++[v.k]) (some (aV v.k)) (by rw [e,List.append_assoc];rfl) hk
   rw [List.filter_append,List.filter_cons_of_neg (by rw [decide_eq_true q];decide),filter_nil,append_nil] at this
   exact this
  .rw [decide_eq_false fun h=>(ai h).elim q fun h=>np (bu h).1]
   have:=ih (pre++[v.k]) (some (aV v.k)) (by rw [e,List.append_assoc];rfl) hk
   rw [List.filter_append,List.filter_cons_of_pos (by rw [decide_eq_false q];rfl),filter_nil,<-List.append_assoc] at this
   exact c7 rfl (mt (cO (e:=aV) v.k (lt_of_lt_of_le (by rw [List.length_append];exact lt_of_lt_of_le (Nat.add_lt_add_left (Nat.lt_of_succ_le fl) _) hz) (by decide))) this)
end
section
variable {J:Sg} {M:Mc} {s:Sy} {K:List Kn} {ws:List Rw}
theorem zq (l:List Kn):br (.lst (l.map aV))=some (nT l.length):=congrArg (fun z:Nat=>some (T.int z)) (length_map ..)
theorem Gl (a c:Nat):o7 (nT a) (nT c)=some (decide (a < c)):=congrArg some (by
 by_cases h:a < c
 .rw [decide_eq_true h];exact decide_eq_true (bN h)
 .rw [decide_eq_false h];exact decide_eq_false fun q=>h (ofNat_lt.mp q))
theorem FP (O:M.Ok)(G:Gs s)(U:(rW M s).length<=128)(C:t8 M s ws)(S:rK M s (st M s) K [])(P:K.Perm (ws.map (·.k)))(n:Nat){x6:Option T}{H:PK aP}{r:cj}(hκ:∀D x9 x10 x11,DI M s K D []->H (kG M s ws D x6 x9 x10 x11) J=r):
  ∀(N:Nat) (D R:List Kn) (x9 x11:Option T),K.length < D.length+N->DI M s K D R->fG Hw Hv ⟨aw Ψ (n+20)⟩ N (kG M s ws (D++R) x6 x9 (some (nT D.length)) x11) J H=r:=by
 have nk:=S.nd;have ku:=S.sub
 rw [append_nil] at nk ku
 have kl:K.length<=128:=le_trans (aS nk ku) U
 have nd:(ws.map (·.k)).Nodup:=P.nodup_iff.mp nk
 have hu:∀w∈ws,w.k.p < M.names.length/\w.k.g.length=(ao s).length:=fun w hw=>dN.mp (ku _ (P.mem_iff.mpr (mem_map_of_mem hw)))
 intro N
 induction N with
 |zero=>
  intro D R x9 x11 h L
  have:=aS (aG L.nd).1 (fun k hk=>L.sub k (mem_append_left _ hk))
  exact absurd h (not_lt.mpr (by rw [Nat.add_zero];exact this))
 |succ N ih=>
  intro D R x9 x11 h L
  rw [jx]
  refine af rfl (af rfl (af (zq (D++R)) (af (Gl _ _) ?_)))
  cases R with
  |nil=>
   rw [append_nil,decide_eq_false (lt_irrefl _),cond_false]
   exact hκ D _ _ _ L
  |cons k R=>
   have il:D.length < (D++k::R).length:=by rw [List.length_append,length_cons];lia -abstractProof
   rw [decide_eq_true il,cond_true]
   have ll:=aS L.nd L.sub
   have hk:k∈K:=L.sub k (mem_append_right _ (.head _))
   obtain ⟨kp,kg⟩:=dN.mp (ku k hk)
   obtain ⟨w,hw,rfl⟩:=aC (P.mem_iff.mp hk)
   have e1:aL (.lst ((D++w.k::R).map aV)) (nT D.length)=some (aV w.k):=bq (e:=aV) (by rw [getElem?_append_right (le_refl _),sub_self];rfl) (le_trans (le_of_lt il) (le_trans ll (le_trans kl (by decide))))
   have tp:=jD (M:=M) (s:=s) w.k
   have tn:(rP M s w.k).Nodup:=tp.nodup_iff.mpr (jC O kp)
   have tc:∀y∈rP M s w.k,y∈th M s w.k/\y∈ws.map (·.k):=fun y hy=>⟨tp.mem_iff.mp hy,P.mem_iff.mp (by have:=S.clo w.k hk y (tp.mem_iff.mp hy);rwa [append_nil] at this)⟩
   have tl:(rP M s w.k).length<=128:=le_trans (aS tn fun y hy=>P.mem_iff.mpr (tc y hy).2) kl
   refine af rfl (af rfl (af e1 (af rfl (af (zA (mem_map_of_mem hw)) (bP rfl (af rfl (af rfl (af rfl (af rfl (af rfl (af e1 (az (u5 O G kp kg n) (af rfl ?_)))))))))))))
   have I:=BZ (J:=J) O G C nd hu hw (D:=D) (R:=R) (x6:=x6) (x9:=x9) tn tc (le_trans (add_le_add (le_trans ll kl) tl) (by decide)) (n:=n+8) (H:=fun V J=>(ah (aD 10 (p2 bw (pV 10) (pI 1))) am) ⟨aw Ψ (n+20)⟩ V J fun V J=>fG Hw Hv ⟨aw Ψ (n+20)⟩ N V J H) (r:=r) (rP M s w.k) [] x11 rfl fun x11=>?_
   .rw [filter_nil,append_nil] at I
    exact I
   .refine af rfl (af (show bw (nT D.length) (.int 1)=some (nT (D++[w.k]).length) by rw [List.length_append];rfl) ?_)
    have:=ih (D++[w.k]) (R++(rP M s w.k).filter fun y=>!decide (y∈D++w.k::R)) x9 x11 (by rw [List.length_append,length_singleton];lia -abstractProof) (L.step S O)
    rw [show (D++[w.k])++(R++(rP M s w.k).filter fun y=>!decide (y∈D++w.k::R))=(D++w.k::R)++(rP M s w.k).filter fun y=>!decide (y∈D++w.k::R) by rw [List.append_assoc,List.append_assoc];rfl] at this
    exact this
theorem B9 (O:M.Ok)(G:Gs s)(U:(rW M s).length<=128)(C:t8 M s ws)(n:Nat):aw Ψ (n+21) 52 [.tup M.fs,bo s,.lst (ws.map mH)] J=.ret (.bool true) J:=by
 obtain ⟨K,S,P⟩:=C.ex
 have nk:=S.nd;have ku:=S.sub;have beg:=S.pre
 rw [append_nil] at nk ku beg
 have kl:K.length<=128:=le_trans (aS nk ku) U
 have sp:=yo (M:=M) (s:=s)
 have L0:DI M s K [] (H6 M s):=⟨sp.nodup_iff.mpr (nk.sublist beg.sublist),fun k hk=>beg.subset (sp.mem_iff.mp hk),fun k hk=>sp.mem_iff.mpr hk,fun _ h=>nomatch h⟩
 have rl:M.firsts.length<=12:=by
  have:=aS (m:=List.range M.names.length) O.firsts.nd fun p hp=>bJ (O.firsts.lt p hp)
  rw [length_range] at this;exact le_trans this O.few
 refine tN ?_
 rw [Ca]
 refine af rfl (af rfl (af rfl (bP rfl (af rfl (az (kH (n+19) s (le_trans G.dep (le_trans (by decide) (le_add_left 19 n))) (le_trans G.dep (by decide))) ?_)))))
 refine B7 (M:=M) (ws:=ws) G ?_
 refine c7 rfl (c7 rfl (af rfl (af rfl ?_)))
 refine B6 (n:=n+19) (ao s) 0 none (zero_add _) G.few fun x6=>?_
 refine af rfl (af rfl (az (told_ok C (n+19)) (c7 rfl (af rfl (af rfl (af rfl ?_))))))
 refine B0 O G (n:=n+1) M.firsts O.firsts.lt [] x6 none (by rw [length_nil];lia -abstractProof) fun x9=>?_
 refine FP O G U C S P n (fun D x9 x10 x11 L=>?_) 400 [] (H6 M s) x9 none (by rw [length_nil,zero_add];exact lt_of_le_of_lt kl (by decide)) L0
 have e1:br (.lst (ws.map mH))=some (nT ws.length):=congrArg (fun z:Nat=>some (T.int z)) (length_map ..)
 have e2:cH (nT ws.length) (nT D.length)=some true:=by
  have:=(L.all S).symm.trans P
  rw [fE.is (by decide) trivial trivial,decide_eq_true (by have:=this.length_eq;rw [length_map] at this;exact this.symm)]
 exact af rfl (af e1 (af rfl (af (zq D) (af e2 rfl))))
end
end
end Mine.L07
section
set_option maxRecDepth 100000
namespace Mine.L07
noncomputable section
open PySem Ltl
section
variable {M:Mc} {s:Sy} {J:Sg} {ns:List Int} {n:Nat}
structure Ff (t:T) (w:Str) (ls:List (List T)):Prop where
 e:t=.tup (.str w::ls.map .lst)
 lf:∀l∈ls,l.all (ub 4)=true/\l.length<=1000
 sf:∀l∈ls,∀x∈l,Sf 48 x
theorem DQ {ws:List Rw}(C:t8 M s ws):Ff (.tup [.str (ofString "keeps"),.lst (ws.map mH)]) (ofString "keeps") [ws.map mH]:=by
 refine ⟨rfl,fun l hl=>?_,fun l hl=>?_⟩
 .rw [aa hl]
  refine ⟨all_eq_true.mpr fun x hx=>?_,by rw [length_map];exact le_trans C.len (by decide)⟩
  obtain ⟨w,_,rfl⟩:=aC hx
  show (true&&((w.k.g.map T.bool).all (ub 2)&&_))=true
  rw [show (w.k.g.map T.bool).all (ub 2)=true from all_eq_true.mpr fun y hy=>by obtain ⟨b,_,rfl⟩:=aC hy;rfl];rfl
 .rw [aa hl]
  exact qB fun w _=>yB (Bb qC (Bb (yB (qB fun _ _=>Be)) (Bb qC (Bb qC H9))))
theorem DR {K P R:List Kn}(B:Fs M s K P R):Ff (.tup [.str (ofString "breaks"),C9 P,C9 R]) (ofString "breaks") [P.map fun k=>nT k.p,R.map fun k=>nT k.p]:=by
 have len:=B.len
 rw [List.length_append] at len
 have one:∀l:List Kn,l.length<=1000->((l.map fun k=>nT k.p).all (ub 4)=true/\(l.map fun k=>nT k.p).length<=1000)/\∀x∈l.map fun k=>nT k.p,Sf 48 x:=fun l hl=>
  ⟨⟨all_eq_true.mpr fun x hx=>by obtain ⟨k,_,rfl⟩:=aC hx;rfl,by rw [length_map];exact hl⟩,qB fun _ _=>qC⟩
 have h1:=one P (le_trans (le_add_right _ _) len)
 have h2:=one R (le_trans (le_add_left _ _) len)
 exact ⟨rfl,aI ⟨h1.1,aI ⟨h2.1,fun _ h=>nomatch h⟩⟩,aI ⟨h1.2,aI ⟨h2.2,fun _ h=>nomatch h⟩⟩⟩
theorem Ff.told {t:T}{w:Str}{ls:List (List T)}(h:Ff t w ls)(hl:ls.length<=2):jc t=true:=by
 rw [h.e]
 show ((ls.map T.lst).all uD&&bS ((ls.map T.lst).length+1))=true
 rw [show bS ((ls.map T.lst).length+1)=true from ble_eq_true_of_le (by rw [length_map];exact le_trans (succ_le_succ hl) (by decide)),Bool.and_true]
 refine all_eq_true.mpr fun x hx=>?_
 obtain ⟨l,h1,rfl⟩:=aC hx
 obtain ⟨h2,h3⟩:=h.lf l h1
 show (l.all (ub 4)&&bS (l.length+1))=true
 rw [h2,show bS (l.length+1)=true from ble_eq_true_of_le (le_trans (succ_le_succ h3) (by decide))];rfl
noncomputable abbrev more (l:List T):List T:=l++[.str (ofString "more")]
theorem A4 {w:Str}{ls:List (List T)}:r6 (.tup (.str w::ls.map .lst))=.tup (.str w::(ls.map more).map .lst):=by
 show T.tup (_::(ls.map T.lst).map jY)=_
 rw [map_map,map_map];rfl
theorem ng {w:T}{ls:List T}:bR (.tup (w::ls)) (some 1) none=some (.tup ls):=by
 unfold bR
 exact congrArg (fun l=>some (T.tup l)) (Af (b:=1) (l:=w::ls) (succ_le_succ (zero_le _)))
noncomputable abbrev lF (ns:List Int)(x2 x3 x4 x5 x6 x7 x8 x9:Option T):aP:=[some (.scr ns),some .spot,x2,x3,x4,x5,x6,x7,x8,x9,none,none,none]
theorem EI:vF=ah IW (ah IV (ah IU (lR 6 7 8 Fo Fm Gr (ah (aD 9 Fo) (ah (bI Gw zF am) Dj))))):=rfl
theorem Gp {c:eO}{x2 x3 x4 x5:Option T}{X:List T}{k:PK Bool}:Fm c (lF ns x2 x3 x4 x5 (some (.tup [.str (ofString "keeps"),.lst X])) none none none) J k=k false J:=by kernel_rfl
theorem Gq {c:eO}{x2 x3 x4 x5:Option T}{X Y:List T}{k:PK Bool}:Fm c (lF ns x2 x3 x4 x5 (some (.tup [.str (ofString "breaks"),.lst X,.lst Y])) none none none) J k=k false J:=by kernel_rfl
theorem BX {c:eO}{x2 x3 x4 x5:Option T}{t:T}{w:Str}{ls:List (List T)}(h:Ff t w ls){k:PK T}{r:cj}(hk:k (.lst (ls.map .lst)) J=r):Gr c (lF ns x2 x3 x4 x5 (some t) none none none) J k=r:=by
 rw [h.e]
 unfold Gr
 refine af rfl (af rfl (af ng (af rfl (bn (e:=T.lst) T.lst (fun l hl=>⟨_,rfl,fun H=>af rfl (af rfl (af ?_ rfl))⟩) hk))))
 obtain ⟨h2,h3⟩:=h.lf l hl
 show (bif (l.all (ub 4)&&bS (l.length+1)) then some (T.lst l) else none)=_
 rw [h2,show bS (l.length+1)=true from ble_eq_true_of_le (le_trans (succ_le_succ h3) (by decide))];rfl
theorem BY {c:eO}{x2 x3 x4 x5 x8:Option T}{t:T}{w:Str}{ls:List (List T)}(h:Ff t w ls){k:PK Bool}{r:cj}(hk:k false J=r):Gw c (lF ns x2 x3 x4 x5 (some (r6 t)) (some (.lst (ls.map .lst))) x8 (some t)) J k=r:=by
 have ne:mu (.lst (ls.map .lst)) (.lst (ls.map .lst))=some false:=by
  show (cH _ _).map _=_
  rw [Sf.eq (yC (n:=49) (qB fun l hl=>yC (n:=48) (h.sf l hl)))];rfl
 rw [h.e,A4]
 unfold Gw
 refine af rfl (af rfl (af ng (af rfl (bn (e:=T.lst) T.lst (fun l hl=>⟨_,rfl,fun H=>af rfl (af rfl rfl)⟩) (af rfl (af ne (bP rfl ?_)))))))
 refine af rfl (af rfl (af ng (af rfl ?_)))
 rw [map_map]
 refine bn (e:=T.lst ∘ more) T.lst (fun l hl=>⟨_,rfl,fun H=>af rfl (af rfl (af rfl (af ?_ rfl)))⟩) (af rfl (af ne (bP rfl hk)))
 show bR (.lst (more l)) none (some (-1))=_
 rw [vq,oy,dropLast_concat]
theorem Gu (S:HH M s){x2 x5 x7 x8:Option T}{ws:List Rw}(C:t8 M s ws){X:List T}{H:PK aP}:Dj ⟨aw Ψ (n+25)⟩ (lF ns x2 (some (.tup M.fs)) (some (bo s)) x5 (some (.tup [.str (ofString "keeps"),.lst X])) x7 x8 (some (.tup [.str (ofString "keeps"),.lst (ws.map mH)]))) J H=.ret (.bool true) J:=by
 unfold Dj
 exact af rfl (af rfl (af rfl (c7 rfl (af rfl (af rfl (af rfl (af rfl (az (B9 S.ok S.g S.u C (n+4)) rfl))))))))
theorem Gv (S:HH M s){x2 x5 x7 x8:Option T}{K P R:List Kn}(S':rK M s (st M s) K [])(B:Fs M s K P R){X Y:List T}{H:PK aP}:Dj ⟨aw Ψ (n+25)⟩ (lF ns x2 (some (.tup M.fs)) (some (bo s)) x5 (some (.tup [.str (ofString "breaks"),.lst X,.lst Y])) x7 x8 (some (.tup [.str (ofString "breaks"),C9 P,C9 R]))) J H=.ret (.bool true) J:=by
 have W:=A0 (J:=J) S.ok (Fu S' B) (le_trans S.g.dep (by decide)) (n+12)
 rw [bY,bY,map_map,map_map] at W
 unfold Dj
 exact af rfl (af rfl (af rfl (bP rfl (af rfl (af rfl (af rfl (af rfl (af rfl (af rfl (az W rfl))))))))))
theorem wC {iF iK iP:Nat}{e1 e3:PE}{q2:PT}{pr:PS}{c:eO}{V:aP}{sp:Int}{H:PK aP}{v kv:T}{r:cj}(h1:∀k,e1 c V ⟨sp,none⟩ k=k v ⟨sp,none⟩)(h:jc v=true)(h2:∀k,q2 c (V.set iF (some v)) ⟨sp,none⟩ k=k false ⟨sp,none⟩)(h3:∀k,e3 c (V.set iF (some v)) ⟨sp,none⟩ k=k kv ⟨sp,none⟩)
  (h4:pr c ((((V.set iF none).set iK (some kv)).set iP none).set iF (some (r6 v))) ⟨sp,none⟩ H=r):lR iF iK iP e1 q2 e3 pr c V ⟨sp,none⟩ H=r:=by
 unfold lR
 refine (h1 _).trans ?_
 unfold Hf
 show gd (jc v) _=_
 rw [h]
 exact (h2 _).trans ((h3 _).trans h4)
theorem EH (hn:ns.length<=63)(n:Nat){H:PK aP}:ck (fun t _=>t=.bool true) (vF ⟨aw Ψ (n+25)⟩ (lF ns none none none none none none none none) ⟨1,none⟩ H):=by
 rw [EI]
 refine aH rfl (b9 (wj hn 0 (n+24)) ?_)
 rintro _ _ ⟨rfl,c,rfl⟩
 refine b9 (y8 c (n+24)) ?_
 rintro _ _ ⟨rfl,x,y,z,rfl,N⟩
 refine aH rfl (aH rfl (aH rfl (b9 (yv hn 1 (n+11) N) ?_)))
 rintro _ _ ⟨⟨j,rfl⟩,M,s,rfl,S⟩
 refine aH rfl (aH rfl (aH rfl (aH rfl (aH rfl (aH rfl (aH rfl (Gd (Ce S.ok (n+22)) ?_)))))))
 obtain ⟨t,_,e,rfl,JJJ⟩:=xh S.ok S.g S.u (sp:=(j:Int)) (n+1)
 have main:∀{w:Str} {ls:List (List T)},Ff t w ls->ls.length<=2->(∀k:PK Bool,Fm ⟨aw Ψ (n+25)⟩ (lF ns (some (mJ x y z)) (some (.tup M.fs)) (some (bo s)) (some M.t) (some t) none none none) ⟨j,none⟩ k=k false ⟨j,none⟩)->
   (∀x7 x8,Dj ⟨aw Ψ (n+25)⟩ (lF ns (some (mJ x y z)) (some (.tup M.fs)) (some (bo s)) (some M.t) (some (r6 t)) x7 x8 (some t)) ⟨j,none⟩ H=.ret (.bool true) ⟨j,none⟩)->
   (lR 6 7 8 Fo Fm Gr (ah (aD 9 Fo) (ah (bI Gw zF am) Dj))) ⟨aw Ψ (n+25)⟩ (lF ns (some (mJ x y z)) (some (.tup M.fs)) (some (bo s)) (some M.t) none none none none) ⟨j,none⟩ H=.ret (.bool true) ⟨j,none⟩:=fun {w ls} h hl hT hE=>by
  exact wC (v:=t) (kv:=.lst (ls.map .lst)) (fun k=>af rfl (af rfl (az e rfl))) (h.told hl) hT (fun k=>BX (ns:=ns) (x2:=some (mJ x y z)) (x3:=some (.tup M.fs)) (x4:=some (bo s)) (x5:=some M.t) h rfl) (af rfl (af rfl (az e (BY (ns:=ns) (x2:=some (mJ x y z)) (x3:=some (.tup M.fs)) (x4:=some (bo s)) (x5:=some M.t) (x8:=none) h (hE _ _)))))
 cases JJJ with
 |keeps ws C=>exact ⟨_,_,main (DQ C) (show 1<=2 by decide) (fun _=>Gp) fun _ _=>Gu S C,rfl⟩
 |breaks K P R S' B=>exact ⟨_,_,main (DR B) (show 2<=2 by decide) (fun _=>Gq) fun _ _=>Gv S S' B,rfl⟩
end
end
end Mine.L07
end
namespace Mine.L07
noncomputable section
open PySem
noncomputable def depth:Nat:=16+25
theorem plain (ns:List Int)(h:ns.length<=63):∃s,vF ⟨aw Ψ depth⟩ (frame [.scr ns,.spot] 11) ⟨1,none⟩ (fun _ s=>.ret .none s)=.ret (.bool true) s:=by
 obtain ⟨_,s,e,rfl⟩:=EH h 16 (H:=fun _ s=>.ret .none s)
 exact ⟨s,e⟩
end
end Mine.L07
end
open PySem PySem.W PyProof.Rows Mine Mine.L07
set_option maxRecDepth 100000
set_option maxHeartbeats 8000000
namespace Mine.L07
theorem z8:(defOf q rw_uf020006_07.row.name).isSome=true:=by kernel_rfl
noncomputable def HD:DefRec:=((defOf q rw_uf020006_07.row.name).get z8).1
theorem GQ:defOf q rw_uf020006_07.row.name=some (HD,[]):=by kernel_rfl
theorem GP:rw_uf020006_07.row.prog.theDef rw_uf020006_07.row.name=some (HD.params,HD.body,HD.scope):=by kernel_rfl
end Mine.L07
theorem PySem.Challenge.cw_uf020006_07_holds : PySem.Challenge.rw_uf020006_07.Holds := by
 refine holds_law Ia fun sd=>?_
 refine holds_open (q:=q) (loose:=[]) (Xt:=Mine.L07.Xt) (XP:=XL q []) (Yf:=Hook.obs Hook.none) (Ya:=Hook.val Hook.none) (YP:=Hook.says Hook.none) (N:=4000) left (Hook.of _) (Hook.keeps _) (fun s e=>xl_of s (cA e)) (fun mg h h' x k=>XL.keeps mg h h' x k) GQ GP (by kernel_rfl) (fun s e=>recFacts_of (cz e)) (by rfl) sd Jk ⟨rfl,rfl,rfl,rfl,rfl,by decide+kernel⟩ ?hw ?hc
 case hw=>w_witness2
 intro w s0 s₁ mg mb G Y fa o pm cd doc dV kV ho hd hcd hD hmg hg args vals as hpre hlay hrd hwl hlo
 clear Y ho hd hcd hD
 wrow_args hpre hlay hrd hwl hlo
 rename IntsAre _ _=>hI
 rename Heap.IsList _ _ _=>hL
 obtain ⟨J,hc⟩:=(fun {vs:List Value} {ns:List Int} (_:IntsAre vs ns)=>Mine.L07.plain ns) hI (by omega)
 refine wpAny_mono (zy (pg:=rw_uf020006_07.row.prog) (n:=Mine.L07.depth) (m:=11) (bd:=(u6 mh 999).tail) Iw (fun f F e=>EL e) G.T G.TE (Cz G.T) A9 BQ rfl rfl rfl rfl rfl (by decide+kernel) rfl rfl rfl EE ⟨by decide,by decide,rfl⟩ hmg hL hI (by omega) hc) (fun v s' q=>?_) fun _ _ q=>q.elim
 obtain ⟨rfl,h',tk,rfl,hk⟩:=q
 exact zU rf (by first |rfl |wrow_post) (.of_eq hg) hk
