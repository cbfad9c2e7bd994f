import PyProof.Rows.All
import Wide.All
import OpenK.AllK
import PySem.Challenge.RW_uf020006_06
set_option Elab.async false
set_option linter.all false
set_option autoImplicit false
set_option genInjectivity false
set_option genSizeOf false
open PySem.Str (ofString)
open List (all_eq_true append_nil concat_eq_append cons_append drop_zero ext_getElem filter_nil find?_some findIdx?_cons flatMap_cons flatMap_nil flatten_append flatten_cons getElem?_append_left getElem?_append_right getElem?_eq_getElem getElem?_map getElem?_of_mem getElem_map getElem_mem idxOf_cons length_cons length_drop length_eq_zero_iff length_filter_le length_map length_nil length_range length_reverse length_set length_singleton length_take lookup_cons map_append map_congr_left map_cons map_map map_nil mem_append mem_append_left mem_append_right mem_cons mem_cons_of_mem mem_cons_self mem_flatMap mem_flatten mem_of_getElem? mem_singleton nodup_append nodup_cons not_mem_nil pairwise_cons pairwise_singleton range' range'_succ replicate size_toArray take_length zipWith)
open Bool (and_eq_true and_eq_true_iff false_eq_true not_eq_true' or_eq_true)
open Nat (add_assoc add_comm add_le_add_left beq_refl ble_eq_true_of_le eq_of_beq_eq_true exists_eq_add_of_le le_add_left le_add_right le_antisymm le_max_left le_max_right le_of_ble_eq_true le_of_eq le_of_lt le_of_lt_succ le_of_succ_le_succ le_refl le_succ le_succ_of_le le_trans lt_irrefl lt_of_le_of_lt lt_of_lt_of_le lt_succ_of_le max_le min_le_left ne_of_lt not_lt pow_le_pow_right pow_succ sub_pos_of_lt sub_self succ_le_succ zero_add zero_le)
open PySem.Challenge (pw_uf020006_06 rw_uf020006_06)
open Int (ediv_one le_natAbs natCast_nonneg ofNat)
open Option (bind_some)
namespace Mine
universe u
@[elab_as_elim] theorem rwm {α : Sort u} {a b : α} {motive : α → Prop} (t : a = b) (x : motive b) : motive a := t ▸ x
@[elab_as_elim] theorem rwn {α : Sort u} {a b : α} {motive : α → Prop} (t : b = a) (x : motive b) : motive a := t ▸ x
@[elab_as_elim] theorem rwi {a b : Prop} {motive : Prop → Prop} (t : a ↔ b) (x : motive b) : motive a := propext t ▸ x
@[elab_as_elim] theorem rwj {a b : Prop} {motive : Prop → Prop} (t : b ↔ a) (x : motive b) : motive a := propext t ▸ x
section
variable {α β : Type} {a b : α} {s t : List α} {x y : Bool} {n m i : Nat} {p : α → Prop}
theorem aa : a ∈ [b] → a = b := List.mem_singleton.mp
theorem aA : a = b → a ∈ [b] := List.mem_singleton.mpr
theorem ak : a ∈ s ++ t → a ∈ s ∨ a ∈ t := List.mem_append.mp
theorem af : (x && y) = true → x = true ∧ y = true := Bool.and_eq_true_iff.mp
theorem fM (h : (x && y) = true) : x = true := (Bool.and_eq_true_iff.mp h).1
theorem gN (h : (x && y) = true) : y = true := (Bool.and_eq_true_iff.mp h).2
theorem sS : (p a ∧ ∀ x, x ∈ s → p x) → ∀ x, x ∈ a :: s → p x := List.forall_mem_cons.mpr
theorem an : a ∈ b :: s → a = b ∨ a ∈ s := List.mem_cons.mp
theorem aj : s[i]? = some a → ∃ h : i < s.length, s[i] = a := List.getElem?_eq_some_iff.mp
theorem av {x : Option β} {f : β → α} : Option.map f x = some b → ∃ a, x = some a ∧ f a = b := Option.map_eq_some_iff.mp
theorem aF {f : α → β} {b : β} : b ∈ s.map f → ∃ a, a ∈ s ∧ f a = b := List.mem_map.mp
theorem bn {f : α → β} {b : β} : (∃ a, a ∈ s ∧ f a = b) → b ∈ s.map f := List.mem_map.mpr
theorem aB {p : α → Bool} : s.all p = true → ∀ x, x ∈ s → p x = true := List.all_eq_true.mp
theorem dA : m ∈ List.range n → m < n := List.mem_range.mp
theorem bz : m < n → m ∈ List.range n := List.mem_range.mpr
theorem aL : (s ++ t).Nodup → s.Nodup ∧ t.Nodup ∧ ∀ a, a ∈ s → ∀ b, b ∈ t → a ≠ b := List.nodup_append.mp
theorem aK : (a :: s).Nodup → ¬ a ∈ s ∧ s.Nodup := List.nodup_cons.mp
theorem aG {x : Option α} : x.isSome = true → ∃ a, x = some a := Option.isSome_iff_exists.mp
theorem bJ : m ≤ n → (m : Int) ≤ n := Int.ofNat_le.mpr
theorem cD : m < n → (m : Int) < n := Int.ofNat_lt.mpr
theorem cH : ¬ m < n → n ≤ m := Nat.not_lt.mp
theorem fK : m < n → ¬ n ≤ m := Nat.not_le.mpr
theorem bL {p : α → Bool} : a ∈ s.filter p → a ∈ s ∧ p a = true := List.mem_filter.mp
theorem ik {p : α → Bool} : a ∈ s ∧ p a = true → a ∈ s.filter p := List.mem_filter.mpr
end
end Mine
open Lean in
local macro_rules
  | `(tactic| rw [$rs,*]) => do
    let mut o := #[]
    for r in rs.getElems do
      match r with
      | `(Parser.Tactic.rwRule| ← $e:term) => o := o.push (← `(tactic| first | refine Mine.rwn ($e ..) ?_ | refine Mine.rwj ($e ..) ?_ | rewrite [← $e:term]))
      | `(Parser.Tactic.rwRule| $e:term) => o := o.push (← `(tactic| first | refine Mine.rwm ($e ..) ?_ | refine Mine.rwi ($e ..) ?_ | rewrite [$e:term]))
      | _ => Macro.throwUnsupported
    `(tactic| (($o;*); try (with_reducible rfl)))
namespace Mine
noncomputable section
open PySem PySem.W PyProof.Rows
noncomputable def iP (tb:String->Option Builtin)(p:Program)(w:World)(n0:Nat)(ann:Option Value):Nat->SharedT->Thread->Option SharedT
 | 0,_,_=>none
 |n+1,s,t=>match through t with
  |true=>some s
  |false=>match stepOk n0 ann t with
   |false=>none
   |true=>match stepT (denote tb) p w s t with
    |some (s',t')=>iP tb p w n0 ann n s' t'
    |none=>none
theorem m8 {tb:String->Option Builtin}{p:Program}{w:World}{n0:Nat}{ann:Option Value}:∀{n:Nat} {s s':SharedT} {t:Thread},iP tb p w n0 ann n s t=some s'->topRun tb p w n0 ann n s.abs t=some s'.abs
 | 0,_,_,_,h=>by cases h
 |n+1,s,s',t,h=>by
  unfold iP at h
  unfold topRun
  cases he:through t with
  |true=>rw [he] at h;cases h;rfl
  |false=>
   rw [he] at h
   cases hk:stepOk n0 ann t with
   |false=>rw [hk] at h;cases h
   |true=>
    rw [hk] at h
    cases hs:stepT (denote tb) p w s t with
    |none=>rw [hs] at h;cases h
    |some r=>obtain ⟨s2,t2⟩:=r;rw [hs] at h;rw [stepT_spec hs];exact m8 h
noncomputable def FO {α:Type}:List α->List α
 | []=>[]
 |a::r=>match r with
  | []=>[a]
  |_::r=>a::FO r
noncomputable def rK:Nat->List Obj->BT
 | 0,_=>.nil
 |n+1,l=>match l with
  | []=>.nil
  |a::r=>.node a (rK n (FO r)) (rK n (FO r.tail))
noncomputable def jm (P:Params):BT:=rK 14 (boot_heap P).objs.toList
theorem zg {p q:Program}{loose:List Str}{Xt:Shared->Bool}{α:Type}{Yf:Shared->α}{Ya:World->α}{N:Nat}{g0:Bool}{m0:Nat}{ann:Option Value}{life:Life}
  (e:opening p=plainProg p.main.scope.names)(hN:Nat.ble 600 N=true)(f:∀s,fenceModules? p s=some s)
  (h0:∀P,absHeap (jm P) m0 life=boot_heap P)
  (size:∀P,((boot_heap P).isNs mainGlobals,(boot_heap P).objs.size,(boot_heap P).nsMap mainGlobals "__annotations__")=(true,m0,ann))
  (run:∀(w:World) (os:OsState),(iP treeTable p w m0 ann N ⟨jm w.params,m0,life,Array.mk [],boot_drawn,boot_toks,os⟩ (topStub p)).map (fun s=>
   (staticsOk (importedModules p.main.body) (boot_heap w.params) s.abs.heap&&namesBound p s.abs.heap&&gensDone s.abs&&laidKept (boot_heap w.params) s.abs.heap,openSeen q loose (importedModules p.main.body) Xt g0 s.abs,Yf s.abs))=some (true,openGood q loose,Ya w)):LeftO p q loose Xt Yf Ya N g0:=fun w=>by
 obtain ⟨⟨h,gs,d,k,os⟩,e1,e2⟩:=av (boot_open e hN f w)
 obtain ⟨rfl,rfl,rfl,rfl⟩:h=boot_heap w.params/\gs=Array.mk []/\d=boot_drawn/\k=boot_toks:=by simpa using e2
 obtain ⟨s,e3,e4⟩:=av (run w os)
 obtain ⟨l1,l2⟩:=Prod.mk.inj e4
 obtain ⟨z1,z2,z3⟩:_/\_/\_:=by simpa only [Prod.mk.injEq] using size w.params
 have r:=m8 e3
 rw [SharedT.abs,h0 w.params] at r
 have t:topFrom treeTable p w N ⟨boot_heap w.params,Array.mk [],boot_drawn,boot_toks,os⟩=some s.abs:=by
  unfold topFrom
  dsimp only
  rw [z1,z2,z3,r]
  show (match staticsOk (importedModules p.main.body) (boot_heap w.params) s.abs.heap&&namesBound p s.abs.heap&&gensDone s.abs&&laidKept (boot_heap w.params) s.abs.heap with |true=>_ |false=>_)=_
  rw [l1]
 unfold openEnds
 rw [e1]
 show Option.map _ (topFrom treeTable p w N _)=_
 rw [t]
 exact congrArg some l2
end
end Mine
section
namespace Mine.L06
end Mine.L06
open PySem PySem.W PyProof.Rows Mine Mine.L06
set_option maxRecDepth 100000
set_option maxHeartbeats 8000000
namespace Mine.L06
noncomputable section
noncomputable def q:Program:=PySem.W.view pw_uf020006_06 [1,2,3,4,6,7,8,9,10,11,12,13,14,15,16,17,19,20,21,22,23,24,25,27,29,30,31,32,34,35,36,37,38,39,40,41,42,43,44,45,46,47,48,49,50,51,52]
noncomputable def Xt (s:Shared):Bool:=xlAt q [] s&&recOk [] s
theorem l1:opening pw_uf020006_06=plainProg pw_uf020006_06.main.scope.names:=by kernel_rfl
theorem l2 (s:Shared):fenceModules? pw_uf020006_06 s=some s:=by kernel_rfl
theorem l3 (P:Params):absHeap (jm P) 11 {}=boot_heap P:=by kernel_rfl
theorem l4 (P:Params):((boot_heap P).isNs mainGlobals,(boot_heap P).objs.size,(boot_heap P).nsMap mainGlobals "__annotations__")=(true,11,some (.ref 6)):=by kernel_rfl
theorem l5 (w:World)(os:OsState):(iP treeTable pw_uf020006_06 w 11 (some (.ref 6)) 4000 ⟨jm w.params,11,{},Array.mk [],boot_drawn,boot_toks,os⟩ (topStub pw_uf020006_06)).map (fun s=>
   (staticsOk (importedModules pw_uf020006_06.main.body) (boot_heap w.params) s.abs.heap&&namesBound pw_uf020006_06 s.abs.heap&&gensDone s.abs&&laidKept (boot_heap w.params) s.abs.heap,openSeen q [] (importedModules pw_uf020006_06.main.body) Xt true s.abs,Hook.obs Hook.none s.abs))=some (true,openGood q [],Hook.val Hook.none w):=by kernel_rfl
theorem left:LeftO pw_uf020006_06 q [] Xt (Hook.obs Hook.none) (Hook.val Hook.none) 4000:=zg l1 rfl l2 l3 l4 l5
end
end Mine.L06
end
section
set_option genInjectivity true
namespace Mine
noncomputable section
open PySem PySem.W
inductive Ky where
 |int (i:Int)
 |str (x:Str)
 |tup (ks:List Ky)
noncomputable instance:DecidableEq Ky:=fun a b=>Classical.propDecidable (a=b)
noncomputable def b2i (b:Bool):Int:=if b then 1 else 0
inductive Kx where
 |int (i:Int)
 |bool (b:Bool)
 |str (x:Str)
 |tup (ks:List Kx)
mutual
noncomputable def Ky.hash (w:World):Ky->Int
 |.int i=>hashInt i
 |.str x=>hashStr w x
 |.tup ks=>reduceHash (Builtin.Tuple.tupleHashOf (Ky.hashes w ks))
termination_by structural k=>k
noncomputable def Ky.hashes (w:World):List Ky->List Int
 | []=>[]
 |k::r=>k.hash w::Ky.hashes w r
termination_by structural k=>k
end
mutual
noncomputable def Ky.draws:Ky->Nat
 |.int _=>1
 |.str _=>1
 |.tup ks=>Ky.drawsL ks+1
termination_by structural k=>k
noncomputable def Ky.drawsL:List Ky->Nat
 | []=>0
 |k::r=>k.draws+Ky.drawsL r
termination_by structural k=>k
end
mutual
noncomputable def Kx.norm:Kx->Ky
 |.int i=>.int i
 |.bool b=>.int (b2i b)
 |.str x=>.str x
 |.tup ks=>.tup (Kx.norms ks)
termination_by structural k=>k
noncomputable def Kx.norms:List Kx->List Ky
 | []=>[]
 |k::r=>k.norm::Kx.norms r
termination_by structural k=>k
end
mutual
noncomputable def Kx.dat:Kx->PyData
 |.int i=>.int i
 |.bool b=>.bool b
 |.str x=>.str x
 |.tup ks=>.tuple (Kx.dats ks)
termination_by structural k=>k
noncomputable def Kx.dats:List Kx->List PyData
 | []=>[]
 |k::r=>k.dat::Kx.dats r
termination_by structural k=>k
end
mutual
noncomputable def dC (h:Heap):Kx->Nat->Value->Prop
 |.int i,_,v=>∃t,v=.int i t
 |.bool b,_,v=>v=.bool b
 |.str x,_,v=>PyData.strOk x=true/\∃t,v=.str x t
 |.tup ks,n,v=>∃a vs k m,v=.ref a/\n=m+1/\h.get? a=some ⟨.type "tuple",none,.seq vs k,#[]⟩/\ft h ks m vs.toList
termination_by structural k=>k
noncomputable def ft (h:Heap):List Kx->Nat->List Value->Prop
 | [],_,vs=>vs=[]
 |k::ks,n,vs=>∃v vs',vs=v::vs'/\dC h k n v/\ft h ks n vs'
termination_by structural k=>k
end
section
variable {h h':Heap}
theorem dC.keeps (hk:∀a vs k,h.get? a=some ⟨.type "tuple",none,.seq vs k,#[]⟩->h'.get? a=some ⟨.type "tuple",none,.seq vs k,#[]⟩)(x:Kx):∀n v,dC h x n v->dC h' x n v:=
 Kx.rec (motive_1:=fun x=>∀n v,dC h x n v->dC h' x n v) (motive_2:=fun x=>∀n v,ft h x n v->ft h' x n v)
  (fun _ _ _ q=>q) (fun _ _ _ q=>q) (fun _ _ _ q=>q) (fun _ ih _ _ ⟨a,vs,k,m,e,e',g,r⟩=>⟨a,vs,k,m,e,e',hk a vs k g,ih m _ r⟩) (fun _ _ q=>q) (fun _ _ i1 i2 n _ ⟨v,vs,e,r,r'⟩=>⟨v,vs,e,i1 n v r,i2 n vs r'⟩) x
theorem dC.inj (x:Kx):∀y n m v,dC h x n v->dC h y m v->x=y:=
 Kx.rec (motive_1:=fun x=>∀y n m v,dC h x n v->dC h y m v->x=y) (motive_2:=fun x=>∀y n m v,ft h x n v->ft h y m v->x=y)
  (fun i y n m v ⟨t,e⟩ q=>by subst e;cases y with
   |int j=>obtain ⟨_,e⟩:=q;cases e;rfl
   |bool=>cases q
   |str=>obtain ⟨_,_,e⟩:=q;cases e
   |tup=>obtain ⟨_,_,_,_,e,_⟩:=q;cases e)
  (fun b y n m v e q=>by rw [show v=_ from e] at q;cases y with
   |int j=>obtain ⟨_,e⟩:=q;cases e
   |bool=>cases q;rfl
   |str=>obtain ⟨_,_,e⟩:=q;cases e
   |tup=>obtain ⟨_,_,_,_,e,_⟩:=q;cases e)
  (fun s y n m v ⟨_,t,e⟩ q=>by subst e;cases y with
   |int j=>obtain ⟨_,e⟩:=q;cases e
   |bool=>cases q
   |str=>obtain ⟨_,_,e⟩:=q;cases e;rfl
   |tup=>obtain ⟨_,_,_,_,e,_⟩:=q;cases e)
  (fun ks ih y n m v ⟨a,vs,k,j,e,_,g,r⟩ q=>by subst e;cases y with
   |int j=>obtain ⟨_,e⟩:=q;cases e
   |bool=>cases q
   |str=>obtain ⟨_,_,e⟩:=q;cases e
   |tup=>obtain ⟨_,_,_,j',e,_,g',r'⟩:=q;cases e;rw [g] at g';cases g';rw [ih _ j j' _ r r'])
  (fun y n m v e q=>by rw [show v=_ from e] at q;cases y with
   |nil=>rfl
   |cons=>obtain ⟨_,_,e,_⟩:=q;cases e)
  (fun x xs i1 i2 y n m v ⟨u,us,e,r,r'⟩ q=>by subst e;cases y with
   |nil=>cases q
   |cons=>obtain ⟨_,_,e,q,q'⟩:=q;cases e;rw [i1 _ n m _ r q,i2 _ n m _ r' q']) x
theorem dC.reads (x:Kx):∀n v,dC h x n v->(∃as,Reads h v x.dat as)/\x.dat.canLay0=true/\x.dat.depth<=n:=
 Kx.rec (motive_1:=fun x=>∀n v,dC h x n v->(∃as,Reads h v x.dat as)/\x.dat.canLay0=true/\x.dat.depth<=n) (motive_2:=fun x=>∀n v,ft h x n v->(∃as,ReadsAll h v (Kx.dats x) as)/\PyData.canLayAll0 (Kx.dats x)=true/\PyData.depthAll (Kx.dats x)<=n)
  (fun i _ _ ⟨t,e⟩=>e▸⟨⟨_,.int i t⟩,rfl,zero_le _⟩) (fun b _ v e=>(show v=_ from e)▸⟨⟨_,.bool b⟩,rfl,zero_le _⟩) (fun x _ _ ⟨g,t,e⟩=>e▸⟨⟨_,.str _ t⟩,g,zero_le _⟩)
  (fun _ ih _ _ ⟨a,vs,k,m,e,e',g,r⟩=>let ⟨⟨as,q⟩,c,l⟩:=ih m _ r;e▸e'▸⟨⟨as,.tuple g rfl rfl q⟩,c,succ_le_succ l⟩)
  (fun _ v e=>(show v=_ from e)▸⟨⟨_,.nil⟩,rfl,zero_le _⟩)
  (fun _ _ i1 i2 n _ ⟨v,vs,e,r,r'⟩=>let ⟨⟨as,q⟩,c,l⟩:=i1 n v r;let ⟨⟨bs,q'⟩,c',l'⟩:=i2 n vs r';e▸⟨⟨_,.cons q q'⟩,and_eq_true_iff.mpr ⟨c,c'⟩,max_le.mpr ⟨l,l'⟩⟩) x
theorem tU {α Z:Type}{a b:α}{f:α->Z} [DecidableEq α] [DecidableEq Z] (hf:∀x y,f x=f y->x=y):decide (f a=f b)=decide (a=b):=by
 by_cases q:a=b
 .rw [decide_eq_true q,decide_eq_true (congrArg f q)]
 .rw [decide_eq_false q,decide_eq_false fun e=>q (hf _ _ e)]
theorem kL {α:Type} [BEq α] [LawfulBEq α] [DecidableEq α] (a b:α):(a==b)=decide (a=b):=by
 by_cases q:a=b
 .rw [decide_eq_true q,beq_iff_eq.mpr q]
 .rw [decide_eq_false q,beq_eq_false_iff_ne.mpr q]
theorem r9 (i j:Int):decide (Ky.int i=Ky.int j)=decide (i=j):=tU fun _ _ e=>Ky.int.inj e
theorem Kx.eqv (x:Kx):∀y:Kx,PyData.eqv x.dat y.dat=decide (x.norm=y.norm):=
 have no:∀{a b:Ky},a≠b->false=decide (a=b):=fun h=>(decide_eq_false h).symm
 Kx.rec (motive_1:=fun x=>∀y:Kx,PyData.eqv x.dat y.dat=decide (x.norm=y.norm)) (motive_2:=fun x=>∀y:List Kx,PyData.eqvAll (Kx.dats x) (Kx.dats y)=decide (Ky.tup (Kx.norms x)=Ky.tup (Kx.norms y)))
  (fun i y=>match y with
   |.int j=>(kL i j).trans (r9 i j).symm
   |.bool b=>(kL i (b2i b)).trans (r9 i _).symm
   |.str _=>no nofun
   |.tup _=>no nofun)
  (fun b y=>match y with
   |.int j=>(kL (b2i b) j).trans (r9 _ j).symm
   |.bool c=>by cases b<;>cases c<;>first |exact (decide_eq_true rfl).symm |exact no fun e=>absurd (Ky.int.inj e) (by decide)
   |.str _=>no nofun
   |.tup _=>no nofun)
  (fun s y=>match y with
   |.int _=>no nofun
   |.bool _=>no nofun
   |.str t=>(kL s t).trans (tU fun _ _ e=>Ky.str.inj e).symm
   |.tup _=>no nofun)
  (fun ks ih y=>match y with
   |.int _=>no nofun
   |.bool _=>no nofun
   |.str _=>no nofun
   |.tup ls=>ih ls)
  (fun y=>match y with
   | []=>(decide_eq_true rfl).symm
   |_::_=>no nofun)
  (fun x xs i1 i2 y=>match y with
   | []=>no nofun
   |z::zs=>by
    show (PyData.eqv x.dat z.dat&&PyData.eqvAll (Kx.dats xs) (Kx.dats zs))=decide (Ky.tup (x.norm::Kx.norms xs)=Ky.tup (z.norm::Kx.norms zs))
    rw [i1 z,i2 zs]
    by_cases h:x.norm=z.norm
    .rw [decide_eq_true h,h,Bool.true_and]
     exact decide_eq_decide.mpr ⟨fun e=>by rw [Ky.tup.inj e],fun e=>by rw [(List.cons.inj (Ky.tup.inj e)).2]⟩
    .rw [decide_eq_false h,Bool.false_and]
     exact no fun e=>h (List.cons.inj (Ky.tup.inj e)).1) x
end
section
variable {prog:Program} {w:World} {E:Value->Shared->Prop}
theorem dC.pyHash (x:Kx):∀(n:Nat) (v:Value) (A:Around) (s:Shared) (Q:Int->Shared->Prop),dC s.heap x n v->A.units+n < cLine->Q (x.norm.hash w) {s with toks:=s.toks+x.norm.draws}->wpAny (model prog w) A (PySem.pyHash v) Q E s:=
 Kx.rec (motive_1:=fun x=>∀(n:Nat) (v:Value) (A:Around) (s:Shared) (Q:Int->Shared->Prop),dC s.heap x n v->A.units+n < cLine->Q (x.norm.hash w) {s with toks:=s.toks+x.norm.draws}->wpAny (model prog w) A (PySem.pyHash v) Q E s)
  (motive_2:=fun x=>∀(n:Nat) (vs:List Value) (A:Around) (s:Shared) (b:Array Int) (Q:Array Int->Shared->Prop),ft s.heap x n vs->A.units+n < cLine->(∀b':Array Int,b'.toList=b.toList++Ky.hashes w (Kx.norms x)->Q b' {s with toks:=s.toks+Ky.drawsL (Kx.norms x)})->
   wpAny (model prog w) A (forIn vs b fun x r=>do let h <-PySem.pyHash x;pure PUnit.unit;pure (ForInStep.yield (r.push h))) Q E s)
  (fun i n v A s Q ⟨t,e⟩ _ h=>e▸wpAny_pyHash_int h)
  (fun b n v A s Q e hu h=>by
   rw [show v=_ from e]
   refine pyHash_slot (T:="bool") rfl F.slot_bool_hash entry_int_hash (args_int_hash _) (beq_builtin_none _) (.inl rfl) ?_
   cases b
   .exact (show wpAny _ _ (do ret (<-mkInt 0)) _ _ s from wpAny_bind (wpAny_mkInt (wpAny_pure ⟨_,_,rfl,h⟩)))
   .exact (show wpAny _ _ (do ret (<-mkInt 1)) _ _ s from wpAny_bind (wpAny_mkInt (wpAny_pure ⟨_,_,rfl,h⟩))))
  (fun x n v A s Q ⟨_,t,e⟩ _ h=>e▸wpAny_pyHash_str h)
  (fun ks ih n v A s Q ⟨a,vs,k,m,e,e',hg,r⟩ hu h=>by
   subst e e'
   refine pyHash_slot (T:="tuple") ⟨_,hg,rfl⟩ F.slot_tuple_hash F.entry_tuple_hash (F.args_tuple_hash_1 _) (beq_builtin_none _) (.inr (lt_of_le_of_lt (le_add_right _ _) hu)) ?_
   show wpAny _ _ (Builtin.Tuple.tupleItemsOf (.ref a) >>=_) _ _ s
   refine wpAny_bind (wpAny_tupleItemsOf hg rfl ?_)
   refine wpAny_bind ?_
   rw [<-Array.forIn_toList]
   refine ih m _ _ _ _ _ r (by simp only [Around.in1_units];lia -abstractProof) fun b hb=>?_
   show wpAny _ _ (retInt (Builtin.Tuple.tupleHashOf b.toList)) _ _ _
   rw [hb]
   exact wpAny_bind (wpAny_mkInt (wpAny_pure ⟨_,_,rfl,h⟩)))
  (fun n vs A s b Q e _ h=>by rw [show vs=_ from e];exact wpAny_pure (h b (by rw [Kx.norms,Ky.hashes,append_nil])))
  (fun x xs i1 i2 n vs A s b Q ⟨v,vs',e,r,r'⟩ hu h=>by
   rw [e,List.forIn_cons]
   refine wpAny_bind (wpAny_bind (i1 n _ _ _ _ r hu ?_))
   refine wpAny_bind (wpAny_pure (wpAny_pure ?_))
   refine i2 n _ _ _ _ _ r' hu fun b' hb=>?_
   have:=h b' (by rw [hb,Kx.norms,Ky.hashes,Array.toList_push,List.append_assoc];rfl)
   rw [Kx.norms,Ky.drawsL,<-add_assoc] at this
   exact this) x
theorem dC.quiet (x:Kx):∀(n:Nat) (v:Value) (m:Nat) (A:Around) (s:Shared) (Q:Bool->Shared->Prop),dC s.heap x n v->n<=m->Q true s->wpAny (model prog w) A (eqIsQuiet m v) Q E s:=
 Kx.rec (motive_1:=fun x=>∀(n:Nat) (v:Value) (m:Nat) (A:Around) (s:Shared) (Q:Bool->Shared->Prop),dC s.heap x n v->n<=m->Q true s->wpAny (model prog w) A (eqIsQuiet m v) Q E s)
  (motive_2:=fun x=>∀(n:Nat) (vs:List Value) (m:Nat) (A:Around) (s:Shared) (Q:Option Bool×PUnit->Shared->Prop),ft s.heap x n vs->n<=m->Q (none,⟨⟩) s->
   wpAny (model prog w) A (forIn vs ((none:Option Bool),PUnit.unit) fun y r=>do
    let c <-eqIsQuiet m y
    if (!c)=true then pure (ForInStep.done (some false,PUnit.unit)) else pure (ForInStep.yield (none,PUnit.unit))) Q E s)
  (fun i n v m A s Q ⟨t,e⟩ _ h=>by rw [e,eqIsQuiet_byValue m rfl];exact wpAny_pure h)
  (fun b n v m A s Q e _ h=>by rw [show v=_ from e,eqIsQuiet_byValue m rfl];exact wpAny_pure h)
  (fun x n v m A s Q ⟨_,t,e⟩ _ h=>by rw [e,eqIsQuiet_byValue m rfl];exact wpAny_pure h)
  (fun ks ih n v m A s Q ⟨a,vs,k,j,e,e',hg,r⟩ hu h=>by
   subst e e'
   cases m with
   |zero=>exact absurd hu (Nat.not_succ_le_zero _)
   |succ m=>
    have hT:s.TypeIs (.ref a) "tuple":=⟨_,hg,rfl⟩
    unfold eqIsQuiet
    refine wpAny_bind (wpAny_specialOf hT F.slot_tuple_eq.lookup ?_)
    show wpAny _ _ (isInstance (.ref a) (.type "tuple") >>=_) _ _ s
    refine wpAny_bind (wpAny_isInstance hT isSubtype_tuple_tuple ?_)
    simp only [Bool.not_true,false_eq_true,if_false]
    refine wpAny_bind (wpAny_seqItems hg rfl ?_)
    refine wpAny_bind ?_
    show wpAny _ _ (forIn vs _ _) _ _ s
    rw [<-Array.forIn_toList]
    exact ih j _ m _ _ _ r (le_of_succ_le_succ hu) (wpAny_pure h))
  (fun n vs m A s Q e _ h=>by rw [show vs=_ from e];exact wpAny_pure h)
  (fun x xs i1 i2 n vs m A s Q ⟨v,vs',e,r,r'⟩ hu h=>by
   rw [e,List.forIn_cons]
   refine wpAny_bind (wpAny_bind (i1 n _ m _ _ _ r hu ?_))
   exact wpAny_pure (i2 n _ m _ _ _ r' hu h)) x
end
noncomputable def An (h:Heap)(n:Nat)(k:Ky)(v:Value):Prop:=∃x:Kx,x.norm=k/\dC h x n v
noncomputable def CJ (h:Heap)(n:Nat)(k:List Ky)(v:List Value):Prop:=∃x:List Kx,Kx.norms x=k/\ft h x n v
noncomputable def aN (prog:Program)(w:World):HeapKind prog w Ky where
 is:=fun h k a=>An h 6 k (.ref a)
 hash:=Ky.hash w
 draws:=Ky.draws
 room:=fun A=>A.units+6 < cLine
 inj:=fun hx hy=>let ⟨x,e,q⟩:=hx;let ⟨y,e',q'⟩:=hy;by rw [<-e,<-e',dC.inj x y 6 6 _ q q']
 keeps:=fun {h h' k a d o es ep} hx ho hd hs=>let ⟨x,e,q⟩:=hx;⟨x,e,dC.keeps (fun b vs j e=>(hs.2 b fun q=>by rw [q,ho] at e;cases e;cases hd).trans e) x 6 _ q⟩
 pyHash:=fun hu hk h=>by obtain ⟨x,rfl,q⟩:=hk;exact dC.pyHash x 6 _ _ _ _ q hu h
 eqBool:=fun {A E s x y a b Q} hu hx hy h=>by
  obtain ⟨x,rfl,q1⟩:=hx
  obtain ⟨y,rfl,q2⟩:=hy
  by_cases q:a=b
  .subst q
   rw [dC.inj x y 6 6 _ q1 q2,decide_eq_true rfl] at h
   exact SeqAt.EqAt.same (.ref a) prog w E Q h
  .obtain ⟨⟨as,r1⟩,c1,l1⟩:=dC.reads x 6 _ q1
   obtain ⟨⟨bs,r2⟩,c2,l2⟩:=dC.reads y 6 _ q2
   rw [<-x.eqv y] at h
   exact SeqAt.EqAt.of_refs q (SeqAt.rcAt_reads r1 r2 c1 c2 (lt_of_le_of_lt (add_le_add_left (le_trans (min_le_left _ _) l1) _) hu)) prog w E Q h
 quiet:=fun hk h=>by obtain ⟨x,rfl,q⟩:=hk;exact dC.quiet x 6 _ _ _ _ _ q (by decide) h
end
end Mine
end
section
set_option backward.eqns.nonrecursive false
namespace Mine
noncomputable section
open PySem PyProof.Rows
noncomputable def lim:Nat:=1000000
noncomputable def cf:Nat:=50
noncomputable def cut {α:Type}(lo hi:Option Int)(xs:List α):List α:=
 (xs.drop (lo.elim 0 (clipAt xs.length))).take (hi.elim xs.length (clipAt xs.length) - lo.elim 0 (clipAt xs.length))
theorem l6 (n k:Nat):clipAt n (k:Int)=min k n:=by
 unfold clipAt
 rw [if_neg (Int.not_lt.mpr (natCast_nonneg k))]
 rcases Nat.le_total k n with h |h
 .rw [Nat.min_eq_left h,Int.min_eq_left (bJ h),Int.max_eq_right (natCast_nonneg k)];rfl
 .rw [Nat.min_eq_right h,Int.min_eq_right (bJ h),Int.max_eq_right (natCast_nonneg n)];rfl
theorem tZ (n:Nat):clipAt n (-1)=n - 1:=by
 unfold clipAt
 rw [if_pos (by decide)]
 cases n with
 |zero=>rfl
 |succ n=>
  rw [show (-1:Int)+((n+1:Nat):Int)=n from (Int.add_comm _ _).trans (Int.add_sub_cancel (n:Int) 1),Int.min_eq_left (bJ (le_succ n)),Int.max_eq_right (natCast_nonneg n)];rfl
noncomputable def fH (lo hi:Option Int)(x:Str):Str:=⟨(cut lo hi x.cps.toList).toArray⟩
inductive T where
 |none
 |bool (b:Bool)
 |int (i:Int)
 |str (s:Str)
 |tup (ts:List T)
 |lst (ts:List T)
 |dct (ks vs:List T)
 |obj (c:Nat) (fs:List T)
 |scr (ns:List Int)
 |spot
 |self
 deriving Inhabited
structure Sg where
 spot:Int
 self:Option (Nat×List T)
@[reducible] noncomputable def S1:Type:=Sg
@[reducible] noncomputable def S2:Type:=S1
@[reducible] noncomputable def S3:Type:=S2
@[reducible] noncomputable def S4:Type:=S3
@[reducible] noncomputable def S5:Type:=S4
@[reducible] noncomputable def B1:Type:=Bool
@[reducible] noncomputable def B2:Type:=B1
@[reducible] noncomputable def B3:Type:=B2
@[reducible] noncomputable def B4:Type:=B3
@[reducible] noncomputable def B5:Type:=B4
noncomputable abbrev aZ:=List (Option T)
inductive c7 where
 |ret (t:T) (σ:Sg)
 |fall (ρ:aZ) (σ:Sg)
 |exc (c:Nat) (σ:Sg)
 |bad
@[reducible] noncomputable def gd (b:B5)(o:c7):c7:=Bool.rec (motive:=fun _=>c7) .bad o b
structure iK where
 call:Nat->List T->Sg->c7
noncomputable abbrev PK (α:Type):=α->Sg->c7
noncomputable abbrev PG (α:Type):=iK->aZ->Sg->PK α->c7
noncomputable abbrev PE:=PG T
noncomputable abbrev PT:=PG Bool
noncomputable abbrev PL:=PG (List T)
noncomputable abbrev PO:=PG (Option Int)
noncomputable abbrev PS:=PG aZ
noncomputable def cI:aZ->Nat->Option T
 | [],_=>none
 |x::_,0=>x
 |_::r,n+1=>cI r n
noncomputable def up {α:Type}(o:Option α)(σ:S3)(k:PK α):c7:=match o with
 |some a=>k a σ
 |none=>.bad
@[irreducible] noncomputable def ti (o:c7)(k:PK T):c7:=match o with
 |.ret t σ=>k t σ
 |_=>.bad
theorem AF {t:T}{σ:Sg}{k:PK T}:ti (.ret t σ) k=k t σ:=by with_unfolding_all rfl
noncomputable def cm (n:Nat):Bool:=Nat.ble n lim
noncomputable def cS (f:T->Option PyData):List T->Option (List PyData)
 | []=>some []
 |x::r=>match f x with
  |none=>none
  |some d=>(cS f r).map (d::·)
noncomputable def bR:Nat->T->Option PyData
 |_,.none=>some .none
 |_,.bool b=>some (.bool b)
 |_,.int i=>some (.int i)
 |_,.str s=>some (.str s)
 |n+1,.tup xs=>(cS (bR n) xs).map .tuple
 |n+1,.lst xs=>(cS (bR n) xs).map .list
 |_,_=>none
@[reducible] noncomputable def pV (i:Nat):PE:=fun _ ρ σ k=>up (cI ρ i) σ k
@[reducible] noncomputable def pC (t:T):PE:=fun _ _ (σ:S5) k=>k t σ
@[reducible] noncomputable def p1 {α z:Type}(f:α->Option z)(e:PG α):PG z:=fun c ρ σ k=>e c ρ σ fun a σ=>up (f a) σ k
@[reducible] noncomputable def p2 {α z g:Type}(f:α->z->Option g)(l:PG α)(r:PG z):PG g:=fun c ρ σ k=>l c ρ σ fun a σ=>r c ρ σ fun b σ=>up (f a b) σ k
@[reducible] noncomputable def p3 {α z g Z:Type}(f:α->z->g->Option Z)(l:PG α)(m:PG z)(r:PG g):PG Z:=fun c ρ σ k=>l c ρ σ fun a σ=>m c ρ σ fun b σ=>r c ρ σ fun x σ=>up (f a b x) σ k
@[reducible] noncomputable def pB (t:PT):PE:=fun c ρ (σ:S5) k=>t c ρ σ fun b σ=>k (.bool b) σ
@[reducible] noncomputable def ar:PL:=fun _ _ (σ:S5) k=>k [] σ
@[reducible] noncomputable def ab (e:PE)(r:PL):PL:=fun c ρ (σ:S5) k=>e c ρ σ fun v σ=>r c ρ σ fun vs σ=>k (v::vs) σ
@[reducible] noncomputable def aY (r:PL):PE:=fun c ρ (σ:S5) k=>r c ρ σ fun vs σ=>bif cm vs.length then k (.tup vs) σ else .bad
@[reducible] noncomputable def cq (r:PL):PE:=fun c ρ (σ:S5) k=>r c ρ σ fun vs σ=>bif cm vs.length then k (.lst vs) σ else .bad
noncomputable def eE:T->Option Bool
 |.none=>some false
 |.bool b=>some b
 |.int i=>some (i !=0)
 |_=>none
@[reducible] noncomputable def qE (e:PE):PT:=p1 eE e
@[reducible] noncomputable def cW (t:PT):PT:=fun c ρ (σ:S5) k=>t c ρ σ fun b σ=>k (!b) σ
@[reducible] noncomputable def yS (t u:PT):PT:=fun c ρ (σ:S5) k=>t c ρ σ fun b σ=>bif b then u c ρ σ k else k false σ
@[reducible] noncomputable def gq (t u:PT):PT:=fun c ρ (σ:S5) k=>t c ρ σ fun b σ=>bif b then k true σ else u c ρ σ k
@[reducible] noncomputable def b9:PT:=fun _ _ (σ:S5) k=>k true σ
@[reducible] noncomputable def cj:PT:=fun _ _ (σ:S5) k=>k false σ
@[reducible] noncomputable def mL (e:PE):PE:=p1 (fun t=>(eE t).map fun b=>.bool (!b)) e
@[reducible] noncomputable def eX (d e:PE):PE:=fun c ρ (σ:S5) k=>d c ρ σ fun v σ=>match eE v with
 |some true=>e c ρ σ k
 |some false=>k v σ
 |none=>.bad
@[reducible] noncomputable def wj (d e:PE):PE:=fun c ρ (σ:S5) k=>d c ρ σ fun v σ=>match eE v with
 |some true=>k v σ
 |some false=>e c ρ σ k
 |none=>.bad
@[reducible] noncomputable def EG (t:PT)(d e:PE):PE:=fun c ρ (σ:S5) k=>t c ρ σ fun b σ=>bif b then d c ρ σ k else e c ρ σ k
@[reducible] noncomputable def ax (f:Nat)(args:PL):PE:=fun c ρ (σ:S5) k=>args c ρ σ fun vs σ=>ti (c.call f vs σ) k
noncomputable def CX:T->Option Bool
 |.bool b=>some b
 |_=>none
noncomputable def iD:T->Option Int
 |.int i=>some i
 |_=>none
noncomputable def q8:T->Option Str
 |.str s=>some s
 |_=>none
noncomputable def q7:T->Option (List T)
 |.tup xs=>some xs
 |_=>none
noncomputable def gr:T->Option (List T)
 |.lst xs=>some xs
 |_=>none
noncomputable def CV:T->Option (List Int)
 |.scr ns=>some ns
 |_=>none
noncomputable def el {α:Type}(x:Option α)(y:Option α):Option α:=match x with
 |some a=>some a
 |none=>y
noncomputable def o2 {α z g:Type}(x:Option α)(y:Option z)(f:α->z->Option g):Option g:=match x with
 |some a=>match y with
  |some b=>f a b
  |none=>none
 |none=>none
noncomputable def o1 {α z:Type}(x:Option α)(f:α->Option z):Option z:=match x with
 |some a=>f a
 |none=>none
noncomputable def cA (a b:T):Option Bool:=o2 (bR cf a) (bR cf b) fun d e=>some (PyData.eqv d e)
noncomputable def jW (a b:T):Option Bool:=(cA a b).map (!·)
noncomputable def nO {α:Type}(n:Nat)(x:α):Option α:=bif cm n then some x else none
noncomputable def bM (a b:T):Option T:=match iD a with
 |some i=>o1 (iD b) fun j=>some (.int (i+j))
 |none=>match q8 a with
  |some x=>o1 (q8 b) fun y=>nO (x++y).length (.str (x++y))
  |none=>match q7 a with
   |some x=>o1 (q7 b) fun y=>nO (x++y).length (.tup (x++y))
   |none=>o2 (gr a) (gr b) fun x y=>nO (x++y).length (.lst (x++y))
noncomputable def zv (f:Int->Int->Option T)(a b:T):Option T:=o2 (iD a) (iD b) f
noncomputable def jw:T->T->Option T:=zv fun a b=>some (.int (a - b))
noncomputable def sm (i:Int):Bool:=Nat.ble i.natAbs 1000000000
@[irreducible] noncomputable def gE:T->T->Option T:=zv fun a b=>bif sm a||sm b then some (.int (a * b)) else none
@[irreducible] noncomputable def fk:T->T->Option T:=zv fun a b=>bif b==0||Nat.ble 1073741824 b.natAbs then none else some (.int (a.fdiv b))
@[irreducible] noncomputable def ck:T->T->Option T:=zv fun a b=>bif b==0 then none else some (.int (a.fmod b))
noncomputable def oE (a:T):Option T:=o1 (iD a) fun i=>some (.int (-i))
noncomputable def zV (f:Int->Int->Bool)(a b:T):Option Bool:=o2 (iD a) (iD b) fun i j=>some (f i j)
noncomputable def rB:T->T->Option Bool:=zV fun a b=>decide (a < b)
noncomputable def CT:T->T->Option Bool:=zV fun a b=>decide (a<=b)
noncomputable def Cc:T->T->Option Bool:=zV fun a b=>decide (a > b)
noncomputable def Gg:T->T->Option Bool:=zV fun a b=>decide (a ≥ b)
noncomputable def iV (a:T):Option (List T):=el (q7 a) (gr a)
noncomputable def jR (xs:List T):Option (List PyData):=cS (bR cf) xs
noncomputable def kF (a b:T):Option Bool:=o1 (iV b) fun xs=>o2 (bR cf a) (jR xs) fun d es=>some (es.any fun y=>PyData.eqv y d)
noncomputable def hJ (a b:T):Option Bool:=(kF a b).map (!·)
noncomputable def Af (i:Int)(xs:List T):Option T:=bif sm i then o1 (seqIndex? i xs.length) fun j=>xs[j]? else none
noncomputable def sX (i:Int)(x:Str):Option T:=bif sm i then ((seqIndex? i x.length).bind (x.cps[·]?)).map fun c=>T.str ⟨#[c]⟩ else none
noncomputable def aw (a b:T):Option T:=o1 (iD b) fun i=>match iV a with
 |some xs=>Af i xs
 |none=>match CV a with
  |some ns=>Af i (ns.map T.int)
  |none=>o1 (q8 a) (sX i)
@[irreducible] noncomputable def dc (a:T)(lo hi:Option Int):Option T:=match q7 a with
 |some xs=>some (.tup (cut lo hi xs))
 |none=>match gr a with
  |some xs=>some (.lst (cut lo hi xs))
  |none=>o1 (q8 a) fun x=>some (.str (fH lo hi x))
noncomputable def bF (a:T):Option T:=match iV a with
 |some xs=>some (.int xs.length)
 |none=>match CV a with
  |some xs=>some (.int xs.length)
  |none=>o1 (q8 a) fun x=>some (.int x.length)
noncomputable def gG (a:T):Option T:=o1 (iV a) fun xs=>some (.lst xs)
noncomputable def E8 (a:T):Option T:=o1 (gr a) fun xs=>some (.tup xs)
noncomputable def fj (a v:T):Option T:=o1 (gr a) fun xs=>o2 (bR cf v) (jR xs) fun d es=>o1 (es.findIdx? fun y=>PyData.eqv y d) fun i=>some (.int i)
@[reducible] noncomputable def am:PS:=fun _ ρ (σ:S5) k=>k ρ σ
@[reducible] noncomputable def ai (a b:PS):PS:=fun c ρ (σ:S5) k=>a c ρ σ fun ρ σ=>b c ρ σ k
@[reducible] noncomputable def aI (i:Nat)(e:PE):PS:=fun c ρ (σ:S5) k=>e c ρ σ fun v σ=>k (ρ.set i (some v)) σ
@[reducible] noncomputable def bG (t:PT)(a b:PS):PS:=fun c ρ (σ:S5) k=>t c ρ σ fun q σ=>bif q then a c ρ σ k else b c ρ σ k
@[reducible] noncomputable def aD (e:PE):PS:=fun c ρ (σ:S5) _=>e c ρ σ fun v σ=>.ret v σ
@[reducible] noncomputable def kO (e:PE):PS:=fun c ρ (σ:S5) k=>e c ρ σ fun _ σ=>k ρ σ
@[reducible] noncomputable def g9:PS:=fun _ _ _ _=>.bad
@[reducible] noncomputable def E4 (x:Nat)(r:PL):PS:=fun c ρ σ _=>r c ρ σ fun vs σ=>bif cm vs.length then .exc x σ else .bad
noncomputable def fQ:List Nat->List T->aZ->Option aZ
 | [],[],ρ=>some ρ
 |i::is,v::vs,ρ=>fQ is vs (ρ.set i (some v))
 |_,_,_=>none
@[reducible] noncomputable def Gp (is:List Nat)(e:PE):PS:=fun c ρ σ k=>e c ρ σ fun v σ=>match v with
 |.tup ts=>up (fQ is ts ρ) σ k
 |_=>.bad
noncomputable abbrev PB:=T->aZ->Option aZ
@[reducible] noncomputable def bx (i:Nat):PB:=fun v ρ=>some (ρ.set i (some v))
@[reducible] noncomputable def yB (i j:Nat):PB:=fun v ρ=>match v with
 |.tup [a,b]=>some ((ρ.set i (some a)).set j (some b))
 |_=>none
noncomputable def cc (bd:PB)(body:PS)(c:iK):List T->aZ->Sg->PK aZ->c7
 | [],ρ,σ,k=>k ρ σ
 |v::r,ρ,σ,k=>match bd v ρ with
  |none=>.bad
  |some ρ'=>body c ρ' σ fun ρ σ=>cc bd body c r ρ σ k
theorem xg {bd:PB}{body:PS}{c:iK}{v:T}{r:List T}{ρ:aZ}{σ:Sg}{k:PK aZ}:cc bd body c (v::r) ρ σ k=(match bd v ρ with
  |none=>.bad
  |some ρ'=>body c ρ' σ fun ρ σ=>cc bd body c r ρ σ k):=rfl
@[reducible] noncomputable def cU (it:PL)(bd:PB)(body:PS):PS:=fun c ρ (σ:S5) k=>it c ρ σ fun xs σ=>cc bd body c xs ρ σ k
@[irreducible] noncomputable def fN (t:PT)(body:PS)(c:iK):Nat->aZ->Sg->PK aZ->c7
 | 0,_,_,_=>.bad
 |n+1,ρ,σ,k=>t c ρ σ fun b σ=>bif b then body c ρ σ fun ρ σ=>fN t body c n ρ σ k else k ρ σ
theorem iM {t:PT}{body:PS}{c:iK}{n:Nat}{ρ:aZ}{σ:Sg}{k:PK aZ}:fN t body c (n+1) ρ σ k=t c ρ σ fun b σ=>bif b then body c ρ σ fun ρ σ=>fN t body c n ρ σ k else k ρ σ:=by with_unfolding_all rfl
theorem vA {t:PT}{body:PS}{c:iK}{ρ:aZ}{σ:Sg}{k:PK aZ}:fN t body c 0 ρ σ k=.bad:=by with_unfolding_all rfl
@[reducible] noncomputable def ju (n:Nat)(t:PT)(body:PS):PS:=fun c ρ (σ:S5) k=>fN t body c n ρ σ k
@[irreducible] noncomputable def bW (bd:PB)(cond:PT)(elt:PE)(c:iK)(ρ:aZ):List T->Sg->List T->PK (List T)->c7
 | [],σ,acc,k=>k acc σ
 |v::r,σ,acc,k=>match bd v ρ with
  |none=>.bad
  |some ρ'=>cond c ρ' σ fun b σ=>bif b then elt c ρ' σ fun x σ=>bW bd cond elt c ρ r σ (acc++[x]) k else bW bd cond elt c ρ r σ acc k
theorem tW {bd:PB}{cond:PT}{elt:PE}{c:iK}{ρ:aZ}{σ:Sg}{acc:List T}{k:PK (List T)}:bW bd cond elt c ρ [] σ acc k=k acc σ:=by with_unfolding_all rfl
theorem tX {bd:PB}{cond:PT}{elt:PE}{c:iK}{ρ:aZ}{v:T}{r:List T}{σ:Sg}{acc:List T}{k:PK (List T)}:bW bd cond elt c ρ (v::r) σ acc k=(match bd v ρ with
  |none=>.bad
  |some ρ'=>cond c ρ' σ fun b σ=>bif b then elt c ρ' σ fun x σ=>bW bd cond elt c ρ r σ (acc++[x]) k else bW bd cond elt c ρ r σ acc k):=by with_unfolding_all rfl
@[reducible] noncomputable def bE (it:PL)(bd:PB)(cond:PT)(elt:PE):PE:=fun c ρ (σ:S5) k=>it c ρ σ fun xs σ=>bW bd cond elt c ρ xs σ [] fun ys σ=>k (.lst ys) σ
@[reducible] noncomputable def bK (e:PE):PL:=p1 iV e
noncomputable def cV (a b c:Int):List T:=(List.range (Builtin.Range.rangeSize a b c).toNat).map fun k=>T.int (a+(k:Nat) * c)
noncomputable def rg (a n:Int):Option (List T):=bif (sm a&&sm n)&&cm (cV a n 1).length then some (cV a n 1) else none
@[irreducible] noncomputable def yk:List T->Option (List T)
 | []=>none
 |m::r=>match r with
  | []=>o1 (iD m) (rg 0)
  |n::r=>match r with
   | []=>o2 (iD m) (iD n) rg
   |_::_=>none
@[reducible] noncomputable def dW (r:PL):PL:=p1 yk r
noncomputable def gL:Nat->List T->List T
 |_,[]=>[]
 |n,x::r=>.tup [.int n,x]::gL (n+1) r
noncomputable def GK (t:T):Option (List T):=o1 (gr t) fun xs=>some (gL 0 xs)
@[reducible] noncomputable def qB (e:PE):PL:=p1 GK e
noncomputable def eV (x v:T):Option T:=o1 (gr x) fun xs=>nO (xs.length+1) (.lst (xs++[v]))
noncomputable def hU (x v:T):Option T:=o2 (gr x) (gr v) fun xs ys=>nO (xs.length+ys.length) (.lst (xs++ys))
noncomputable def rA (f:Nat):Bool:=Nat.ble 1000 f
noncomputable def j4 (f:Nat):Bool:=Nat.ble 500 f&&Nat.ble f 599
structure gj where
 np:Nat
 ns:Nat
 body:PS
noncomputable def frame (ts:List T)(n:Nat):aZ:=ts.map some++replicate n none
noncomputable def ah (Y:Nat->Option gj):Nat->Nat->List T->Sg->c7
 | 0,_,_,_=>.bad
 |n+1,f,args,σ=>match Y f with
  |none=>.bad
  |some F=>bif Nat.beq args.length F.np then
    match F.body ⟨ah Y n⟩ (frame args F.ns) σ fun _ σ=>bif j4 f then .bad else .ret .none σ with
    |.ret t σ=>.ret t σ
    |.exc c σ=>.exc c σ
    |_=>.bad
   else .bad
theorem t5 {Y:Nat->Option gj}{n f:Nat}{args:List T}{σ:Sg}:ah Y (n+1) f args σ=(match Y f with
  |none=>.bad
  |some F=>bif Nat.beq args.length F.np then
    match F.body ⟨ah Y n⟩ (frame args F.ns) σ fun _ σ=>bif j4 f then .bad else .ret .none σ with
    |.ret t σ=>.ret t σ
    |.exc c σ=>.exc c σ
    |_=>.bad
   else .bad):=rfl
inductive BT where
 |list |bool |int |str |tuple
noncomputable def BT.id:BT->String
 |.list=>"list" |.bool=>"bool" |.int=>"int" |.str=>"str" |.tuple=>"tuple"
noncomputable def BT.nm (T:BT):Str:=ofString T.id
inductive MK where
 |list |str |tuple
noncomputable def MK.id:MK->String
 |.list=>"list" |.str=>"str" |.tuple=>"tuple"
noncomputable def oS (κs:List Ky)(κ:Ky):Option Nat:=κs.findIdx? fun x=>decide (x=κ)
noncomputable def lh {α:Type}(i:Option Nat)(k v:α)(ks vs:List α):List α×List α:=match i with
 |some i=>(ks,vs.set i v)
 |none=>(ks++[k],vs++[v])
noncomputable def isN:T->Bool
 |.none=>true
 |_=>false
noncomputable def zu (a b:T):Option Bool:=bif isN b then some (isN a) else none
noncomputable def gk (t:T):Option (Option Int):=o1 (iD t) fun i=>some (some i)
noncomputable def e9:List T->Option (List Bool)
 | []=>some []
 |t::r=>o2 (eE t) (e9 r) fun b bs=>some (b::bs)
noncomputable def Ev (f:List Bool->Bool)(t:T):Option T:=o1 (gr t) fun ts=>o1 (e9 ts) fun bs=>some (.bool (f bs))
noncomputable def Ag:T->Option T:=Ev (·.any id)
noncomputable def js:T->Option T:=Ev (·.all id)
noncomputable def lJ (t:T):Option T:=o1 (CX t) fun b=>some (.int (if b then 1 else 0))
noncomputable def Fu (X:BT):T->Option Bool
 |.bool _=>some (match X with |.bool |.int=>true |_=>false)
 |.int _=>some (match X with |.int=>true |_=>false)
 |.str _=>some (match X with |.str=>true |_=>false)
 |.tup _=>some (match X with |.tuple=>true |_=>false)
 |.lst _=>some (match X with |.list=>true |_=>false)
 |_=>none
noncomputable def eO (X:BT)(t:T):Option T:=o1 (Fu X t) fun b=>some (.bool b)
noncomputable def kT (K:MK)(t:T):Bool:=match K with
 |.list=>(gr t).isSome
 |.str=>(q8 t).isSome
 |.tuple=>(q7 t).isSome
@[reducible] noncomputable def uC (K:MK)(F:T->T->Option T)(l r:PE):PE:=fun c ρ σ k=>l c ρ σ fun a σ=>gd (kT K a) (r c ρ σ fun b σ=>up (F a b) σ k)
noncomputable def xE (a v:T):Option T:=o1 (gr a) fun xs=>o2 (bR cf v) (jR xs) fun d es=>some (.int ((es.countP fun y=>PyData.eqv y d:Nat):Int))
noncomputable def vK:List T->Option (List Str)
 | []=>some []
 |t::r=>o2 (q8 t) (vK r) fun x xs=>some (x::xs)
noncomputable def tH (a b:T):Option T:=o2 (q8 a) (gr b) fun sep ts=>o1 (vK ts) fun xs=>bif JoinOk sep xs&&PyData.strOk (Txt.join sep xs)&&cm (Txt.join sep xs).length then some (.str (Txt.join sep xs)) else none
noncomputable def od (a b:T):Option T:=o2 (q8 a) (q8 b) fun x y=>bif !(y.length==0)&&cm (Txt.split x y).length&&(Txt.split x y).all (fun t=>PyData.strOk t&&decide (t.length<=lim)) then some (.lst ((Txt.split x y).map T.str)) else none
@[irreducible] noncomputable def Bq (a b:T):Option T:=o2 (gr a) (iD b) fun xs k=>bif decide (0<=k)&&(decide (k<=1000)&&Nat.ble xs.length 1000) then some (.lst (replicate k.toNat xs).flatten) else none
noncomputable def zX (t:T):Option (List T):=o1 (q8 t) fun x=>bif x.cps.all (· < 128) then some (x.cps.toList.map fun c=>T.str ⟨#[c]⟩) else none
noncomputable def EO (a b:T):Option Bool:=o2 (q8 a) (q8 b) fun y x=>some (Txt.contains x y)
@[reducible] noncomputable def iL (i:Nat)(F:T->T->Option T)(e:PE):PS:=fun c ρ (σ:S5) k=>match cI ρ i with
 |some x=>gd (kT .list x) (e c ρ σ fun v σ=>up (F x v) σ fun y σ=>k (ρ.set i (some y)) σ)
 |none=>.bad
noncomputable def iJ:Nat->T->Option Ky
 |_,.int i=>some (.int i)
 |_,.bool b=>some (.int (b2i b))
 |_,.str s=>some (.str s)
 |n+1,.tup xs=>o1 (go (iJ n) xs) fun ks=>some (.tup ks)
 |_,_=>none
where go (f:T->Option Ky):List T->Option (List Ky)
 | []=>some []
 |x::r=>o2 (f x) (go f r) fun k ks=>some (k::ks)
theorem wU {n:Nat}{xs:List T}:iJ (n+1) (.tup xs)=o1 (iJ.go (iJ n) xs) fun ks=>some (.tup ks):=rfl
theorem mQ {f:T->Option Ky}{x:T}{r:List T}:iJ.go f (x::r)=o2 (f x) (iJ.go f r) fun k ks=>some (k::ks):=rfl
noncomputable def vp (t:T):Option Ky:=o1 (q7 t) fun xs=>iJ 6 (.tup xs)
noncomputable def eY (us:List T):Option (List Ky):=iJ.go vp us
noncomputable def CW:T->Option (List T×List T)
 |.dct us ts=>some (us,ts)
 |_=>none
noncomputable def j6 (us:List T)(k:T):Option (Option Nat):=o2 (eY us) (vp k) fun κs κ=>some (oS κs κ)
noncomputable def B9 (a b:T):Option Bool:=o1 (CW b) fun p=>o1 (j6 p.1 a) fun i=>some i.isSome
noncomputable def idxD (a k:T):Option T:=o1 (CW a) fun p=>o1 (j6 p.1 k) fun i=>o1 i fun j=>p.2[j]?
noncomputable def qK (a:T):Option T:=o1 (CW a) fun p=>some (.int p.1.length)
noncomputable def nJ:List T->List T->List T->Option (List T×List T)
 | [],us,ts=>some (us,ts)
 |x::r,us,ts=>o1 (q7 x) fun ps=>match ps with
  | [k,v]=>o1 (j6 us k) fun i=>nJ r (lh i k v us ts).1 (lh i k v us ts).2
  |_=>none
noncomputable def tS (a:T):Option T:=o1 (gr a) fun xs=>o1 (nJ xs [] []) fun p=>some (.dct p.1 p.2)
@[reducible] noncomputable def C6 (i:Nat)(F:T->T->T->Option T)(j e:PE):PS:=fun c ρ (σ:S5) k=>e c ρ σ fun v σ=>match cI ρ i with
 |some x=>j c ρ σ fun κ σ=>up (F x κ v) σ fun y σ=>k (ρ.set i (some y)) σ
 |none=>.bad
noncomputable def Ds (x κ v:T):Option T:=o2 (gr x) (iD κ) fun xs i=>bif decide (0<=i)&&decide (i < xs.length) then some (.lst (xs.set i.toNat v)) else none
noncomputable def i0 (x κ v:T):Option T:=o1 (CW x) fun p=>o1 (j6 p.1 κ) fun i=>nO (p.1.length+1) (.dct (lh i κ v p.1 p.2).1 (lh i κ v p.1 p.2).2)
noncomputable def bU:Nat->List Str
 | 0=>[ofString "names",ofString "roads",ofString "firsts"]
 | 10=>[ofString "bonds",ofString "promises",ofString "machine",ofString "known",ofString "knots",ofString "begun",ofString "threads"]
 |_=>[]
noncomputable def gD:Nat->Nat->Bool
 | 10,3=>true
 | 10,4=>true
 | 10,6=>true
 |_,_=>false
@[reducible] noncomputable def yV (j:Nat)(is:List Nat):PS:=fun _ ρ σ k=>up (o1 (cI ρ j) fun x=>o1 (gr x) fun xs=>o1 xs.getLast? fun t=>o1 (q7 t) fun ts=>fQ is ts (ρ.set j (some (.lst xs.dropLast)))) σ k
@[reducible] noncomputable def qi (j i:Nat):PS:=fun _ ρ σ k=>up (o1 (cI ρ j) fun x=>o1 (gr x) fun xs=>o1 xs.head? fun y=>some ((ρ.set j (some (.lst xs.tail))).set i (some y))) σ k
noncomputable def ES (c:Nat):T->Option (List T)
 |.obj c' ts=>bif Nat.beq c' c then some ts else none
 |_=>none
noncomputable def iB (c i:Nat)(t:T):Option T:=o1 (ES c t) fun ts=>ts[i]?
noncomputable def GC (c i:Nat)(σ:Sg):T->Option T
 |.self=>o1 σ.self fun p=>bif Nat.beq p.1 c&&!gD c i then p.2[i]? else none
 |t=>iB c i t
@[reducible] noncomputable def fh (c i:Nat):PE:=fun _ ρ σ k=>up (o1 (cI ρ 0) (GC c i σ)) σ k
@[reducible] noncomputable def mI (c f:Nat)(o:PE)(args:PL):PE:=fun cx ρ (σ:S5) k=>o cx ρ σ fun t σ=>gd (ES c t).isSome (args cx ρ σ fun ts σ=>ti (cx.call f (t::ts) σ) k)
noncomputable def uT (c:Nat)(ρ:aZ)(σ:Sg):Bool:=match cI ρ 0 with
 |some .self=>match σ.self with
  |some p=>Nat.beq p.1 c
  |none=>false
 |_=>false
@[reducible] noncomputable def rU (c f:Nat)(args:PL):PE:=fun cx ρ (σ:S5) k=>gd (uT c ρ σ) (args cx ρ σ fun ts σ=>ti (cx.call f (.self::ts) σ) k)
noncomputable def Sg.fld (σ:Sg)(i:Nat)(y:T):Sg:=⟨σ.spot,σ.self.map fun p=>(p.1,p.2.set i y)⟩
noncomputable def d7 (c i:Nat)(ρ:aZ)(σ:Sg):Option T:=bif uT c ρ σ&&gD c i then o1 σ.self fun p=>p.2[i]? else none
noncomputable def Sg.push (σ:Sg)(y:T):Sg:=⟨σ.spot,σ.self.map fun p=>(p.1,p.2++[y])⟩
noncomputable def A1 (c i:Nat)(ρ:aZ)(σ:Sg):Bool:=uT c ρ σ&&(match σ.self with
 |some p=>Nat.beq p.2.length i
 |none=>false)
@[reducible] noncomputable def rT (c i:Nat)(e:PE):PS:=fun cx ρ σ k=>e cx ρ σ fun v σ=>gd (A1 c i ρ σ) (k ρ (σ.push v))
@[irreducible] noncomputable def uF (c:Nat)(o:c7)(k:PK T):c7:=match o with
 |.ret t σ=>bif isN t then (match σ.self with
   |some p=>bif Nat.beq p.1 c then k (.obj c p.2) ⟨σ.spot,none⟩ else .bad
   |none=>.bad) else .bad
 |_=>.bad
@[reducible] noncomputable def oq (c f:Nat)(args:PL):PE:=fun cx ρ (σ:S5) k=>args cx ρ σ fun ts σ=>match σ.self with
 |some _=>.bad
 |none=>uF c (cx.call f (.self::ts) ⟨σ.spot,some (c,[])⟩) k
noncomputable def oV (ρ:aZ)(i:Nat):Bool:=match cI ρ i with
 |some .spot=>true
 |_=>false
@[reducible] noncomputable def nq (i:Nat):PE:=fun _ ρ σ k=>gd (oV ρ i) (k (.int σ.spot) σ)
@[reducible] noncomputable def i5 (i:Nat)(e:PE):PS:=fun cx ρ σ k=>e cx ρ σ fun v σ=>gd (oV ρ i) (match iD v with
 |some n=>k ρ ⟨n,σ.self⟩
 |none=>.bad)
@[reducible] noncomputable def lk (F G:T->T->Option Bool)(l m r:PE):PT:=fun c ρ σ k=>l c ρ σ fun a σ=>m c ρ σ fun b σ=>match F a b with
 |some true=>r c ρ σ fun x σ=>up (G b x) σ k
 |some false=>k false σ
 |none=>.bad
noncomputable def ig (a b:T):Option Bool:=(B9 a b).map (!·)
noncomputable def Fs (a b:T):Option Bool:=(zu a b).map (!·)
noncomputable def v6 (a:T):Option T:=o1 (gr a) fun xs=>some (.lst xs.reverse)
noncomputable def pH:List T->Option (List Bool)
 | []=>some []
 |t::r=>o2 (CX t) (pH r) fun b bs=>some (b::bs)
noncomputable def yz (f:Bool->Bool->Bool)(a b:T):Option T:=o2 (gr a) (gr b) fun xs ys=>o2 (pH xs) (pH ys) fun bs cs=>some (.lst ((zipWith f bs cs).map T.bool))
noncomputable def dn (a n c:Int):Option (List T):=bif (sm a&&sm n&&decide (c=-1))&&cm (cV a n (-1)).length then some (cV a n (-1)) else none
@[irreducible] noncomputable def FJ:List T->Option (List T)
 | []=>none
 |m::r=>match r with
  | []=>none
  |n::r=>match r with
   | []=>none
   |l::r=>match r with
    | []=>o2 (iD m) (iD n) fun a b=>o1 (iD l) (dn a b)
    |_::_=>none
@[reducible] noncomputable def EN (r:PL):PL:=p1 FJ r
noncomputable def jz (ks:List T)(kn:T):List T->List (List T)->Option (List (List T))
 | [],ds=>some ds
 |o::r,ds=>o1 (j6 ks o) fun i=>o1 i fun j=>o1 ds[j]? fun l=>bif cm (l.length+1) then jz ks kn r (ds.set j (l++[kn])) else none
noncomputable def qx (ks:List T)(th:T):List T->List (List T)->Option (List (List T))
 | [],ds=>some ds
 |kn::r,ds=>o1 (idxD th kn) fun l=>o1 (gr l) fun os=>o1 (jz ks kn os ds) fun ds=>qx ks th r ds
noncomputable def eP:List T->List T->Bool
 | [],_=>true
 |k::r,us=>match j6 us k with
  |some none=>eP r (us++[k])
  |_=>false
theorem BP {ks:List T}{kn o:T}{r:List T}{ds:List (List T)}:jz ks kn (o::r) ds=o1 (j6 ks o) fun i=>o1 i fun j=>o1 ds[j]? fun l=>bif cm (l.length+1) then jz ks kn r (ds.set j (l++[kn])) else none:=rfl
theorem BO {ks:List T}{th kn:T}{r:List T}{ds:List (List T)}:qx ks th (kn::r) ds=o1 (idxD th kn) fun l=>o1 (gr l) fun os=>o1 (jz ks kn os ds) fun ds=>qx ks th r ds:=rfl
theorem lO {k:T}{r us:List T}:eP (k::r) us=(match j6 us k with
  |some none=>eP r (us++[k])
  |_=>false):=rfl
noncomputable def BN (w:T):Option T:=o1 (iB 10 4 w) fun kl=>o1 (gr kl) fun ks=>o1 (iB 10 6 w) fun th=>bif cm ks.length&&eP ks [] then o1 (qx ks th ks (ks.map fun _=>[])) fun ds=>some (.dct ks (ds.map .lst)) else none
@[reducible] noncomputable def C7:PS:=fun _ ρ σ _=>match cI ρ 0 with
 |some w=>match BN w with
  |some t=>.ret t σ
  |none=>.bad
 |none=>.bad
@[reducible] noncomputable def tg:PO:=fun _ _ (σ:S5) k=>k none σ
@[reducible] noncomputable def vy (is:List Nat)(e:PE):PS:=fun c ρ (σ:S5) k=>e c ρ σ fun v σ=>up (o1 (q7 v) fun ts=>fQ is ts ρ) σ k
@[reducible] noncomputable def yW:PE:=fun _ _ (σ:S5) k=>k (.dct [] []) σ
@[reducible] noncomputable def ou (c i:Nat):PE:=fun _ ρ σ k=>up (d7 c i ρ σ) σ k
@[reducible] noncomputable def By (c i:Nat)(F:T->T->Option T)(q:PE):PE:=fun cx ρ σ k=>match d7 c i ρ σ with
 |some t=>q cx ρ ⟨σ.spot,none⟩ fun s σ'=>up (F t s) ⟨σ'.spot,σ.self⟩ k
 |none=>.bad
@[reducible] noncomputable def ql (c i:Nat)(q:PE):PS:=fun cx ρ σ k=>match d7 c i ρ σ with
 |some t=>gd (kT .list t) (q cx ρ ⟨σ.spot,none⟩ fun v σ'=>up (eV t v) ⟨σ'.spot,σ.self⟩ fun y σ=>k ρ (σ.fld i y))
 |none=>.bad
@[reducible] noncomputable def qk (c i:Nat)(q e:PE):PS:=fun cx ρ σ k=>e cx ρ σ fun v σ=>match d7 c i ρ σ with
 |some t=>q cx ρ ⟨σ.spot,none⟩ fun κ σ'=>up (i0 t κ v) ⟨σ'.spot,σ.self⟩ fun y σ=>k ρ (σ.fld i y)
 |none=>.bad
@[reducible] noncomputable def ox (c i:Nat)(zb:PB)(elt:PE):PE:=fun cx ρ σ k=>match o1 (d7 c i ρ σ) gr with
 |some xs=>bW zb b9 elt cx ρ xs ⟨σ.spot,none⟩ [] fun ys σ'=>k (.lst ys) ⟨σ'.spot,σ.self⟩
 |none=>.bad
end
end Mine
end
namespace Mine
noncomputable section
open PySem PyProof.Rows
noncomputable def kC (a v i:T):Option T:=o2 (gr a) (iD i) fun xs i=>bif decide (0<=i)&&sm i then o2 (bR cf v) (jR xs) fun d es=>o1 ((es.drop i.toNat).findIdx? fun y=>PyData.eqv y d) fun j=>some (.int (i+(j:Nat))) else none
@[reducible] noncomputable def Gb (K:MK)(F:T->T->T->Option T)(o e f:PE):PE:=fun c ρ σ k=>o c ρ σ fun a σ=>gd (kT K a) (e c ρ σ fun b σ=>f c ρ σ fun x σ=>up (F a b x) σ k)
noncomputable def FN (t:T):Option (Option Bool):=el ((CX t).map some) (bif isN t then some none else none)
noncomputable def Gf (a b:T):Option Bool:=o2 (FN a) (CX b) fun x y=>some (x==some y)
noncomputable def Ft (a b:T):Option Bool:=(Gf a b).map (!·)
noncomputable abbrev KB:=Int×List Bool
noncomputable def gW (k:KB):T:=.tup [.int k.1,.tup (k.2.map .bool)]
noncomputable def r0:List Bool->List Bool->Bool
 | [],[]=>false
 | [],_::_=>true
 |_::_,[]=>false
 |a::r,b::s=>bif a==b then r0 r s else b
noncomputable def qq (a b:KB):Bool:=bif a.1==b.1 then r0 a.2 b.2 else decide (a.1 < b.1)
noncomputable def uU (x:KB):List KB->List KB
 | []=>[x]
 |y::r=>bif qq x y then x::y::r else y::uU x r
noncomputable def fu:List KB->List KB
 | []=>[]
 |x::r=>uU x (fu r)
noncomputable def EZ (a:T)(ks:List KB):Prop:=a=.lst (ks.map gW)/\ks.Nodup/\ks.length < 64
open Classical in
noncomputable def gw (a:T):Option T:=if h:∃ks,EZ a ks then some (.lst ((fu h.choose).map gW)) else none
structure FY (m:Nat) (ks:List KB):Prop where
 nd:ks.Nodup
 p0:∀k∈ks,0<=k.1
 p12:∀k∈ks,k.1 < 12
 g:∀k∈ks,k.2.length=m
inductive C3:T->Prop
 |mk (m:Nat) (ks:List KB) (ts:List T) (h:m<=4) (r:FY m ks):C3 (.dct (ks.map gW) ts)
open Classical in
noncomputable def fW (a:T):Option T:=if C3 a then some a else none
noncomputable def vq (l:List KB):T:=.lst (l.map gW)
inductive CY:T->T->Prop
 |mk (ks:List KB) (ls:List (List KB)):CY (.tup [vq ks,.dct (ks.map gW) (ls.map vq)]) (.tup [vq ks,.dct (ks.map gW) (ls.map vq)])
open Classical in
noncomputable def y2 (a b:T):Option Bool:=if CY a b then some false else none
theorem z8 {a b:List Bool}(h:a.map T.bool=b.map T.bool):a=b:=List.map_inj_right (fun _ _ e=>by cases e;rfl) |>.mp h
theorem zr {a b:KB}(h:gW a=gW b):a=b:=by
 have tu:∀{x y:List T},T.tup x=T.tup y->x=y:=fun e=>by cases e;rfl
 have it:∀{x y:Int},T.int x=T.int y->x=y:=fun e=>by cases e;rfl
 have h1:=List.cons.inj (tu h)
 exact Prod.ext (it h1.1) (z8 (tu (List.cons.inj h1.2).1))
theorem BX {a b:List KB}(h:a.map gW=b.map gW):a=b:=List.map_inj_right (fun _ _ e=>zr e) |>.mp h
theorem yI {ks:List KB}(h1:ks.Nodup)(h2:ks.length < 64):gw (.lst (ks.map gW))=some (.lst ((fu ks).map gW)):=by
 have h:∃l,EZ (.lst (ks.map gW)) l:=⟨ks,rfl,h1,h2⟩
 have li:∀{x y:List T},T.lst x=T.lst y->x=y:=fun e=>by cases e;rfl
 rw [gw,dif_pos h,<-BX (li h.choose_spec.1)]
theorem yH {a y:T}(e:gw a=some y):∃ks,EZ a ks/\y=.lst ((fu ks).map gW):=by
 by_cases h:∃ks,EZ a ks
 .rw [gw,dif_pos h] at e
  exact ⟨_,h.choose_spec,(Option.some.inj e).symm⟩
 .rw [gw,dif_neg h] at e;cases e
theorem zU {a:T}(h:C3 a):fW a=some a:=if_pos h
theorem zT {a y:T}(e:fW a=some y):C3 a/\y=a:=by
 by_cases h:C3 a
 .rw [fW,if_pos h] at e;exact ⟨h,(Option.some.inj e).symm⟩
 .rw [fW,if_neg h] at e;cases e
theorem y0 {a b:T}(h:CY a b):y2 a b=some false:=if_pos h
theorem DG {a b:T}{r:Bool}(e:y2 a b=some r):CY a b/\r=false:=by
 by_cases h:CY a b
 .rw [y2,if_pos h] at e;exact ⟨h,(Option.some.inj e).symm⟩
 .rw [y2,if_neg h] at e;cases e
theorem oJ:∀{a b:List Bool},a≠b->r0 a b=false->r0 b a=true
 | [],[],h,_=>(h rfl).elim
 | [],_::_,_,h=>nomatch h
 |_::_,[],_,_=>rfl
 |true::r,true::s,h,e=>oJ (a:=r) (b:=s) (fun q=>h (congrArg _ q)) e
 |false::r,false::s,h,e=>oJ (a:=r) (b:=s) (fun q=>h (congrArg _ q)) e
 |true::_,false::_,_,_=>rfl
 |false::_,true::_,_,h=>nomatch h
theorem rZ:∀{a b c:List Bool},r0 a b=true->r0 b c=true->r0 a c=true
 | [],[],_,h,_=>nomatch h
 | [],_::_,[],_,h=>nomatch h
 | [],_::_,_::_,_,_=>rfl
 |_::_,[],_,h,_=>nomatch h
 |_::_,_::_,[],_,h=>nomatch h
 |true::a,true::b,true::c,h,k=>rZ (a:=a) (b:=b) (c:=c) h k
 |true::_,false::_,_::_,h,_=>nomatch h
 |true::_,true::_,false::_,_,k=>nomatch k
 |false::_,true::_,true::_,_,_=>rfl
 |false::_,true::_,false::_,_,k=>nomatch k
 |false::_,false::_,true::_,_,_=>rfl
 |false::a,false::b,false::c,h,k=>rZ (a:=a) (b:=b) (c:=c) h k
theorem kx:∀(a:List Bool),r0 a a=false
 | []=>rfl
 |true::r=>kx r
 |false::r=>kx r
theorem ja {a b:KB}:qq a b=true↔a.1 < b.1\/(a.1=b.1/\r0 a.2 b.2=true):=by
 rw [qq]
 by_cases h:a.1=b.1
 .rw [h,beq_self_eq_true,cond_true]
  exact ⟨fun q=>.inr ⟨rfl,q⟩,fun q=>q.elim (fun q=>absurd q (Int.lt_irrefl _)) (·.2)⟩
 .rw [beq_eq_false_iff_ne.mpr h,cond_false,decide_eq_true_iff]
  exact ⟨.inl,fun q=>q.elim id fun q=>absurd q.1 h⟩
theorem tt {a b:KB}(h:a≠b)(e:qq a b=false):qq b a=true:=by
 refine ja.mpr ?_
 have e:=fun q=>Bool.false_ne_true (e.symm.trans (ja.mpr q))
 rcases Int.lt_trichotomy a.1 b.1 with q |q |q
 .exact (e (.inl q)).elim
 .exact .inr ⟨q.symm,oJ (fun w=>h (Prod.ext q w)) (Bool.eq_false_iff.mpr fun w=>e (.inr ⟨q,w⟩))⟩
 .exact .inl q
theorem rY {a b c:KB}(h:qq a b=true)(k:qq b c=true):qq a c=true:=by
 refine ja.mpr ?_
 rcases ja.mp h with h | ⟨h,h'⟩<;>rcases ja.mp k with k | ⟨k,k'⟩
 .exact .inl (Int.lt_trans h k)
 .exact .inl (k▸h)
 .exact .inl (h▸k)
 .exact .inr ⟨h.trans k,rZ h' k'⟩
theorem zc (a:KB):qq a a=false:=by rw [qq,beq_self_eq_true,cond_true];exact kx _
noncomputable abbrev ye (l:List KB):Prop:=l.Pairwise fun a b=>qq a b=true
theorem oc:∀{a b:List KB},a.Perm b->ye a->ye b->a=b
 | [],b,p,_,_=>(p.symm.eq_nil).symm
 |x::a,[],p,_,_=>nomatch p.eq_nil
 |x::a,y::b,p,h,k=>by
  have h':=pairwise_cons.mp h
  have k':=pairwise_cons.mp k
  have e:x=y:=by
   rcases an (p.mem_iff.mp (mem_cons_self ..)) with q |q
   .exact q
   rcases an (p.mem_iff.mpr (mem_cons_self ..)) with w |w
   .exact w.symm
   .exact (Bool.false_ne_true ((zc x).symm.trans (rY (h'.1 y w) (k'.1 x q)))).elim
  subst e
  rw [oc (p.cons_inv) h'.2 k'.2]
theorem lK (x:KB):∀l:List KB,(uU x l).Perm (x::l)
 | []=>.refl _
 |y::r=>by
  rw [uU]
  cases qq x y with
  |true=>exact .refl _
  |false=>exact ((lK x r).cons y).trans (.swap x y r)
theorem tK {x:KB}:∀{l:List KB},ye l->x∉l->ye (uU x l)
 | [],_,_=>pairwise_singleton _ _
 |y::r,h,hn=>by
  have h':=pairwise_cons.mp h
  rw [uU]
  cases q:qq x y with
  |true=>exact pairwise_cons.mpr ⟨fun z hz=>(an hz).elim (fun e=>e▸q) fun hz=>rY q (h'.1 z hz),h⟩
  |false=>
   refine pairwise_cons.mpr ⟨fun z hz=>?_,tK h'.2 fun w=>hn (.tail _ w)⟩
   rcases an ((lK x r).mem_iff.mp hz) with rfl |hz
   .exact tt (fun e=>hn (e▸.head _)) q
   .exact h'.1 z hz
theorem eB:∀l:List KB,(fu l).Perm l
 | []=>.refl _
 |x::r=>(lK x _).trans ((eB r).cons x)
theorem iT:∀{l:List KB},l.Nodup->ye (fu l)
 | [],_=>.nil
 |x::r,h=>tK (iT (aK h).2) fun q=>(aK h).1 ((eB r).mem_iff.mp q)
theorem yJ {a b:List KB}(p:a.Perm b)(h:a.Nodup):fu a=fu b:=
 oc ((eB a).trans (p.trans (eB b).symm)) (iT h) (iT (p.nodup_iff.mp h))
end
end Mine
section
set_option tactic.hygienic false
set_option backward.eqns.nonrecursive false
namespace Mine
noncomputable section
open PySem
structure Pg where
 prog:Program
 w:World
 h₀:Heap
 cls:Nat->Addr
 Ψ:Nat->Option gj
 fnA:Nat->Addr
 fd:Nat->FuncData
 gl:Nat->Bool
 mg:Str->Option Value
 mb:Str->Option Value
noncomputable abbrev Pg.M (P:Pg):Model:=model P.prog P.w
noncomputable abbrev Pg.cx (P:Pg)(n:Nat):iK:=⟨ah P.Ψ n⟩
structure Gh where
 F:Addr->Prop
 Z:Addr->Prop
 o:Nat->Option Addr
 sp:Addr
 sa:Addr
noncomputable def Gh.O (g:Gh)(a:Addr):Prop:=∃i,g.o i=some a
noncomputable abbrev eW (vs:Array Value)(n:Nat):Obj:=⟨.type "tuple",none,.seq vs n,#[]⟩
noncomputable abbrev bm (vs:Array Value)(n:Nat):Obj:=⟨.type "list",none,.seq vs n,#[]⟩
structure EA (P:Pg) (c:Nat) (dx:Addr) (o:Obj):Prop where
 cls:o.cls=.ref (P.cls c)
 dict:o.dict=some dx
 no:∀k,o.data≠.cls k
structure rj (c:Nat) (m:Str->Option Value) (us:List Value):Prop where
 no:∀x,x∉bU c->m x=none
 at_:∀(i:Nat) (x:Str) (u:Value),us[i]?=some u->(bU c)[i]?=some x->m x=some u
structure Go (w:World) (ks:List T) (o:Obj) (es:List DictEntry):Prop where
 x:o.ExactDict
 d:∃ep,o.data=.dict es.toArray ep
 k:∃κ,eY ks=some κ/\es.map (·.hash)=κ.map (Ky.hash w)/\κ.Nodup
 l:ks.length<=lim
noncomputable def n4:List Int->List Value->Prop
 | [],vs=>vs=[]
 |i::is,vs=>∃t vs',vs=.int i t::vs'/\n4 is vs'
theorem au {h:Heap}{a:Addr}{o:Obj}(e:h.get? a=some o):h.get? a≠none:=fun q=>by rw [e] at q;cases q
inductive Fz (g:Gh) (O:Addr->Prop) (x:Value):Prop
 |mk (a:Addr) (e:x=.ref a) (f:g.F a) (o:O a)
inductive yf (h:Heap) (ob:Array Value->Nat->Obj) (R:List Value->Prop) (k:Nat) (a:Addr):Prop
 |mk (vs:Array Value) (n:Nat) (e:h.get? a=some (ob vs n)) (l:k<=lim) (r:R vs.toList)
inductive yy (P:Pg) (h:Heap) (us:List T) (R R':List Value->Prop) (a:Addr):Prop
 |mk (q:(a==sysModules)=false) (o:Obj) (es:List DictEntry) (e:h.get? a=some o) (d:Go P.w us o es) (r:R (es.map (·.key))) (r':R' (es.map (·.val)))
inductive d9 (P:Pg) (h:Heap) (c:Nat) (m:Str->Option Value) (dx a:Addr):Prop
 |mk (o:Obj) (e:h.get? a=some o) (k:EA P c dx o) (n:h.Ns1 dx m) (ne:dx≠a)
inductive EY (P:Pg) (g:Gh) (h:Heap) (c:Nat) (R:List Value->Prop) (a:Addr):Prop
 |mk (dx:Addr) (m:Str->Option Value) (us:List Value) (f:g.F dx) (i:d9 P h c m dx a) (k:rj c m us) (r:R us)
inductive Gn (P:Pg) (ns:List Int) (x:Value):Prop
 |mk (a:Addr) (items:Array Value) (e:x=.ref a) (l:P.h₀.IsList a items) (b:items.size<=lim) (r:n4 ns items.toList)
mutual
noncomputable def Rp (P:Pg)(g:Gh)(h:Heap):T->Value->Prop
 |.none,x=>x=.none
 |.bool b,x=>x=.bool b
 |.int i,x=>∃t,x=.int i t
 |.str s,x=>(PyData.strOk s=true/\s.length<=lim)/\∃t,x=.str s t
 |.scr ns,x=>Gn P ns x
 |.tup ts,x=>Fz g (yf h eW (aO P g h ts) ts.length) x
 |.lst ts,x=>Fz g (yf h bm (aO P g h ts) ts.length) x
 |.dct us ts,x=>Fz g (yy P h us (aO P g h us) (aO P g h ts)) x
 |.obj c ts,x=>Fz g (EY P g h c (aO P g h ts)) x
 |.spot,x=>x=.ref g.sp
 |.self,_=>False
termination_by structural t=>t
noncomputable def aO (P:Pg)(g:Gh)(h:Heap):List T->List Value->Prop
 | [],vs=>vs=[]
 |t::ts,vs=>∃v vs',vs=v::vs'/\Rp P g h t v/\aO P g h ts vs'
termination_by structural t=>t
end
noncomputable def gP (P:Pg)(g:Gh)(h:Heap)(a:Addr):T->Prop
 |.lst ts=>yf h bm (aO P g h ts) ts.length a
 |.dct us ts=>yy P h us (aO P g h us) (aO P g h ts) a
 |_=>False
section
variable {P:Pg} {g g':Gh} {h h':Heap}
structure aR (g:Gh) (h:Heap) (g':Gh) (h':Heap):Prop where
 F:∀a,g.F a->g'.F a/\∀o,h.get? a=some o->h'.get? a=some o
 sp:g'.sp=g.sp
theorem yf.mono {ob:Array Value->Nat->Obj}{R R':List Value->Prop}{k:Nat}{a:Addr}(r:yf h ob R k a)(ha:∀o,h.get? a=some o->h'.get? a=some o)(q:∀v,R v->R' v):yf h' ob R' k a:=let ⟨vs,n,e,l,r⟩:=r;⟨vs,n,ha _ e,l,q _ r⟩
theorem yy.mono {us:List T}{R R' S S':List Value->Prop}{a:Addr}(r:yy P h us R S a)(ha:∀o,h.get? a=some o->h'.get? a=some o)(q:∀v,R v->R' v)(q':∀v,S v->S' v):yy P h' us R' S' a:=let ⟨n,o,es,e,d,r,r'⟩:=r;⟨n,o,es,ha _ e,d,q _ r,q' _ r'⟩
theorem Fz.mono {O O':Addr->Prop}{x:Value}(k:aR g h g' h')(r:Fz g O x)(q:∀a,(∀o,h.get? a=some o->h'.get? a=some o)->O a->O' a):Fz g' O' x:=let ⟨a,e,f,o⟩:=r;⟨a,e,(k.F a f).1,q a (k.F a f).2 o⟩
theorem d9.mono {c:Nat}{m:Str->Option Value}{dx a:Addr}(i:d9 P h c m dx a)(ha:∀o,h.get? a=some o->h'.get? a=some o)(hd:∀o,h.get? dx=some o->h'.get? dx=some o):d9 P h' c m dx a:=let ⟨o,e,k,n,ne⟩:=i;⟨o,ha _ e,k,n.at hd,ne⟩
theorem EY.mono {c:Nat}{R R':List Value->Prop}{a:Addr}(k:aR g h g' h')(r:EY P g h c R a)(ha:∀o,h.get? a=some o->h'.get? a=some o)(q:∀v,R v->R' v):EY P g' h' c R' a:=let ⟨dx,m,us,f,i,i',r⟩:=r;⟨dx,m,us,(k.F dx f).1,i.mono ha (k.F dx f).2,i',q _ r⟩
theorem Rp.both (k:aR g h g' h'):(∀t v,Rp P g h t v->Rp P g' h' t v)/\∀t v,aO P g h t v->aO P g' h' t v:=
 have n:∀v,aO P g h [] v->aO P g' h' [] v:=fun _ h=>h
 have c:∀(t:T) (ts:List T),(∀v,Rp P g h t v->Rp P g' h' t v)->(∀v,aO P g h ts v->aO P g' h' ts v)->∀v,aO P g h (t::ts) v->aO P g' h' (t::ts) v:=fun _ _ h h' _ ⟨v,vs,e,r,r'⟩=>⟨v,vs,e,h v r,h' vs r'⟩
 have a:∀t v,Rp P g h t v->Rp P g' h' t v:=fun t=>T.rec (motive_1:=fun t=>∀v,Rp P g h t v->Rp P g' h' t v) (motive_2:=fun t=>∀v,aO P g h t v->aO P g' h' t v)
  (fun _ h=>h) (fun _ _ h=>h) (fun _ _ h=>h) (fun _ _ h=>h) (fun _ ih _ r=>Fz.mono k r fun _ ha r=>r.mono ha ih) (fun _ ih _ r=>Fz.mono k r fun _ ha r=>r.mono ha ih)
  (fun _ _ i1 i2 _ r=>Fz.mono k r fun _ ha r=>r.mono ha i1 i2) (fun _ _ ih _ r=>Fz.mono k r fun _ ha r=>r.mono k ha ih)
  (fun _ _ h=>h) (fun v h=>(show v=_ from h).trans (congrArg Value.ref k.sp.symm)) (fun _ h=>h) n c t
 ⟨a,fun t=>List.rec n (fun t ts h=>c t ts (a t) h) t⟩
theorem Rp.mono (k:aR g h g' h'){t:T}{x:Value}(r:Rp P g h t x):Rp P g' h' t x:=(Rp.both k).1 t x r
theorem aO.mono (k:aR g h g' h'){t:List T}{x:List Value}(r:aO P g h t x):aO P g' h' t x:=(Rp.both k).2 t x r
theorem gP.case {a:Addr}{p:T->Prop}(h1:∀ts,gP P g h a (.lst ts)->p (.lst ts))(h2:∀us ts,gP P g h a (.dct us ts)->p (.dct us ts)):∀{t:T},gP P g h a t->p t
 |.lst ts,h=>h1 ts h
 |.dct us ts,h=>h2 us ts h
theorem gP.mono (k:aR g h g' h'){a:Addr}(ha:∀o,h.get? a=some o->h'.get? a=some o){t:T}(r:gP P g h a t):gP P g' h' a t:=
 r.case (p:=gP P g' h' a) (fun _ r=>yf.mono r ha fun _=>aO.mono k) fun _ _ r=>yy.mono r ha (fun _=>aO.mono k) fun _=>aO.mono k
theorem gP.rp {a:Addr}{t:T}(f:g.F a)(r:gP P g h a t):Rp P g h t (.ref a):=
 r.case (p:=fun t=>Rp P g h t (.ref a)) (fun _ h=>⟨a,rfl,f,h⟩) fun _ _ h=>⟨a,rfl,f,h⟩
theorem gP.live {a:Addr}{t:T}(r:gP P g h a t):h.get? a≠none:=
 r.case (p:=fun _=>h.get? a≠none) (fun _ r=>let ⟨_,_,e,_,_⟩:=r;au e) fun _ _ r=>let ⟨_,_,_,e,_,_,_⟩:=r;au e
theorem aO.nil:aO P g h [] []:=rfl
theorem aO.cons {v:Value}{t:T}{vs:List Value}{ts:List T}(q:Rp P g h t v)(r:aO P g h ts vs):aO P g h (t::ts) (v::vs):=⟨v,vs,rfl,q,r⟩
theorem aO.length {ts:List T}:∀{vs:List Value},aO P g h ts vs->vs.length=ts.length:=by
 induction ts with
 |nil=>exact fun h=>congrArg List.length h
 |cons t ts ih=>exact fun ⟨v,vs,e,_,r⟩=>e▸congrArg (·+1) (ih r)
theorem aO.append {ts':List T}{vs':List Value}(r':aO P g h ts' vs'){ts:List T}:∀{vs:List Value},aO P g h ts vs->aO P g h (ts++ts') (vs++vs'):=by
 induction ts with
 |nil=>exact fun h=>(show _=[] from h)▸r'
 |cons t ts ih=>exact fun ⟨v,vs,e,h,r⟩=>e▸aO.cons h (ih r)
theorem aO.get {ts:List T}:∀{vs:List Value},aO P g h ts vs->∀{i:Nat} {t:T},ts[i]?=some t->∃v,vs[i]?=some v/\Rp P g h t v:=by
 induction ts with
 |nil=>exact fun _ _ _ e=>nomatch e
 |cons t ts ih=>
  rintro _ ⟨v,vs,rfl,q,r⟩ i u e
  cases i with
  |zero=>exact ⟨v,rfl,Option.some.inj e▸q⟩
  |succ i=>exact ih r (i:=i) e
theorem aO.drop (n:Nat){ts:List T}:∀{vs:List Value},aO P g h ts vs->aO P g h (ts.drop n) (vs.drop n):=by
 induction n generalizing ts with
 |zero=>exact fun h=>h
 |succ n ih=>cases ts with
  |nil=>exact fun h=>(show _=[] from h)▸rfl
  |cons t ts=>exact fun ⟨v,vs,e,h,r⟩=>e▸ih r
theorem aO.take (n:Nat){ts:List T}:∀{vs:List Value},aO P g h ts vs->aO P g h (ts.take n) (vs.take n):=by
 induction n generalizing ts with
 |zero=>exact fun _=>rfl
 |succ n ih=>cases ts with
  |nil=>exact fun h=>(show _=[] from h)▸rfl
  |cons t ts=>exact fun ⟨v,vs,e,h,r⟩=>e▸aO.cons h (ih r)
theorem aO.set {v:Value}{t:T}(q:Rp P g h t v)(n:Nat){ts:List T}:∀{vs:List Value},aO P g h ts vs->aO P g h (ts.set n t) (vs.set n v):=by
 induction n generalizing ts with
 |zero=>cases ts with
  |nil=>exact fun h=>(show _=[] from h)▸rfl
  |cons t ts=>exact fun ⟨v,vs,e,h,r⟩=>e▸aO.cons q r
 |succ n ih=>cases ts with
  |nil=>exact fun h=>(show _=[] from h)▸rfl
  |cons t ts=>exact fun ⟨v,vs,e,h,r⟩=>e▸aO.cons h (ih r)
end
inductive iG (P:Pg) (g:Gh) (h:Heap) (c:Nat) (ts:List T):Prop
 |mk (dx:Addr) (m:Str->Option Value) (us:List Value) (i:d9 P h c m dx g.sa) (z:g.Z g.sa) (z':g.Z dx) (ne:dx≠g.sp/\g.sa≠g.sp) (f:rj c m us) (l:us.length=ts.length)
  (sh:∀(i:Nat) (u:Value) (t:T),us[i]?=some u->ts[i]?=some t->gD c i=false->Rp P g h t u)
  (ow:∀(i:Nat) (u:Value) (t:T),us[i]?=some u->ts[i]?=some t->gD c i=true->∃a,u=.ref a/\g.Z a/\(a≠dx/\a≠g.sa/\a≠g.sp)/\gP P g h a t)
  (nn:∀(i j:Nat) (a:Addr),us[i]?=some (.ref a)->us[j]?=some (.ref a)->gD c i=true->gD c j=true->i=j)
structure bj (P:Pg) (g:Gh) (h:Heap) (σ:Sg):Prop where
 base:∀a o,P.h₀.get? a=some o->g.F a/\h.get? a=some o
 F:∀a,g.F a->h.get? a≠none
 Z:∀a,g.Z a->h.get? a≠none/\¬g.F a
 O:∀a,g.O a->h.get? a≠none/\¬g.F a/\¬g.Z a
 oo:∀i j a,g.o i=some a->g.o j=some a->i=j
 spot:(∃t n,h.get? g.sp=some (bm #[.int σ.spot t] n))/\g.Z g.sp/\(σ.self=none->∀a,g.Z a->a=g.sp)
 self:∀c ts,σ.self=some (c,ts)->iG P g h c ts
structure aH (g:Gh) (s:Shared) (g':Gh) (s':Shared):Prop where
 st:∃h' tk,s'={s with heap:=h',toks:=tk}
 keep:∀a o,s.heap.get? a=some o->¬g.Z a->s'.heap.get? a=some o
 back:∀a,s'.heap.get? a=none->s.heap.get? a=none
 F:∀a,g.F a->g'.F a
 Fn:∀a,g'.F a->g.F a\/s.heap.get? a=none
 Zn:∀a,g'.Z a->g.Z a\/s.heap.get? a=none
 o:g'.o=g.o
 sp:g'.sp=g.sp
 sa:g'.sa=g.sa
theorem St.trans {s s₁ s2:Shared}(p:∃h' tk,s₁={s with heap:=h',toks:=tk})(q:∃h' tk,s2={s₁ with heap:=h',toks:=tk}):∃h' tk,s2={s with heap:=h',toks:=tk}:=
 let ⟨_,_,e⟩:=p;let ⟨h,t,e'⟩:=q;⟨h,t,by rw [e',e]⟩
theorem aH.refl (g:Gh)(s:Shared):aH g s g s:=⟨⟨s.heap,s.toks,rfl⟩,fun _ _ e _=>e,fun _ e=>e,fun _ h=>h,fun _ h=>.inl h,fun _ h=>.inl h,rfl,rfl,rfl⟩
theorem aH.trans {g g1 g2:Gh}{s s₁ s2:Shared}(p:aH g s g1 s₁)(q:aH g1 s₁ g2 s2):aH g s g2 s2:=
 ⟨St.trans p.st q.st,fun a o e n=>q.keep a o (p.keep a o e n) fun z=>(p.Zn a z).elim n fun z=>(au e z).elim,fun a e=>p.back a (q.back a e),fun a f=>q.F a (p.F a f),
  fun a f=>(q.Fn a f).elim (p.Fn a) fun e=>.inr (p.back a e),fun a f=>(q.Zn a f).elim (p.Zn a) fun e=>.inr (p.back a e),q.o.trans p.o,q.sp.trans p.sp,q.sa.trans p.sa⟩
theorem aH.toks (g:Gh)(s:Shared)(t:Nat):aH g s g {s with toks:=t}:=⟨⟨s.heap,t,rfl⟩,fun _ _ e _=>e,fun _ e=>e,fun _ h=>h,fun _ h=>.inl h,fun _ h=>.inl h,rfl,rfl,rfl⟩
theorem aH.k {P:Pg}{g g':Gh}{s s':Shared}{σ:Sg}(p:aH g s g' s')(w:bj P g s.heap σ):aR g s.heap g' s'.heap:=
 ⟨fun a f=>⟨p.F a f,fun o e=>p.keep a o e fun z=>(w.Z a z).2 f⟩,p.sp⟩
theorem iG.mono' {P:Pg}{g g':Gh}{h h':Heap}{c:Nat}{ts:List T}(k:aR g h g' h')(z:∀a,a≠g.sp->g.Z a->g'.Z a/\∀o,h.get? a=some o->h'.get? a=some o)(hs:g'.sa=g.sa)(s:iG P g h c ts):iG P g' h' c ts:=by
 obtain ⟨dx,m,us,i,z1,z2,ne,f,l,sh,ow,nn⟩:=s
 have hp:=k.sp
 have a1:=z _ ne.2 z1
 have a2:=z _ ne.1 z2
 refine ⟨dx,m,us,hs▸i.mono a1.2 a2.2,hs▸a1.1,a2.1,hs▸hp▸ne,f,l,fun j u t h1 h2 h3=>(sh j u t h1 h2 h3).mono k,fun j u t h1 h2 h3=>?_,nn⟩
 obtain ⟨a,h4,h5,h6,h7⟩:=ow j u t h1 h2 h3
 have a3:=z _ h6.2.2 h5
 exact ⟨a,h4,a3.1,hs▸hp▸h6,h7.mono k a3.2⟩
theorem iG.mono {P:Pg}{g g':Gh}{h h':Heap}{c:Nat}{ts:List T}(k:aR g h g' h')(z:∀a,g.Z a->g'.Z a/\∀o,h.get? a=some o->h'.get? a=some o)(hs:g'.sa=g.sa)(s:iG P g h c ts):iG P g' h' c ts:=s.mono' k (fun a _=>z a) hs
theorem bj.grow {P:Pg}{g:Gh}{h h':Heap}{σ:Sg}(w:bj P g h σ)(k:∀a o,h.get? a=some o->h'.get? a=some o)(F:Addr->Prop)(hF:∀a,g.F a->F a)(hn:∀a,F a->g.F a\/(h.get? a=none/\h'.get? a≠none)):bj P {g with F:=F} h' σ:=by
 have lv:∀a,h.get? a≠none->h'.get? a≠none:=fun a n q=>by
  cases e:h.get? a with
  |none=>exact n e
  |some o=>rw [k a o e] at q;cases q
 have kf:aR g h {g with F:=F} h':=⟨fun a f=>⟨hF a f,k a⟩,rfl⟩
 have nf:∀a,h.get? a≠none->¬g.F a->¬F a:=fun a l n q=>(hn a q).elim n fun q=>l q.1
 exact ⟨fun a o e=>⟨hF a (w.base a o e).1,k a o (w.base a o e).2⟩,fun a f=>(hn a f).elim (fun f=>lv a (w.F a f)) (·.2),fun a z=>⟨lv a (w.Z a z).1,nf a (w.Z a z).1 (w.Z a z).2⟩,
  fun a z=>⟨lv a (w.O a z).1,nf a (w.O a z).1 (w.O a z).2.1,(w.O a z).2.2⟩,w.oo,⟨let ⟨t,n,e⟩:=w.spot.1;⟨t,n,k _ _ e⟩,w.spot.2⟩,fun c ts e=>(w.self c ts e).mono kf (fun a z=>⟨z,k a⟩) rfl⟩
theorem aH.grow {g:Gh}{s:Shared}{h':Heap}(t:Nat)(k:∀a o,s.heap.get? a=some o->h'.get? a=some o)(F:Addr->Prop)(hF:∀a,g.F a->F a)(hn:∀a,F a->g.F a\/s.heap.get? a=none):aH g s {g with F:=F} {s with heap:=h',toks:=t}:=
 ⟨⟨h',t,rfl⟩,fun a o e _=>k a o e,fun a e=>by
  cases q:s.heap.get? a with
  |none=>rfl
  |some o=>exact (au (k a o q) e).elim,hF,hn,fun _ h=>.inl h,rfl,rfl,rfl⟩
theorem bj.toks {P:Pg}{g:Gh}{s:Shared}{σ:Sg}(w:bj P g s.heap σ)(t:Nat):bj P g ({s with toks:=t}:Shared).heap σ:=w
theorem aJ (h:Heap):h.get? h.objs.size=none:=by
 cases e:h.get? h.objs.size with
 |none=>rfl
 |some o=>exact absurd (Heap.lt_size e) (lt_irrefl _)
end
end Mine
namespace Mine
noncomputable section
open PySem PyProof.Rows
noncomputable def iA:List Str:=["len","isinstance","list","tuple","str","int","bool","range","zip","enumerate","any","all","max","sorted","dict","set","ValueError"]
structure pL (P:Pg):Prop where
 g:P.h₀.Ns mainGlobals P.mg
 b:P.h₀.Ns builtinsNs P.mb
 nolimit:P.h₀.NoLimit
 fn:∀f F,P.Ψ f=some F->∃o,P.h₀.get? (P.fnA f)=some o/\o.data=.func (P.fd f)/\(P.gl f=true->P.mg (P.fd f).name=some (.ref (P.fnA f)))/\P.h₀.CodeRec (P.fd f).code (P.fd f).qualname/\
  (P.fd f).closure=[]/\(P.fd f).globals=mainGlobals/\(P.fd f).builtins=builtinsNs
 blt:∀x∈iA,P.mg x=none/\P.mb x=bootBuiltins x
structure br where
 sc:Scope
 tab:List (Option (Str×NameKind))
noncomputable def br.ok (B:br):Bool:=B.sc.kind==.function&&(B.tab.all fun
  |some (x,k)=>B.sc.names.lookup x==some k&&(k==.local||k==.cell||k==.free)&&!(x==("__debug__":Str))&&!(x==("__classdict__":Str))
  |none=>true)&&decide ((B.tab.filterMap (·.map (·.1))).Nodup)
structure Ct where
 O:List Nat
 U:List Nat
 m:Bool
noncomputable def bi (C:Ct)(i:Nat):Bool:=C.O.any (Nat.beq i)
inductive GS (P:Pg) (g:Gh) (h:Heap) (i:Nat) (t:T) (u:Value):Prop
 |mk (a:Addr) (e:u=.ref a) (o:g.o i=some a) (r:gP P g h a t)
noncomputable def bw (P:Pg)(C:Ct)(g:Gh)(h:Heap)(i:Nat)(t:T)(u:Value):Prop:=match bi C i with
 |true=>GS P g h i t u
 |false=>Rp P g h t u\/(C.m=true/\i=0/\t=.self/\u=.ref g.sa)
inductive cZ (B:br) (env:Env) (h:Heap) (i:Nat) (u:Value):Prop
 |loc (x:Str) (m:Str->Option Value) (t:B.tab[i]?=some (some (x,.local))) (n:h.Ns env.locals m) (e:m x=some u)
 |cel (x:Str) (k:NameKind) (c:Addr) (t:B.tab[i]?=some (some (x,k))) (hk:k=.cell\/k=.free) (l:env.cells.lookup x=some c) (n:h.IsCell c (some u))
noncomputable def own (env:Env):List Addr:=env.locals::env.cells.map (·.2)
structure bZ (P:Pg) (B:br) (C:Ct) (env:Env) (g:Gh) (ρ:aZ) (h:Heap):Prop where
 ok:B.ok=true
 sc:env.scope=B.sc
 glob:env.globals=mainGlobals
 blt:env.builtins=builtinsNs
 ns:∃m,h.Ns env.locals m
 cell:∀(i:Nat) (x:Str) (k:NameKind),B.tab[i]?=some (some (x,k))->k=.cell\/k=.free->∃c u,env.cells.lookup x=some c/\h.IsCell c u
 apart:∀x y c,env.cells.lookup x=some c->env.cells.lookup y=some c->x=y
 own:∀a∈own env,h.get? a≠none/\¬g.F a/\¬g.Z a/\¬g.O a
 var:∀i y t,B.tab[i]?=some (some y)->cI ρ i=some t->∃u,cZ B env h i u/\bw P C g h i t u
 un:∀i∈C.U,cI ρ i=none
noncomputable def Al (A:Around)(n:Nat):Prop:=A.depth+2 * n+10 < recursionLimit/\A.units+20 * n+200 < cLine/\A.handled=none
noncomputable def mw (A:Around)(n:Nat):Prop:=A.depth+2 * n+9 < recursionLimit/\A.units+20 * n+190 < cLine/\A.handled=none
theorem Al.c {A:Around}{n:Nat}(h:Al A n):mw A n:=⟨Nat.lt_of_succ_lt h.1,lt_of_le_of_lt (add_le_add_left (by decide) _) h.2.1,h.2.2⟩
inductive Am (P:Pg) (h:Heap) (g':Gh) (h':Heap) (t:T) (x:Value):Prop
 |mk (a:Addr) (e:x=.ref a) (n:h.get? a=none) (f:¬g'.F a) (z:¬g'.Z a) (o:¬g'.O a) (r:gP P g' h' a t)
noncomputable def A6 (P:Pg)(fr:Bool)(h:Heap)(g':Gh)(h':Heap)(t:T)(x:Value):Prop:=match fr with
 |false=>Rp P g' h' t x
 |true=>Am P h g' h' t x
noncomputable def Args (P:Pg)(m:Bool)(g:Gh)(h:Heap)(ts:List T)(vs:List Value):Prop:=match m with
 |false=>aO P g h ts vs
 |true=>∃v vs' t ts',vs=v::vs'/\ts=t::ts'/\(Rp P g h t v\/(t=.self/\v=.ref g.sa))/\aO P g h ts' vs'
noncomputable def pN (P:Pg)(n:Nat):Prop:=
 ∀f A ts vs g σ s t σ' (Q:Value->Shared->Prop) (E:Value->Shared->Prop),mw A n->bj P g s.heap σ->Args P (rA f) g s.heap ts vs->ah P.Ψ n f ts σ=.ret t σ'->
  (∀x s' g',aH g s g' s'->bj P g' s'.heap σ'->A6 P (j4 f) s.heap g' s'.heap t x->Q x s')->
  codeAny P.M A (.call (.ref (P.fnA f)) ⟨vs,[]⟩) (fun r s'=>match r with
   |.ok (.ret x)=>Q x s'
   |.ok _=>False
   |.error x=>E x s') s
structure At (P:Pg) (B:br) (C:Ct) (n:Nat) (A:Around) (env:Env) (g:Gh) (ρ:aZ) (σ:Sg) (s:Shared):Prop where
 good:pL P
 call:∀k,k<=n->pN P k
 room:Al A n
 env:bZ P B C env g ρ s.heap
 g:bj P g s.heap σ
noncomputable abbrev WP (α:Type):=Around->Env->(α->Shared->Prop)->(Value->Shared->Prop)->Shared->Prop
noncomputable abbrev RR (α j:Type):=Heap->Gh->Heap->j->α->Prop
noncomputable def dB (P:Pg)(B:br)(C:Ct){α j:Type}(W:WP α)(p:PG j)(R:RR α j):Prop:=
 ∀n A env g ρ σ s (k:PK j) (Q:α->Shared->Prop) (E:Value->Shared->Prop),At P B C n A env g ρ σ s->p (P.cx n) ρ σ k≠.bad->
  (∀x s' g' t σ',p (P.cx n) ρ σ k=k t σ'->aH g s g' s'->bj P g' s'.heap σ'->R s.heap g' s'.heap t x->Q x s')->W A env Q E s
noncomputable abbrev Pg.W (P:Pg){α:Type}(c:Env->Sem α):WP α:=fun A env Q E s=>wpAny P.M A (c env) Q E s
noncomputable abbrev RV (P:Pg):RR Value T:=fun _ g h t x=>Rp P g h t x
noncomputable abbrev RN (P:Pg):RR Value T:=fun h₀ g h t x=>Am P h₀ g h t x
noncomputable def im (P:Pg)(g:Gh)(h:Heap)(t:T)(x:Value):Prop:=Rp P g h t x\/∃a,x=.ref a/\(g.O a\/¬g.Z a)/\gP P g h a t
noncomputable abbrev RX (P:Pg):RR Value T:=fun _ g h t x=>im P g h t x
noncomputable abbrev RL (P:Pg):RR (List Value) (List T):=fun _ g h t x=>aO P g h t x
noncomputable abbrev RQ {α:Type}:RR α α:=fun _ _ _ t x=>t=x
noncomputable abbrev aq (P:Pg)(B:br)(C:Ct)(e:Expr)(p:PE)(R:RR Value T):Prop:=dB P B C (P.W fun env=>eval e env) p R
noncomputable abbrev cn (P:Pg)(B:br)(C:Ct)(e:Expr)(p:PT):Prop:=dB P B C (P.W fun env=>isTrue e env (eval e env)) p RQ
structure gp (P:Pg) (B:br) (C:Ct) (es:List Expr) (p:PL):Prop where
 pl:∀env,∀q∈starEach es env,q.1=false
 sim:∀pos,dB P B C (P.W fun env=>spliced (backTo pos (starEach es env))) p (RL P)
section
variable {P:Pg} {B:br} {C:Ct} {n:Nat} {A:Around} {env:Env} {g g':Gh} {ρ:aZ} {σ σ':Sg} {s s':Shared} {h h':Heap} {t:T} {x:Value}
theorem be {l:List (Str×Addr)}{x:Str}{c:Addr}(h:l.lookup x=some c):c∈l.map (·.2):=by
 induction l with
 |nil=>cases h
 |cons p r ih=>
  obtain ⟨y,d⟩:=p
  rw [lookup_cons] at h
  split at h
  .cases h;exact mem_cons_self
  .exact mem_cons_of_mem _ (ih h)
theorem cZ.move {i:Nat}{u:Value}(k:∀a∈Mine.own env,∀o,h.get? a=some o->h'.get? a=some o)(v:cZ B env h i u):cZ B env h' i u:=by
 cases v with
 |loc x m t n e=>exact .loc x m t (n.at (k _ mem_cons_self)) e
 |cel x kk c t hk l n=>
  obtain ⟨o,e,d⟩:=n
  exact .cel x kk c t hk l ⟨o,k c (mem_cons_of_mem _ (be l)) o e,d⟩
theorem bw.move {i:Nat}{u:Value}(k:aR g h g' h')(eo:g'.o=g.o)(es:g'.sa=g.sa)(ko:∀a,g.O a->∀o,h.get? a=some o->h'.get? a=some o)(v:bw P C g h i t u):bw P C g' h' i t u:=by
 unfold bw at *
 cases q:bi C i with
 |true=>rw [q] at v;exact let ⟨a,e,o,r⟩:=v;⟨a,e,eo▸o,r.mono k (ko a ⟨i,o⟩)⟩
 |false=>rw [q] at v;exact v.imp (·.mono k) fun ⟨a,b,c,d⟩=>⟨a,b,c,es▸d⟩
theorem bZ.move (x:bZ P B C env g ρ h)(k:aR g h g' h')(eo:g'.o=g.o)(es:g'.sa=g.sa)(ko:∀a,g.O a\/a∈Mine.own env->∀o,h.get? a=some o->h'.get? a=some o)(lv:∀a∈Mine.own env,h'.get? a≠none/\¬g'.F a/\¬g'.Z a):bZ P B C env g' ρ h':=
 {x with
  ns:=let ⟨m,n⟩:=x.ns;⟨m,n.at (ko _ (.inr mem_cons_self))⟩
  cell:=fun i y kk ht hk=>let ⟨c,u,l,o,e,d⟩:=x.cell i y kk ht hk;⟨c,u,l,o,ko c (.inr (mem_cons_of_mem _ (be l))) o e,d⟩
  own:=fun a ha=>⟨(lv a ha).1,(lv a ha).2.1,(lv a ha).2.2,fun ⟨i,q⟩=>(x.own a ha).2.2.2 ⟨i,eo▸q⟩⟩
  var:=fun i y t ht hv=>let ⟨u,v,w⟩:=x.var i y t ht hv;⟨u,v.move fun a ha=>ko a (.inr ha),w.move k eo es fun a ha=>ko a (.inl ha)⟩}
theorem aH.live (p:aH g s g' s'){a:Addr}(l:s.heap.get? a≠none):s'.heap.get? a≠none:=fun q=>l (p.back a q)
theorem bZ.post (x:bZ P B C env g ρ s.heap)(w:bj P g s.heap σ)(p:aH g s g' s'):bZ P B C env g' ρ s'.heap:=
 x.move (p.k w) p.o p.sa (fun a ha o e=>p.keep a o e (ha.elim (fun q=>(w.O a q).2.2) fun q=>(x.own a q).2.2.1)) fun a ha=>let ⟨l,f,z,_⟩:=x.own a ha;⟨p.live l,fun q=>(p.Fn a q).elim f l,fun q=>(p.Zn a q).elim z l⟩
theorem At.post (X:At P B C n A env g ρ σ s)(p:aH g s g' s')(w:bj P g' s'.heap σ'):At P B C n A env g' ρ σ' s':=⟨X.good,X.call,X.room,X.env.post X.g p,w⟩
theorem At.units (X:At P B C n A env g ρ σ s):A.units+200 < cLine:=lt_of_le_of_lt (Nat.add_le_add_right (le_add_right _ _) _) X.room.2.1
theorem At.depth (X:At P B C n A env g ρ σ s):A.depth+10 < recursionLimit:=lt_of_le_of_lt (Nat.add_le_add_right (le_add_right _ _) _) X.room.1
theorem im.post (w:bj P g s.heap σ)(p:aH g s g' s')(r:im P g s.heap t x):im P g' s'.heap t x:=
 r.imp (·.mono (p.k w)) fun ⟨a,e,q,r⟩=>⟨a,e,q.imp (fun ⟨i,q⟩=>⟨i,p.o▸q⟩) fun z q=>(p.Zn a q).elim z r.live,r.mono (p.k w) fun o e=>p.keep a o e (q.elim (fun q=>(w.O a q).2.2) id)⟩
theorem dB.map {α j:Type}{W W':WP α}{p:PG j}{R:RR α j}(h:dB P B C W p R)(hW:∀A env Q E s,W A env Q E s->W' A env Q E s):dB P B C W' p R:=fun n A env g ρ σ s k Q E X hb hq=>hW A env Q E s (h n A env g ρ σ s k Q E X hb hq)
theorem dB.weak {α j:Type}{W:WP α}{p:PG j}{R R':RR α j}(h:dB P B C W p R)(hR:∀h g h' t x,R h g h' t x->R' h g h' t x):dB P B C W p R':=fun n A env g ρ σ s k Q E X hb hq=>h n A env g ρ σ s k Q E X hb fun x s' g' t σ' e p w r=>hq x s' g' t σ' e p w (hR _ _ _ _ _ r)
theorem dB.vx {W:WP Value}{p:PE}(h:dB P B C W p (RV P)):dB P B C W p (RX P):=h.weak fun _ _ _ _ _ r=>.inl r
theorem dB.nx {W:WP Value}{p:PE}(h:dB P B C W p (RN P)):dB P B C W p (RX P):=h.weak fun _ _ _ _ _ r=>let ⟨a,e,_,_,z,_,r⟩:=r;.inr ⟨a,e,.inr z,r⟩
theorem bj.freeze {a:Addr}(w:bj P g h σ)(l:h.get? a≠none)(z:¬g.Z a)(o:¬g.O a):bj P {g with F:=fun y=>g.F y\/y=a} h σ:=by
 have kf:aR g h {g with F:=fun y=>g.F y\/y=a} h:=⟨fun b f=>⟨.inl f,fun _ e=>e⟩,rfl⟩
 exact ⟨fun b o e=>⟨.inl (w.base b o e).1,(w.base b o e).2⟩,fun b f=>f.elim (w.F b) fun q=>q▸l,fun b q=>⟨(w.Z b q).1,fun f=>f.elim (w.Z b q).2 fun e=>z (e▸q)⟩,
  fun b q=>⟨(w.O b q).1,fun f=>f.elim (w.O b q).2.1 fun e=>o (e▸q),(w.O b q).2.2⟩,w.oo,w.spot,fun c ts e=>(w.self c ts e).mono kf (fun _ q=>⟨q,fun _ e=>e⟩) rfl⟩
theorem dB.nv {W:WP Value}{p:PE}(h:dB P B C W p (RN P)):dB P B C W p (RV P):=fun n A env g ρ σ s k Q E X hb hq=>h n A env g ρ σ s k Q E X hb fun x s' g' t σ' e p w r=>by
 obtain ⟨a,rfl,n,f,z,o,r⟩:=r
 have kf:aR g' s'.heap {g' with F:=fun y=>g'.F y\/y=a} s'.heap:=⟨fun b f=>⟨.inl f,fun _ e=>e⟩,rfl⟩
 exact hq _ s' {g' with F:=fun y=>g'.F y\/y=a} t σ' e ⟨p.st,p.keep,p.back,fun b f=>.inl (p.F b f),fun b f=>f.elim (p.Fn b) fun e=>.inr (e▸n),p.Zn,p.o,p.sp,p.sa⟩ (w.freeze r.live z o) ((r.mono kf fun _ e=>e).rp (.inr rfl))
theorem dB.now {α j:Type}{W:WP α}{p:PG j}{R:RR α j}(h:∀n A env g ρ σ s (k:PK j) (Q:α->Shared->Prop) (E:Value->Shared->Prop),At P B C n A env g ρ σ s->p (P.cx n) ρ σ k≠.bad->(∀x t tk,p (P.cx n) ρ σ k=k t σ->R s.heap g s.heap t x->Q x {s with toks:=tk})->W A env Q E s):dB P B C W p R:=
 fun n A env g ρ σ s k Q E X hb hq=>h n A env g ρ σ s k Q E X hb fun x t tk e r=>hq x _ g t σ e (.toks g s tk) X.g r
end
noncomputable def Dn {α j:Type}(R:RR α j):Prop:=∀h ha g h' t x,(∀a,ha.get? a=none->h.get? a=none)->R ha g h' t x->R h g h' t x
section
variable {P:Pg} {B:br} {C:Ct}
theorem jt:Dn (RV P):=fun _ _ _ _ _ _ _ r=>r
theorem GY:Dn (RX P):=fun _ _ _ _ _ _ _ r=>r
theorem GP:Dn (RL P):=fun _ _ _ _ _ _ _ r=>r
theorem CU {α:Type}:Dn (RQ (α:=α)):=fun _ _ _ _ _ _ _ r=>r
theorem Cn:Dn (RN P):=fun _ _ _ _ _ _ b r=>let ⟨a,e,n,f,z,o,r⟩:=r;⟨a,e,b a n,f,z,o,r⟩
theorem dB.bind {α j d Y:Type}{W:WP α}{p:PG j}{R:RR α j}{N:Around->Env->α->(d->Shared->Prop)->(Value->Shared->Prop)->Shared->Prop}{F:iK->aZ->PK Y->PK j}{R':RR d Y}(h:dB P B C W p R)(hd:Dn R')
  (hf:∀n A env g g1 ρ σ s s₁ x t (k:PK Y) Q E,aH g s g1 s₁->At P B C n A env g1 ρ σ s₁->R s.heap g1 s₁.heap t x->F (P.cx n) ρ k t σ≠.bad->
   (∀y s' g' u σ',F (P.cx n) ρ k t σ=k u σ'->aH g1 s₁ g' s'->bj P g' s'.heap σ'->R' s₁.heap g' s'.heap u y->Q y s')->N A env x Q E s₁):
  dB P B C (fun A env Q E s=>W A env (fun x s₁=>N A env x Q E s₁) E s) (fun c ρ σ k=>p c ρ σ (F c ρ k)) R':=fun n A env g ρ σ s k Q E X hb hq=>
 h n A env g ρ σ s (F _ ρ k) _ E X hb fun x s₁ g1 t σ₁ e p w r=>hf n A env g g1 ρ σ₁ s s₁ x t k Q E p (X.post p w) r (fun q=>hb (e.trans q)) fun y s' g' u σ' e' p' w' r'=>hq y s' g' u σ' (e.trans e') (p.trans p') w' (hd _ _ _ _ _ _ p.back r')
theorem bV {α:Type}{o:Option α}{σ:Sg}{k:PK α}(h:up o σ k≠.bad):∃a,o=some a:=by
 cases o with
 |none=>exact absurd rfl h
 |some a=>exact ⟨a,rfl⟩
noncomputable def dY (P:Pg)(g:Gh)(h:Heap)(t:T)(x:Value):Prop:=Rp P g h t x\/∃a,x=.ref a/\gP P g h a t
theorem im.y {g:Gh}{h:Heap}{t:T}{x:Value}(r:im P g h t x):dY P g h t x:=r.imp id fun ⟨a,e,_,r⟩=>⟨a,e,r⟩
noncomputable abbrev RY (P:Pg):RR Value T:=fun _ g h t x=>dY P g h t x
theorem dB.xy {W:WP Value}{p:PE}(h:dB P B C W p (RX P)):dB P B C W p (RY P):=h.weak fun _ _ _ _ _=>im.y
structure Rm (A:Around):Prop where
 units:A.units+200 < cLine
 handled:A.handled=none
 depth:A.depth+10 < recursionLimit
theorem At.rm {n:Nat}{A:Around}{env:Env}{g:Gh}{ρ:aZ}{σ:Sg}{s:Shared}(X:At P B C n A env g ρ σ s):Rm A:=⟨X.units,X.room.2.2,X.depth⟩
noncomputable abbrev W1 (d:Type):=Around->Env->Value->(d->Shared->Prop)->(Value->Shared->Prop)->Shared->Prop
noncomputable abbrev W2 (d:Type):=Around->Env->Value->Value->(d->Shared->Prop)->(Value->Shared->Prop)->Shared->Prop
noncomputable def vt (P:Pg){d Y:Type}(N:W1 d)(F:T->Option Y)(R:RR d Y):Prop:=
 ∀A env g σ s x t y Q E,Rm A->bj P g s.heap σ->dY P g s.heap t x->F t=some y->(∀u s' g',aH g s g' s'->bj P g' s'.heap σ->R s.heap g' s'.heap y u->Q u s')->N A env x Q E s
noncomputable def pK (P:Pg){d Y:Type}(N:W2 d)(F:T->T->Option Y)(R:RR d Y):Prop:=
 ∀A env g σ s x x' t t' y Q E,Rm A->bj P g s.heap σ->dY P g s.heap t x->dY P g s.heap t' x'->F t t'=some y->(∀u s' g',aH g s g' s'->bj P g' s'.heap σ->R s.heap g' s'.heap y u->Q u s')->N A env x x' Q E s
theorem dB.op1 {d Y:Type}{W:WP Value}{p:PE}{N:W1 d}{F:T->Option Y}{R:RR d Y}(h:dB P B C W p (RY P))(hd:Dn R)(o:vt P N F R):dB P B C (fun A env Q E s=>W A env (fun x s₁=>N A env x Q E s₁) E s) (p1 F p) R:=
 h.bind (F:=fun _ _ k t σ=>up (F t) σ k) hd fun n A env g g1 ρ σ s s₁ x t k Q E p X r hb hq=>by
  obtain ⟨y,e⟩:=bV hb
  exact o A env g1 σ s₁ x t y Q E X.rm X.g r e fun u s' g' p w r=>hq u s' g' y σ (by rw [e];rfl) p w r
theorem dB.op2 {d Y:Type}{W W':WP Value}{p p':PE}{N:W2 d}{F:T->T->Option Y}{R:RR d Y}(h:dB P B C W p (RX P))(h':dB P B C W' p' (RY P))(hd:Dn R)(o:pK P N F R):
  dB P B C (fun A env Q E s=>W A env (fun x s₁=>W' A env (fun y s2=>N A env x y Q E s2) E s₁) E s) (p2 F p p') R:=
 h.bind (N:=fun A env x Q E s₁=>W' A env (fun y s2=>N A env x y Q E s2) E s₁) (F:=fun c ρ k a σ=>p' c ρ σ fun b σ=>up (F a b) σ k) hd fun n A env g g1 ρ σ s s₁ x t k Q E p X r hb hq=>
  h' n A env g1 ρ σ s₁ _ _ E X hb fun x' s2 g2 t' σ₂ e pa w2 r2=>by
   obtain ⟨y,e'⟩:=bV fun q=>hb (e.trans q)
   exact o A env g2 σ₂ s2 x x' t t' y Q E X.rm w2 (im.post X.g pa r).y r2 e' fun u s' g' p w r=>hq u s' g' y σ₂ (e.trans (by rw [e'];rfl)) (pa.trans p) w (hd _ _ _ _ _ _ pa.back r)
theorem aq.none {k pos}:aq P B C (.Constant .none k pos) (pC .none) (RV P):=.now fun _ _ _ _ _ _ _ _ _ _ _ _ hq=>wpAny_Constant_none (hq _ _ _ rfl rfl)
theorem aq.bool {b k pos}:aq P B C (.Constant (.bool b) k pos) (pC (.bool b)) (RV P):=.now fun _ _ _ _ _ _ _ _ _ _ _ _ hq=>wpAny_Constant_bool (hq _ _ _ rfl rfl)
theorem aq.int {i k pos}:aq P B C (.Constant (.int i) k pos) (pC (.int i)) (RV P):=.now fun _ _ _ _ _ _ _ _ _ _ _ _ hq=>wpAny_Constant_int (hq _ _ _ rfl ⟨_,rfl⟩)
theorem aq.str {y k pos}(h:(PyData.strOk y&&decide (y.length<=lim))=true):aq P B C (.Constant (.str y) k pos) (pC (.str y)) (RV P):=.now fun _ _ _ _ _ _ _ _ _ _ _ _ hq=>
 have h':=af h
 wpAny_Constant_str (hq _ _ _ rfl ⟨⟨h'.1,of_decide_eq_true h'.2⟩,_,rfl⟩)
theorem br.look {B:br}(h:B.ok=true){i:Nat}{x:Str}{k:NameKind}(ht:B.tab[i]?=some (some (x,k))):
  B.sc.kind=.function/\B.sc.names.lookup x=some k/\(k=.local\/k=.cell\/k=.free)/\(x==("__debug__":Str))=false/\(x==("__classdict__":Str))=false:=by
 simp only [br.ok,and_eq_true,beq_iff_eq] at h
 have:=aB h.1.2 _ (mem_of_getElem? ht)
 simp only [and_eq_true,beq_iff_eq,or_eq_true,not_eq_true'] at this
 exact ⟨h.1.1,this.1.1.1,this.1.1.2.elim (fun q=>q.imp_right .inl) fun q=>.inr (.inr q),this.1.2,this.2⟩
theorem bh {n:Nat}{A:Around}{env:Env}{g:Gh}{ρ:aZ}{σ:Sg}{s:Shared}{i:Nat}{y:Str}{u:Value}{k:NameKind}{pos:Pos}{Q:Value->Shared->Prop}{E:Value->Shared->Prop}(X:At P B C n A env g ρ σ s)(ht:B.tab[i]?=some (some (y,k)))(v:cZ B env s.heap i u)(hq:Q u s):
  wpAny P.M A (eval (.Name y pos) env) Q E s:=by
 obtain ⟨h1,h2,h3,h4,h5⟩:=br.look X.env.ok ht
 have hk:env.scope.kind=.function:=X.env.sc▸h1
 cases v with
 |loc x m t n e=>
  rw [t] at ht;cases ht
  exact wpAny_Name (wpAny_loadName_local hk (show env.scope.names.lookup y=_ from X.env.sc▸h2) n e hq) h4
 |cel x k c t hk' l n=>
  rw [t] at ht;cases ht
  rcases hk' with rfl |rfl
  .exact wpAny_Name (wpAny_loadName_cell hk (show env.scope.names.lookup y=_ from X.env.sc▸h2) l n hq) h4
  .exact wpAny_Name (wpAny_loadName_free hk (show env.scope.names.lookup y=_ from X.env.sc▸h2) l n hq h5) h4
theorem aq.name {i:Nat}{y:Str}{k:NameKind}{pos:Pos}{R:RR Value T}(ht:B.tab[i]?=some (some (y,k)))(h:∀g h t u,bw P C g h i t u->R h g h t u):aq P B C (.Name y pos) (pV i) R:=.now fun n A env g ρ σ s k Q E X hb hq=>by
 obtain ⟨t,e⟩:=bV hb
 obtain ⟨u,v,w⟩:=X.env.var i _ t ht e
 exact bh X ht v (hq u t s.toks (by rw [pV,e];rfl) (h _ _ _ _ w))
noncomputable def iO (C:Ct)(i:Nat):Bool:=!bi C i&&(!C.m||!Nat.beq i 0)
theorem iN {g:Gh}{h:Heap}{i:Nat}{t:T}{u:Value}(hv:iO C i=true)(v:bw P C g h i t u):Rp P g h t u:=by
 obtain ⟨h1,h2⟩:=af hv
 unfold bw at v
 cases q:bi C i with
 |true=>rw [q] at h1;cases h1
 |false=>
  rw [q] at v
  refine v.elim id fun ⟨a,b,_⟩=>?_
  subst b;rw [a] at h2;cases h2
theorem aq.var {i:Nat}{y:Str}{k:NameKind}{pos:Pos}(hv:iO C i=true)(ht:B.tab[i]?=some (some (y,k))):aq P B C (.Name y pos) (pV i) (RV P):=.name ht fun _ _ _ _=>iN hv
theorem aq.own {i:Nat}{y:Str}{k:NameKind}{pos:Pos}(hv:bi C i=true)(ht:B.tab[i]?=some (some (y,k))):aq P B C (.Name y pos) (pV i) (RX P):=.name ht fun _ _ _ _ v=>by
 unfold bw at v
 rw [hv] at v
 exact let ⟨a,e,o,r⟩:=v;.inr ⟨a,e,.inl ⟨i,o⟩,r⟩
theorem At.fn {n:Nat}{A:Around}{env:Env}{g:Gh}{ρ:aZ}{σ:Sg}{s:Shared}(X:At P B C n A env g ρ σ s):env.scope.kind=.function:=by
 have:=X.env.ok
 simp only [br.ok,and_eq_true,beq_iff_eq] at this
 exact X.env.sc▸this.1.1
theorem At.glob {n:Nat}{A:Around}{env:Env}{g:Gh}{ρ:aZ}{σ:Sg}{s:Shared}(X:At P B C n A env g ρ σ s){x:Str}{pos:Pos}{v:Value}{Q:Value->Shared->Prop}{E:Value->Shared->Prop}(hx:B.sc.names.lookup x=some .globalImplicit)(hd:(x==("__debug__":Str))=false)
  (hv:P.mg x=some v)(h:Q v s):wpAny P.M A (eval (.Name x pos) env) Q E s:=
 Calls.Name_function_global X.fn (show env.scope.names.lookup x=_ from X.env.sc▸hx) (Calls.loadGlobal_global (mg:=P.mg) (X.env.glob▸X.good.g.keeps fun a o e=>(X.g.base a o e).2) hv h) hd
theorem aq.gconst {y:Str}{t:T}{pos:Pos}(hx:B.sc.names.lookup y=some .globalImplicit)(hd:(y==("__debug__":Str))=false)(hv:∃u,P.mg y=some u/\∀g h,Rp P g h t u):aq P B C (.Name y pos) (pC t) (RV P):=.now fun n A env g ρ σ s k Q E X hb hq=>
 let ⟨u,h1,h2⟩:=hv;X.glob hx hd h1 (hq u t s.toks rfl (h2 _ _))
noncomputable abbrev Ak (P:Pg)(op:Value->Value->Sem Value):W2 Value:=fun A _ x y Q E s=>wpAny P.M A (op x y) Q E s
noncomputable abbrev CG (P:Pg)(op:Value->Sem Value):W1 Value:=fun A _ x Q E s=>wpAny P.M A (op x) Q E s
theorem aq.bin {l r:Expr}{op:Operator}{pos:Pos}{pl pr:PE}{F:T->T->Option T}{R:RR Value T}(hd:Dn R)(o:pK P (Ak P (binaryOp op)) F R)(hl:aq P B C l pl (RX P))(hr:aq P B C r pr (RX P)):aq P B C (.BinOp l op r pos) (p2 F pl pr) R:=
 (hl.op2 hr.xy hd o).map fun _ _ _ _ _=>wpAny_BinOp
noncomputable def iH (P:Pg)(op:CmpOp)(F:T->T->Option Bool):Prop:=
 ∀A g σ s x x' t t' b Q E,Rm A->bj P g s.heap σ->dY P g s.heap t x->dY P g s.heap t' x'->F t t'=some b->(∀tk,Q (.bool b) {s with toks:=tk})->wpAny P.M A (compareOp op x x') Q E s
theorem iH.e {op:CmpOp}{F:T->T->Option Bool}(o:iH P op F):pK P (Ak P (compareOp op)) (fun a b=>(F a b).map T.bool) (RV P):=fun A env g σ s x x' t t' y Q E rm w r r' e hq=>by
 obtain ⟨b,e1,rfl⟩:=av e
 exact o A g σ s x x' t t' b Q E rm w r r' e1 fun tk=>hq _ _ g (.toks g s tk) w rfl
theorem iH.t {op:CmpOp}{F:T->T->Option Bool}(o:iH P op F):pK P (fun A _ x y Q E s=>wpAny P.M A (compareOp op x y) (fun v s₁=>wpAny P.M A (truthy v) Q E s₁) E s) F RQ:=fun A env g σ s x x' t t' b Q E rm w r r' e hq=>
 o A g σ s x x' t t' b _ E rm w r r' e fun tk=>wpAny_truthy_bool (hq b _ g (.toks g s tk) w rfl)
theorem Ba {α j:Type}(o:Option α)(f:α->j)(σ:Sg)(k:PK j):up (o.map f) σ k=up o σ fun a σ=>k (f a) σ:=by cases o<;>rfl
theorem dB.eq {α j:Type}{W:WP α}{p p':PG j}{R:RR α j}(h:dB P B C W p R)(e:p=p'):dB P B C W p' R:=e▸h
theorem aq.cmp {l r:Expr}{op:CmpOp}{pos:Pos}{pl pr:PE}{F:T->T->Option Bool}(o:iH P op F)(hm:behindInMarks op r=false)(hl:aq P B C l pl (RX P))(hr:aq P B C r pr (RX P)):aq P B C (.Compare l [op] [r] pos) (pB (p2 F pl pr)) (RV P):=
 ((hl.op2 hr.xy jt o.e).map fun _ _ _ _ _ h=>wpAny_Compare1 h hm).eq (by unfold p2 pB;simp only [Ba])
theorem cn.cmpY {l r:Expr}{op:CmpOp}{pos:Pos}{pl pr:PE}{F:T->T->Option Bool}(o:iH P op F)(hm:behindInMarks op r=false)(hl:aq P B C l pl (RX P))(hr:aq P B C r pr (RY P)):cn P B C (.Compare l [op] [r] pos) (p2 F pl pr):=
 (hl.op2 hr CU o.t).map fun _ _ _ _ _ h=>wpAny_isTrue_Compare1 h hm
theorem cn.cmp {l r:Expr}{op:CmpOp}{pos:Pos}{pl pr:PE}{F:T->T->Option Bool}(o:iH P op F)(hm:behindInMarks op r=false)(hl:aq P B C l pl (RX P))(hr:aq P B C r pr (RX P)):cn P B C (.Compare l [op] [r] pos) (p2 F pl pr):=.cmpY o hm hl hr.xy
theorem gt {A:Around}{g:Gh}{h:Heap}{s:Shared}{t:T}{x:Value}{b:Bool}{Q:Bool->Shared->Prop}{E:Value->Shared->Prop}(r:dY P g h t x)(ht:eE t=some b)(k:Q b s):wpAny P.M A (truthy x) Q E s:=by
 cases t with
 |none=>cases ht;exact r.elim (fun r=>(show x=_ from r)▸fun _ _ _=>k) fun ⟨_,_,r⟩=>r.elim
 |bool c=>cases ht;exact r.elim (fun r=>(show x=_ from r)▸wpAny_truthy_bool k) fun ⟨_,_,r⟩=>r.elim
 |int i=>cases ht;exact r.elim (fun ⟨_,r⟩=>r▸PySem.P.truthy_int k) fun ⟨_,_,r⟩=>r.elim
 |_=>cases ht
theorem cn.val {e:Expr}{p:PE}(h:aq P B C e p (RX P))(he:∀env whole,isTrue e env whole=(do let v <-whole;standAt e.pos;holding [v] (truthy v))):cn P B C e (qE p):=
 (h.xy.op1 (N:=fun A _ x Q E s=>wpAny P.M A (truthy x) Q E s) CU fun A env g σ s x t b Q E rm w r e hq=>gt r e (hq b s g (.refl g s) w rfl)).map fun A env Q E s h=>wpAny_isTrue_value h (he env _)
theorem cn.not {e:Expr}{p:PT}{pos:Pos}(h:cn P B C e p):cn P B C (.UnaryOp .Not e pos) (cW p):=
 (h.bind (N:=fun A _ b Q E s=>Q (!b) s) (F:=fun _ _ k b σ=>k (!b) σ) (R':=RQ) CU fun n A env g g1 ρ σ s s₁ x t k Q E p X r hb hq=>hq _ s₁ g1 _ σ rfl (.refl _ _) X.g (congrArg Bool.not r)).map fun _ _ _ _ _=>wpAny_isTrue_Not
noncomputable abbrev hY (P:Pg)(B:br)(C:Ct)(op:BoolOp)(es:List Expr)(p:PT):Prop:=dB P B C (P.W fun env=>allTrue op es env) p RQ
theorem hY.andNil:hY P B C .And [] b9:=.now fun _ _ _ _ _ _ _ _ _ _ _ _ hq=>wpAny_allTrue_And_nil (hq _ _ _ rfl rfl)
theorem hY.orNil:hY P B C .Or [] cj:=.now fun _ _ _ _ _ _ _ _ _ _ _ _ hq=>wpAny_allTrue_Or_nil (hq _ _ _ rfl rfl)
theorem dB.ite {α j:Type}{W:WP Bool}{p:PT}{W1 W2:WP α}{p1 p2:PG j}{R:RR α j}(h:dB P B C W p RQ)(hd:Dn R)(h1:dB P B C W1 p1 R)(h2:dB P B C W2 p2 R):
  dB P B C (fun A env Q E s=>W A env (fun b s₁=>match b with |true=>W1 A env Q E s₁ |false=>W2 A env Q E s₁) E s) (fun c ρ σ k=>p c ρ σ fun b σ=>bif b then p1 c ρ σ k else p2 c ρ σ k) R:=
 h.bind (N:=fun A env b Q E s₁=>match b with |true=>W1 A env Q E s₁ |false=>W2 A env Q E s₁) (F:=fun c ρ k b σ=>bif b then p1 c ρ σ k else p2 c ρ σ k) hd fun n A env g g1 ρ σ s s₁ x t k Q E p X r hb hq=>by
  cases r
  cases x with
  |true=>exact h1 n A env g1 ρ σ s₁ k Q E X hb hq
  |false=>exact h2 n A env g1 ρ σ s₁ k Q E X hb hq
theorem dB.yes {j:Type}{t:j}:dB P B C (fun A env Q E s=>Q t s) (fun _ _ σ k=>k t σ) RQ:=.now fun _ _ _ _ _ _ _ _ _ _ _ _ hq=>hq _ _ _ rfl rfl
theorem hY.and {e:Expr}{es:List Expr}{p ps:PT}(h:cn P B C e p)(hs:hY P B C .And es ps):hY P B C .And (e::es) (yS p ps):=
 (h.ite CU hs (.yes (t:=false))).map fun A env Q E s h=>wpAny_allTrue_And_cons (wpAny_mono h (fun b s h=>by cases b<;>exact h) fun _ _ h=>h)
theorem hY.or {e:Expr}{es:List Expr}{p ps:PT}(h:cn P B C e p)(hs:hY P B C .Or es ps):hY P B C .Or (e::es) (gq p ps):=
 (h.ite CU (.yes (t:=true)) hs).map fun A env Q E s h=>wpAny_allTrue_Or_cons (wpAny_mono h (fun b s h=>by cases b<;>exact h) fun _ _ h=>h)
theorem cn.boolOp {op:BoolOp}{es:List Expr}{p:PT}{pos:Pos}(h:hY P B C op es p):cn P B C (.BoolOp op es pos) p:=h.map fun _ _ _ _ _=>wpAny_isTrue_BoolOp
theorem aq.ifExp {t b o:Expr}{pt:PT}{pb po:PE}{pos:Pos}{R:RR Value T}(hd:Dn R)(ht:cn P B C t pt)(h1:aq P B C b pb R)(h2:aq P B C o po R):aq P B C (.IfExp t b o pos) (EG pt pb po) R:=
 (ht.ite hd h1 h2).map fun A env Q E s h=>wpAny_IfExp (wpAny_mono h (fun b s h=>by cases b<;>exact h) fun _ _ h=>h)
theorem aq.not {e:Expr}{p:PE}{pos:Pos}(h:aq P B C e p (RX P)):aq P B C (.UnaryOp .Not e pos) (mL p) (RV P):=
 (h.xy.op1 (N:=CG P (unaryOp .Not)) jt fun A env g σ s x t y Q E rm w r e hq=>by
  obtain ⟨b,e1,rfl⟩:=av e
  exact not_value (gt r e1 (hq _ s g (.refl g s) w rfl))).map fun _ _ _ _ _=>wpAny_UnaryOp
noncomputable abbrev iF (P:Pg)(B:br)(C:Ct)(op:BoolOp)(es:List Expr)(p:PE):Prop:=∀pos,dB P B C (P.W fun env=>boolOp pos op (evalEach es env)) p (RV P)
theorem iF.one {op:BoolOp}{e:Expr}{p:PE}(h:aq P B C e p (RV P)):iF P B C op [e] p:=fun _=>h
theorem iF.and {e e':Expr}{es:List Expr}{p ps:PE}(h:aq P B C e p (RV P))(hs:iF P B C .And (e'::es) ps):iF P B C .And (e::e'::es) (eX p ps):=fun pos=>
 (h.bind (N:=fun A env v Q E s=>wpAny P.M A (do standAt pos;let t <-holding [v] (truthy v);match BoolOp.And,t with |.And,false |.Or,true=>pure v |_,_=>boolOp pos .And (evalEach (e'::es) env)) Q E s)
  (F:=fun cx ρ k v σ=>match eE v with |some true=>ps cx ρ σ k |some false=>k v σ |none=>.bad) (R':=RV P) jt fun n A env g g1 ρ σ s s₁ x t k Q E p X r hb hq=>by
   cases e:eE t with
   |none=>rw [e] at hb;exact absurd rfl hb
   |some b=>
    rw [e] at hb hq
    refine wpAny_bind (wpAny_standAt (wpAny_bind (wpAny_holding (gt (.inl r) e ?_))))
    cases b with
    |true=>exact hs pos n A env g1 ρ σ s₁ k Q E X hb hq
    |false=>exact wpAny_pure (hq x s₁ g1 t σ rfl (.refl _ _) X.g r)).map fun _ _ _ _ _=>wpAny_bind
theorem iF.or {e e':Expr}{es:List Expr}{p ps:PE}(h:aq P B C e p (RV P))(hs:iF P B C .Or (e'::es) ps):iF P B C .Or (e::e'::es) (wj p ps):=fun pos=>
 (h.bind (N:=fun A env v Q E s=>wpAny P.M A (do standAt pos;let t <-holding [v] (truthy v);match BoolOp.Or,t with |.And,false |.Or,true=>pure v |_,_=>boolOp pos .Or (evalEach (e'::es) env)) Q E s)
  (F:=fun cx ρ k v σ=>match eE v with |some true=>k v σ |some false=>ps cx ρ σ k |none=>.bad) (R':=RV P) jt fun n A env g g1 ρ σ s s₁ x t k Q E p X r hb hq=>by
   cases e:eE t with
   |none=>rw [e] at hb;exact absurd rfl hb
   |some b=>
    rw [e] at hb hq
    refine wpAny_bind (wpAny_standAt (wpAny_bind (wpAny_holding (gt (.inl r) e ?_))))
    cases b with
    |false=>exact hs pos n A env g1 ρ σ s₁ k Q E X hb hq
    |true=>exact wpAny_pure (hq x s₁ g1 t σ rfl (.refl _ _) X.g r)).map fun _ _ _ _ _=>wpAny_bind
theorem aq.boolOp {op:BoolOp}{es:List Expr}{p:PE}{pos:Pos}(h:iF P B C op es p):aq P B C (.BoolOp op es pos) p (RV P):=h pos
theorem gp.nil:gp P B C [] ar:=⟨(fun _ _ q=>nomatch q),fun pos=>dB.now fun _ _ _ _ _ _ _ _ _ _ _ _ hq=>wpAny_items_nil (hq _ _ _ rfl rfl)⟩
theorem gp.cons {e:Expr}{es:List Expr}{p:PE}{ps:PL}(hn:∀env,starEach (e::es) env=(false,eval e env)::starEach es env)(h:aq P B C e p (RV P))(hs:gp P B C es ps):gp P B C (e::es) (ab p ps):=⟨fun env q hq=>by
 rw [hn] at hq
 cases hq with
 |head=>rfl
 |tail _ hq=>exact hs.pl env q hq,fun pos=>
 (h.bind (N:=fun A env v Q E s=>wpAny P.M A (spliced (backTo pos (starEach es env))) (fun vs s₁=>Q (v::vs) s₁) E s) (F:=fun c ρ k v σ=>ps c ρ σ fun vs σ=>k (v::vs) σ) (R':=RL P) GP fun n A env g g1 ρ σ s s₁ x t k Q E p X r hb hq=>
  hs.sim pos n A env g1 ρ σ s₁ _ _ E X hb fun xs s2 g2 ts σ₂ e pa w2 r2=>hq _ s2 g2 _ σ₂ e pa w2 (aO.cons (Rp.mono (pa.k X.g) r) r2)).map fun _ env _ _ _ h=>wpAny_items_cons h (hn env)⟩
theorem bb {k:Nat}(h:k<=lim):k<=sizeLine:=le_trans h (by decide)
theorem fT {n:Nat}(h:cm n=true):n<=lim:=le_of_ble_eq_true h
theorem jd {c:Bool}{o:c7}(h:gd c o≠.bad):c=true:=by cases c with
 |true=>rfl
 |false=>exact absurd rfl h
theorem jG {c:Bool}{o:c7}(h:(bif c then o else .bad)≠.bad):c=true:=by cases c with
 |true=>rfl
 |false=>exact absurd rfl h
theorem bO (s:Shared)(ob:Obj):∀a o,s.heap.get? a=some o->(s.heap.push ob).get? a=some o:=fun _ _ e=>Heap.get?_push_of_some _ e
theorem de {g:Gh}{s:Shared}{σ:Sg}(w:bj P g s.heap σ):¬g.F s.heap.objs.size/\¬g.Z s.heap.objs.size/\¬g.O s.heap.objs.size:=⟨fun q=>w.F _ q (aJ _),fun q=>(w.Z _ q).1 (aJ _),fun q=>(w.O _ q).1 (aJ _)⟩
theorem bj.push {g:Gh}{s:Shared}{σ:Sg}(w:bj P g s.heap σ)(ob:Obj):bj P g (s.heap.push ob) σ:=w.grow (bO s ob) g.F (fun _ h=>h) fun _ h=>.inl h
theorem aH.push {g:Gh}{s:Shared}(ob:Obj)(t:Nat):aH g s g {s with heap:=s.heap.push ob,toks:=t}:=.grow t (bO s ob) g.F (fun _ h=>h) fun _ h=>.inl h
theorem bD {h:Heap}(ob:Obj)(hf:ob.isFreed=false:=by rfl):(h.push ob).get? h.objs.size=some ob:=Heap.get?_push_size _ hf
theorem bj.pushF {g:Gh}{s:Shared}{σ:Sg}(w:bj P g s.heap σ)(ob:Obj)(hf:ob.isFreed=false:=by rfl):bj P {g with F:=fun y=>g.F y\/y=s.heap.objs.size} (s.heap.push ob) σ:=w.grow (bO s ob) _ (fun _ h=>.inl h) fun a h=>h.elim .inl fun e=>.inr (e▸⟨aJ _,au (bD ob hf)⟩)
theorem aH.pushF {g:Gh}{s:Shared}(ob:Obj)(t:Nat):aH g s {g with F:=fun y=>g.F y\/y=s.heap.objs.size} {s with heap:=s.heap.push ob,toks:=t}:=.grow t (bO s ob) _ (fun _ h=>.inl h) fun a h=>h.elim .inl fun e=>.inr (e▸aJ _)
theorem rJ {g:Gh}{s:Shared}{σ:Sg}{ts:List T}{xs:List Value}{tk:Nat}(w:bj P g s.heap σ)(r:aO P g s.heap ts xs)(hl:ts.length<=lim){Q:Value->Shared->Prop}(hq:∀u s' g',aH g s g' s'->bj P g' s'.heap σ->Rp P g' s'.heap (.tup ts) u->Q u s'):
  Q (.ref s.heap.objs.size) {s with heap:=s.heap.push (eW xs.toArray 0),toks:=tk}:=
 hq _ _ _ (.pushF _ tk) (w.pushF _) ⟨_,rfl,.inr rfl,_,_,bD _,hl,r.mono ((aH.pushF _ 0).k w)⟩
theorem tA {g:Gh}{s:Shared}{σ:Sg}{ts:List T}{xs:List Value}{tk:Nat}(w:bj P g s.heap σ)(r:aO P g s.heap ts xs)(hl:ts.length<=lim){Q:Value->Shared->Prop}(hq:∀u s' g',aH g s g' s'->bj P g' s'.heap σ->Am P s.heap g' s'.heap (.lst ts) u->Q u s'):
  Q (.ref s.heap.objs.size) {s with heap:=s.heap.push (bm xs.toArray 0),toks:=tk}:=
 hq _ _ _ (.push _ tk) (w.push _) ⟨_,rfl,aJ _,(de w).1,(de w).2.1,(de w).2.2,_,_,bD _,hl,r.mono ((aH.push (bm xs.toArray 0) 0).k w)⟩
theorem aq.tup {es:List Expr}{ps:PL}{k:Nat}{pos:Pos}(h:gp P B C es ps):aq P B C (.Tuple es k pos) (aY ps) (RV P):=
 ((h.sim pos).bind (N:=fun A env xs Q E s=>xs.length<=sizeLine/\Q (.ref s.heap.objs.size) {s with heap:=s.heap.push (eW xs.toArray 0)}) (F:=fun c ρ k vs σ=>bif cm vs.length then k (.tup vs) σ else .bad) (R':=RV P) jt fun n A env g g1 ρ σ s s₁ x t k Q E p X r hb hq=>by
  have hl:=fT (jG hb)
  exact ⟨bb (r.length▸hl),rJ (tk:=s₁.toks) X.g r hl fun u s' g' p w r=>hq u s' g' _ σ (by rw [jG hb];rfl) p w r⟩).map fun _ _ _ _ _=>wpAny_Tuple
theorem aq.list {es:List Expr}{ps:PL}{pos:Pos}(h:gp P B C es ps):aq P B C (.List es pos) (cq ps) (RN P):=
 ((h.sim pos).bind (N:=fun A env xs Q E s=>xs.length<=sizeLine/\Q (.ref s.heap.objs.size) {s with heap:=s.heap.push (bm xs.toArray 0)}) (F:=fun c ρ k vs σ=>bif cm vs.length then k (.lst vs) σ else .bad) (R':=RN P) Cn fun n A env g g1 ρ σ s s₁ x t k Q E p X r hb hq=>by
  have hl:=fT (jG hb)
  exact ⟨bb (r.length▸hl),tA (tk:=s₁.toks) X.g r hl fun u s' g' p w r=>hq u s' g' _ σ (by rw [jG hb];rfl) p w r⟩).map fun _ _ _ _ _=>wpAny_List
end
end
end Mine
namespace Mine
noncomputable section
open PySem PyProof.Rows PySem.SeqAt
section
variable {P:Pg} {B:br} {C:Ct} {g:Gh} {h:Heap} {t:T} {x:Value}
theorem CB {b:Bool}(e:CX t=some b):t=.bool b:=by cases t<;>cases e;rfl
theorem mo {i:Int}(e:iD t=some i):t=.int i:=by cases t<;>cases e;rfl
theorem xU {i:Str}(e:q8 t=some i):t=.str i:=by cases t<;>cases e;rfl
theorem jI {i:List T}(e:q7 t=some i):t=.tup i:=by cases t<;>cases e;rfl
theorem eU {i:List T}(e:gr t=some i):t=.lst i:=by cases t<;>cases e;rfl
theorem CA {i:List Int}(e:CV t=some i):t=.scr i:=by cases t<;>cases e;rfl
theorem dY.v (q:dY P g h t x)(h1:∀a,gP P g h a t->False):Rp P g h t x:=q.elim id fun ⟨a,_,r⟩=>(h1 a r).elim
theorem dY.b {b:Bool}(q:dY P g h t x)(e:CX t=some b):x=.bool b:=by cases CB e;exact q.v fun _ h=>h
theorem dY.i {i:Int}(q:dY P g h t x)(e:iD t=some i):∃p,x=.int i p:=by cases mo e;exact q.v fun _ h=>h
theorem dY.s {s:Str}(q:dY P g h t x)(e:q8 t=some s):(PyData.strOk s=true/\s.length<=lim)/\∃p,x=.str s p:=by cases xU e;exact q.v fun _ h=>h
theorem dY.n {s:List Int}(q:dY P g h t x)(e:CV t=some s):Gn P s x:=by cases CA e;exact q.v fun _ h=>h
theorem dY.tu {ts:List T}(q:dY P g h t x)(e:q7 t=some ts):Fz g (yf h eW (aO P g h ts) ts.length) x:=by cases jI e;exact q.v fun _ h=>h
theorem dY.ls {ts:List T}(q:dY P g h t x)(e:gr t=some ts):∃a,x=.ref a/\yf h bm (aO P g h ts) ts.length a:=by cases eU e;exact q.elim (fun r=>let ⟨a,e,_,o⟩:=r;⟨a,e,o⟩) id
theorem az {α Z:Type}{a:Option α}{f:α->Option Z}{y:Z}(h:o1 a f=some y):∃x,a=some x/\f x=some y:=by
 cases a with
 |none=>cases h
 |some x=>exact ⟨x,rfl,h⟩
theorem aU {α Z Y:Type}{a:Option α}{b:Option Z}{f:α->Z->Option Y}{y:Y}(h:o2 a b f=some y):∃x z,a=some x/\b=some z/\f x z=some y:=by
 cases a with
 |none=>cases h
 |some x=>cases b with
  |none=>cases h
  |some z=>exact ⟨x,z,rfl,rfl,h⟩
structure Rd (h:Heap) (x:Value) (d:PyData) (n:Nat):Prop where
 r:∃as,Reads h x d as
 c:d.canLay0=true
 l:d.depth<=n
structure GR (h:Heap) (x:List Value) (d:List PyData) (n:Nat):Prop where
 r:∃as,ReadsAll h x d as
 c:PyData.canLayAll0 d=true
 l:PyData.depthAll d<=n
theorem dF {f:T->Option PyData}{n:Nat}(ih:∀t x d,f t=some d->Rp P g h t x->Rd h x d n):∀(ts:List T) (xs:List Value) (ds:List PyData),cS f ts=some ds->aO P g h ts xs->GR h xs ds n
 | [],_,_,e,r=>by cases r;cases e;exact ⟨⟨[],.nil⟩,rfl,zero_le _⟩
 |t::ts,_,_,e,⟨x,xs,e',r,rs⟩=>by
  subst e'
  unfold cS at e
  cases hd:f t with
  |none=>rw [hd] at e;cases e
  |some d=>
   rw [hd] at e
   obtain ⟨ds,hds,rfl⟩:=av e
   obtain ⟨⟨as,h1⟩,h2,h3⟩:=ih t x d hd r
   obtain ⟨⟨bs,h4⟩,h5,h6⟩:=dF ih ts xs ds hds rs
   exact ⟨⟨as++bs,.cons h1 h4⟩,and_eq_true_iff.mpr ⟨h2,h5⟩,max_le.mpr ⟨h3,h6⟩⟩
theorem bH:∀n t x d,bR n t=some d->dY P g h t x->Rd h x d n:=by
 have base:∀n t x d,(match t with |.tup _=>False |.lst _=>False |_=>True)->bR n t=some d->dY P g h t x->Rd h x d n:=fun n t x d ht e q=>by
  cases t with
  |none=>cases n<;>cases e<;>(rw [show x=_ from q.v fun _ h=>h];exact ⟨⟨[],.none⟩,rfl,zero_le _⟩)
  |bool b=>cases n<;>cases e<;>(rw [q.b rfl];exact ⟨⟨[],.bool _⟩,rfl,zero_le _⟩)
  |int i=>obtain ⟨p,rfl⟩:=q.i rfl;cases n<;>cases e<;>exact ⟨⟨[],.int _ _⟩,rfl,zero_le _⟩
  |str s=>obtain ⟨⟨h1,_⟩,p,rfl⟩:=q.s rfl;cases n<;>cases e<;>exact ⟨⟨[],.str _ _⟩,h1,zero_le _⟩
  |tup=>exact ht.elim
  |lst=>exact ht.elim
  |_=>cases n<;>cases e
 intro n
 induction n with
 |zero=>
  intro t x d e q
  cases t with
  |tup=>cases e
  |lst=>cases e
  |_=>exact base 0 _ x d trivial e q
 |succ n ih=>
  intro t x d e q
  cases t with
  |tup ts=>
   obtain ⟨ds,hd,rfl⟩:=av e
   obtain ⟨a,rfl,_,vs,m,e1,_,r⟩:=q.tu rfl
   obtain ⟨⟨as,q1⟩,q2,q3⟩:=dF (fun t x d e r=>ih t x d e (.inl r)) ts _ ds hd r
   exact ⟨⟨as,.tuple e1 rfl rfl q1⟩,q2,succ_le_succ q3⟩
  |lst ts=>
   obtain ⟨ds,hd,rfl⟩:=av e
   obtain ⟨a,rfl,vs,m,e1,_,r⟩:=q.ls rfl
   obtain ⟨⟨as,q1⟩,q2,q3⟩:=dF (fun t x d e r=>ih t x d e (.inl r)) ts _ ds hd r
   exact ⟨⟨a::as,.list e1 rfl rfl q1⟩,q2,succ_le_succ q3⟩
  |_=>exact base (n+1) _ x d trivial e q
theorem kJ {A:Around}{a b:Nat}(rm:Rm A)(h:a<=cf):A.units+1+min a b < cLine:=by
 have:=rm.units
 have:min a b<=50:=le_trans (min_le_left _ _) h
 lia -abstractProof
theorem Eo:iH P .Eq cA:=fun A g σ s x x' t t' b Q E rm w q q' e k=>by
 obtain ⟨d,d',h1,h2,h3⟩:=aU e
 obtain ⟨⟨_,r1⟩,c1,l1⟩:=bH cf t x d h1 q
 obtain ⟨⟨_,r2⟩,c2,l2⟩:=bH cf t' x' d' h2 q'
 cases h3
 exact compareEq_reads r1 r2 c1 c2 (lt_of_le_of_lt (by lia) (kJ (b:=d'.depth) rm l1)) (k s.toks)
theorem Ei:iH P .NotEq jW:=fun A g σ s x x' t t' b Q E rm w q q' e k=>by
 obtain ⟨c,e1,rfl⟩:=av e
 obtain ⟨d,d',h1,h2,h3⟩:=aU e1
 obtain ⟨⟨_,r1⟩,c1,l1⟩:=bH cf t x d h1 q
 obtain ⟨⟨_,r2⟩,c2,l2⟩:=bH cf t' x' d' h2 q'
 cases h3
 exact compareNe_reads r1 r2 c1 c2 (lt_of_le_of_lt (by lia) (kJ (b:=d'.depth) rm l1)) (k s.toks)
theorem dL {α:Type}{t':T}{x':Value}{f:Int->Int->Option α}{y:α}(q:dY P g h t x)(q':dY P g h t' x')(e:o2 (iD t) (iD t') f=some y):∃i j p p',x=.int i p/\x'=.int j p'/\f i j=some y:=by
 obtain ⟨i,j,h1,h2,h3⟩:=aU e
 obtain ⟨p,e1⟩:=q.i h1
 obtain ⟨p',e2⟩:=q'.i h2
 exact ⟨i,j,p,p',e1,e2,h3⟩
theorem Ej:iH P .Lt rB:=fun A g σ s x x' t t' b Q E rm w q q' e k=>by
 obtain ⟨i,j,p,p',rfl,rfl,e⟩:=dL q q' e
 cases e;exact PySem.P.lt_int (k s.toks)
theorem Ek:iH P .LtE CT:=fun A g σ s x x' t t' b Q E rm w q q' e k=>by
 obtain ⟨i,j,p,p',rfl,rfl,e⟩:=dL q q' e
 cases e;exact PySem.P.le_int (k s.toks)
theorem Em:iH P .Gt Cc:=fun A g σ s x x' t t' b Q E rm w q q' e k=>by
 obtain ⟨i,j,p,p',rfl,rfl,e⟩:=dL q q' e
 cases e;exact PySem.P.gt_int (k s.toks)
theorem En:iH P .GtE Gg:=fun A g σ s x x' t t' b Q E rm w q q' e k=>by
 obtain ⟨i,j,p,p',rfl,rfl,e⟩:=dL q q' e
 cases e;exact PySem.P.ge_int (k s.toks)
inductive FR (P:Pg) (g:Gh) (h:Heap) (ts:List T) (x:Value):Prop
 |tup (a:Addr) (vs:Array Value) (n:Nat) (e:x=.ref a) (e':h.get? a=some (eW vs n)) (l:ts.length<=lim) (r:aO P g h ts vs.toList)
 |lst (a:Addr) (vs:Array Value) (n:Nat) (e:x=.ref a) (e':h.get? a=some (bm vs n)) (l:ts.length<=lim) (r:aO P g h ts vs.toList)
theorem dY.sq {ts:List T}(q:dY P g h t x)(e:iV t=some ts):FR P g h ts x:=by
 unfold iV el at e
 cases e1:q7 t with
 |some us=>rw [e1] at e;cases e;obtain ⟨a,e,_,vs,n,e',l,r⟩:=q.tu e1;exact .tup a vs n e e' l r
 |none=>rw [e1] at e;obtain ⟨a,e,vs,n,e',l,r⟩:=q.ls e;exact .lst a vs n e e' l r
inductive GT (h:Heap) (A:Around) (x x':Value) (b:Bool):Prop
 |mk (d:PyData) (ds:List PyData) (as bs:List Addr) (e:b=ds.any fun y=>PyData.eqv y d) (r:Reads h x' (.list ds) as\/Reads h x' (.tuple ds) as) (r':Reads h x d bs) (c:PyData.canLayAll0 ds=true) (c':d.canLay0=true) (l:A.units+1+min (PyData.depthAll ds) d.depth < cLine)
theorem qF {A:Around}{x':Value}{t':T}{b:Bool}(rm:Rm A)(q:dY P g h t x)(q':dY P g h t' x')(e:kF t t'=some b):GT h A x x' b:=by
 obtain ⟨ts,e1,e⟩:=az e
 obtain ⟨d,ds,h1,h2,e⟩:=aU e
 obtain ⟨⟨_,r1⟩,c1,l1⟩:=bH cf t x d h1 q
 have ra:=fun xs r=>dF (fun t x d e r=>bH cf t x d e (.inl r)) ts xs ds h2 (P:=P) (g:=g) (h:=h) r
 cases e
 rcases q'.sq e1 with ⟨a,vs,n,rfl,e',l,r⟩ | ⟨a,vs,n,rfl,e',l,r⟩
 .obtain ⟨⟨_,r2⟩,c2,l2⟩:=ra _ r
  exact ⟨d,ds,_,_,rfl,.inr (.tuple e' rfl rfl r2),r1,c2,c1,kJ rm l2⟩
 .obtain ⟨⟨_,r2⟩,c2,l2⟩:=ra _ r
  exact ⟨d,ds,_,_,rfl,.inl (.list e' rfl rfl r2),r1,c2,c1,kJ rm l2⟩
theorem El:iH P .In kF:=fun A g σ s x x' t t' b Q E rm w q q' e k=>by
 obtain ⟨d,ds,as,bs,rfl,r |r,h1,h2,h3,h4⟩:=qF rm q q' e
 .exact in_list_reads r h1 h2 h3 h4 (k s.toks)
 .exact in_tuple_reads r h1 h2 h3 h4 (k s.toks)
theorem xG:iH P .NotIn hJ:=fun A g σ s x x' t t' b Q E rm w q q' e k=>by
 obtain ⟨c,e1,rfl⟩:=av e
 obtain ⟨d,ds,as,bs,rfl,r |r,h1,h2,h3,h4⟩:=qF rm q q' e1
 .exact notIn_list_reads r h1 h2 h3 h4 (k s.toks)
 .exact notIn_tuple_reads r h1 h2 h3 h4 (k s.toks)
theorem n8 {a b:Str}(ha:PyData.strOk a=true)(hb:PyData.strOk b=true):PyData.strOk (a++b)=true:=by
 have:(a++b).cps=a.cps++b.cps:=rfl
 simp only [PyData.strOk,this,Array.all_append,and_eq_true] at *
 exact ⟨ha,hb⟩
theorem fI {α:Type}{n:Nat}{x y:α}(h:nO n x=some y):n<=lim/\x=y:=by
 unfold nO at h
 cases q:cm n with
 |true=>rw [q] at h;exact ⟨fT q,Option.some.inj h⟩
 |false=>rw [q] at h;cases h
theorem cE {σ:Sg}{s:Shared}{i:Int}{tk p:Nat}(w:bj P g s.heap σ){Q:Value->Shared->Prop}(hq:∀u s' g',aH g s g' s'->bj P g' s'.heap σ->Rp P g' s'.heap (.int i) u->Q u s'):Q (.int i p) {s with toks:=tk}:=hq _ _ g (.toks g s tk) w ⟨_,rfl⟩
theorem qJ {ts:List T}{vs:Array Value}(r:aO P g h ts vs.toList)(e:vs.isEmpty=true):ts=[]:=by
 have z:vs.toList=[]:=Array.toList_eq_nil_iff.mpr (Array.isEmpty_iff.mp e)
 rw [z] at r
 have:=r.length
 exact length_eq_zero_iff.mp this.symm
theorem rc {ts us:List T}{vs vs':Array Value}(r:aO P g h ts vs.toList)(r':aO P g h us vs'.toList)(hl:(ts++us).length<=lim):vs.size+vs'.size<=lim:=by
 rw [List.length_append,<-r.length,<-r'.length] at hl;exact hl
theorem jb {σ:Sg}{s:Shared}{ts:List T}{xs:List Value}{tk:Nat}(w:bj P g s.heap σ)(r:aO P g s.heap ts xs)(hl:ts.length<=lim){Q:Value->Shared->Prop}(hq:∀u s' g',aH g s g' s'->bj P g' s'.heap σ->Rp P g' s'.heap (.lst ts) u->Q u s'):
  Q (.ref s.heap.objs.size) {s with heap:=s.heap.push (bm xs.toArray 0),toks:=tk}:=
 hq _ _ _ (.pushF _ tk) (w.pushF _) ⟨_,rfl,.inr rfl,_,_,bD _,hl,r.mono ((aH.pushF (bm xs.toArray 0) 0).k w)⟩
theorem t9 (vs vs':Array Value):vs++vs'=(vs.toList++vs'.toList).toArray:=by simp
theorem DD:pK P (Ak P (binaryOp .Add)) bM (RV P):=fun A env g σ s x x' t t' y Q E rm w q q' e hq=>by
 unfold bM at e
 cases e1:iD t with
 |some i=>
  rw [e1] at e
  obtain ⟨j,e2,e⟩:=az e
  obtain ⟨p,rfl⟩:=q.i e1
  obtain ⟨p',rfl⟩:=q'.i e2
  cases e;exact PySem.P.add_int (cE w hq)
 |none=>cases e2:q8 t with
  |some a=>
   rw [e1,e2] at e
   obtain ⟨b,e3,e⟩:=az e
   obtain ⟨⟨h1,_⟩,p,rfl⟩:=q.s e2
   obtain ⟨⟨h3,_⟩,p',rfl⟩:=q'.s e3
   obtain ⟨hl,rfl⟩:=fI e
   exact add_str (fun t' tk=>hq _ _ g (.toks g s tk) w ⟨⟨n8 h1 h3,hl⟩,_,rfl⟩) (le_trans (by have:(a++b).length=a.length+b.length:=Array.size_append;lia -abstractProof) (bb hl))
  |none=>cases e3:q7 t with
   |some ts=>
    rw [e1,e2,e3] at e
    obtain ⟨us,e4,e⟩:=az e
    obtain ⟨hl,rfl⟩:=fI e
    have qt:=q.tu e3
    have qu:=q'.tu e4
    obtain ⟨a,rfl,f,vs,n,g1,l1,r1⟩:=id qt
    obtain ⟨a',rfl,f',vs',n',g2,l2,r2⟩:=id qu
    by_cases z1:vs.isEmpty=true
    .obtain rfl:=qJ r1 z1
     exact concat_meets ⟨_,g1,rfl⟩ ⟨_,g2,rfl⟩ noFill_tuple_add seq_tuple_add F.slot_tuple_add F.entry_tuple_add (F.args_tuple_add_2 _ _) (tuple_addW0 a a' vs vs' n n' none none #[] #[] z1) ⟨g1,g2,hq _ s g (.refl g s) w qu⟩
    .by_cases z2:vs'.isEmpty=true
     .obtain rfl:=qJ r2 z2
      rw [append_nil] at hq
      exact concat_meets ⟨_,g1,rfl⟩ ⟨_,g2,rfl⟩ noFill_tuple_add seq_tuple_add F.slot_tuple_add F.entry_tuple_add (F.args_tuple_add_2 _ _) (tuple_addW1 a a' vs vs' n n' none none #[] #[] z1 z2) ⟨g1,g2,hq _ s g (.refl g s) w qt⟩
     .refine PySem.P.add_tuple g1 g2 z1 z2 ?_ (bb (rc r1 r2 hl))
      rw [t9]
      exact rJ (tk:=s.toks) w (aO.append r2 r1) hl hq
   |none=>
    rw [e1,e2,e3] at e
    obtain ⟨ts,us,e4,e5,e⟩:=aU e
    obtain ⟨hl,rfl⟩:=fI e
    obtain ⟨a,rfl,vs,n,g1,l1,r1⟩:=q.ls e4
    obtain ⟨a',rfl,vs',n',g2,l2,r2⟩:=q'.ls e5
    refine PySem.P.add_list g1 g2 ?_ (bb (rc r1 r2 hl))
    rw [t9]
    exact jb (tk:=s.toks) w (aO.append r2 r1) hl hq
theorem Dw:pK P (Ak P (binaryOp .Sub)) jw (RV P):=fun A env g σ s x x' t t' y Q E rm w q q' e hq=>by
 obtain ⟨i,j,p,p',rfl,rfl,e⟩:=dL q q' e
 cases e;exact PySem.P.sub_int (cE w hq)
theorem qY {α:Type}{c:Bool}{x y:α}(h:(bif c then none else some x)=some y):c=false/\x=y:=by
 cases c with
 |true=>cases h
 |false=>exact ⟨rfl,Option.some.inj h⟩
theorem cC {α:Type}{c:Bool}{x y:α}(h:(bif c then some x else none)=some y):c=true/\x=y:=by
 cases c with
 |true=>exact ⟨rfl,Option.some.inj h⟩
 |false=>cases h
theorem DC:pK P (Ak P (binaryOp .FloorDiv)) fk (RV P):=fun A env g σ s x x' t t' y Q E rm w q q' e hq=>by
 unfold fk at e
 obtain ⟨i,j,p,p',rfl,rfl,e1⟩:=dL q q' e
 obtain ⟨c,rfl⟩:=qY e1
 obtain ⟨c1,c2⟩:=Bool.or_eq_false_iff.mp c
 exact floordiv_int (beq_eq_false_iff_ne.mp c1) (cE w hq) (.inl (PyProof.noPylong_small (Nat.lt_of_not_le fun q=>by rw [ble_eq_true_of_le q] at c2;cases c2)))
theorem DB:pK P (Ak P (binaryOp .Mod)) ck (RV P):=fun A env g σ s x x' t t' y Q E rm w q q' e hq=>by
 unfold ck at e
 obtain ⟨i,j,p,p',rfl,rfl,e1⟩:=dL q q' e
 obtain ⟨c,rfl⟩:=qY e1
 exact mod_int' (beq_eq_false_iff_ne.mp c) (cE w hq)
theorem vR {i:Int}(h:sm i=true):i.natAbs<=1000000000:=le_of_ble_eq_true h
theorem sZ {i:Int}(h:sm i=true):Builtin.Int.intBits i<=64:=by
 have q:(i.natAbs:Int)<=1000000000:=bJ (vR h)
 exact intBits_le_64 (Int.neg_lt_of_neg_lt (Int.lt_of_le_of_lt (Int.le_trans (Int.natAbs_neg i▸le_natAbs) q) (by decide))) (Int.lt_of_le_of_lt (Int.le_trans le_natAbs q) (by decide))
theorem DA:pK P (Ak P (binaryOp .Mult)) gE (RV P):=fun A env g σ s x x' t t' y Q E rm w q q' e hq=>by
 unfold gE at e
 obtain ⟨i,j,p,p',rfl,rfl,e1⟩:=dL q q' e
 obtain ⟨c,rfl⟩:=cC e1
 exact PySem.P.mul_int (cE w hq) ((Bool.or_eq_true_iff.mp c).elim (fun q=>.of_left (sZ q)) fun q=>.of_right (sZ q))
theorem aq.neg {e:Expr}{p:PE}{pos:Pos}(h:aq P B C e p (RX P)):aq P B C (.UnaryOp .USub e pos) (p1 oE p) (RV P):=
 (h.xy.op1 (N:=CG P (unaryOp .USub)) jt fun A env g σ s x t y Q E rm w r e hq=>by
  obtain ⟨i,e1,e2⟩:=az e
  obtain ⟨p,rfl⟩:=r.i e1
  cases e2;exact PySem.P.neg_int (cE w hq)).map fun _ _ _ _ _=>wpAny_UnaryOp
end
section
variable {P:Pg} {B:br} {C:Ct}
theorem kX {i:Int}{n k:Nat}(h:seqIndex? i n=some k):(0<=i/\k=i.toNat/\i < n)\/(i < 0/\-(n:Int)<=i/\k=(i+n).toNat):=by
 have h:(if (decide (0<=(if i < 0 then i+n else i))&&decide ((if i < 0 then i+n else i) < (n:Int)))=true then some (if i < 0 then i+n else i).toNat else none)=some k:=h
 by_cases q:i < 0
 .rw [if_pos q] at h
  cases c:decide (0<=i+(n:Int))&&decide (i+(n:Int) < (n:Int)) with
  |false=>rw [c] at h;cases h
  |true=>
   rw [c] at h;cases h
   exact .inr ⟨q,by have:=of_decide_eq_true (fM c);lia -abstractProof,rfl⟩
 .rw [if_neg q] at h
  cases c:decide (0<=i)&&decide (i < (n:Int)) with
  |false=>rw [c] at h;cases h
  |true=>
   rw [c] at h;cases h
   exact .inl ⟨of_decide_eq_true (fM c),rfl,of_decide_eq_true (gN c)⟩
theorem yN {p:Str}{c:Nat}{k:Option Nat}(g:PyData.strOk p=true)(hv:k.bind (p.cps[·]?)=some c):PyData.strOk ⟨#[c]⟩=true:=by
 obtain ⟨k,_,hk⟩:=Option.bind_eq_some_iff.mp hv
 simp only [PyData.strOk,Array.all_eq_true,decide_eq_true_eq] at g ⊢
 intro j hj
 obtain ⟨hk1,hk2⟩:=Array.getElem?_eq_some_iff.mp hk
 have:=g k hk1
 simp at hj;subst hj
 simpa [hk2] using this
theorem aO.size {g:Gh}{h:Heap}{ts:List T}{vs:Array Value}(r:aO P g h ts vs.toList):vs.size=ts.length:=r.length
theorem pY {i:Int}(h:sm i=true):-(2 ^ 63:Int)<=i/\i < 2 ^ 63:=
 have q:(i.natAbs:Int)<=1000000000:=bJ (vR h)
 ⟨Int.neg_le_of_neg_le (Int.le_trans (Int.le_trans (Int.natAbs_neg i▸le_natAbs) q) (by decide)),Int.lt_of_le_of_lt (Int.le_trans le_natAbs q) (by decide)⟩
inductive GV (i:Int) (ts:List T) (y:T):Prop
 |mk (k:Nat) (s:sm i=true) (hk:seqIndex? i ts.length=some k) (hx:ts[k]?=some y)
theorem q6 {i:Int}{ts:List T}{y:T}(h:Af i ts=some y):GV i ts y:=by
 unfold Af at h
 cases q:sm i with
 |false=>rw [q] at h;cases h
 |true=>rw [q] at h;obtain ⟨k,h1,h2⟩:=az h;exact ⟨k,q,h1,h2⟩
theorem n4.rp {g:Gh}{h:Heap}:∀{ns:List Int} {vs:List Value},n4 ns vs->aO P g h (ns.map T.int) vs
 | [],_,r=>r
 |_::_,_,⟨t,vs',e,r⟩=>⟨_,vs',e,⟨t,rfl⟩,n4.rp r⟩
theorem qC {A:Around}{g:Gh}{σ:Sg}{s:Shared}{ts:List T}{l:Addr}{items:Array Value}{i:Int}{p:Tok}{y:T}{Q:Value->Shared->Prop}{E:Value->Shared->Prop}(w:bj P g s.heap σ)(hl:s.heap.IsList l items)(r:aO P g s.heap ts items.toList)(e:Af i ts=some y)
  (hq:∀u s' g',aH g s g' s'->bj P g' s'.heap σ->Rp P g' s'.heap y u->Q u s'):wpAny P.M A (getItem (.ref l) (.int i p)) Q E s:=by
 obtain ⟨k,hs,hk,hx⟩:=q6 e
 obtain ⟨u,hu,hR⟩:=r.get hx
 rw [Array.getElem?_toList] at hu
 have hlen:items.size=ts.length:=r.length
 rcases kX hk with ⟨h0,rfl,h1⟩ | ⟨h0,h1,rfl⟩
 .exact wpAny_getItem_list hl h0 (pY hs).2 hu (hq u s g (.refl g s) w hR)
 .rw [<-hlen] at h1 hu
  exact wpAny_getItem_list_neg hl h0 h1 (pY hs).1 (x:=u) hu (hq u s g (.refl g s) w hR)
noncomputable abbrev yc (P:Pg)(value slice:Expr):W2 Value:=fun A _ x y Q E s=>wpAny P.M A (subscriptTail value slice x y) Q E s
theorem wm {value slice:Expr}(hs:∀x y,subscripted slice false x y=operate [x,y] (getItem x y)):pK P (yc P value slice) aw (RV P):=fun A env g σ s x x' t t' y Q E rm w q q' e hq=>by
 obtain ⟨i,e1,e2⟩:=az e
 obtain ⟨p,rfl⟩:=q'.i e1
 cases e3:iV t with
 |some ts=>
  rw [e3] at e2
  rcases q.sq e3 with ⟨a,vs,n,rfl,h1,l,r⟩ | ⟨a,vs,n,rfl,h1,l,r⟩
  .obtain ⟨k,h2,hk,hx⟩:=q6 e2
   obtain ⟨u,hu,hR⟩:=r.get hx
   rw [Array.getElem?_toList] at hu
   rw [show ts.length=vs.size from r.length.symm] at hk
   exact tail_any ⟨_,h1,rfl⟩ slot_tuple_getitem.lookup (PySem.P.getItem_tuple h1 (pY h2).1 (pY h2).2 hk hu (hq u s g (.refl g s) w hR)) (hs _ _)
  .have hl:s.heap.IsList a vs:=⟨_,h1,rfl,n,rfl⟩
   exact tail_any hl.typeIs slot_list_getitem.lookup (qC w hl r e2 hq) (hs _ _)
 |none=>cases e4:CV t with
  |some ns=>
   rw [e3,e4] at e2
   obtain ⟨a,items,rfl,⟨o,g1,g2⟩,_,r⟩:=q.n e4
   have hl:s.heap.IsList a items:=⟨o,(w.base _ _ g1).2,g2⟩
   exact tail_any hl.typeIs slot_list_getitem.lookup (qC w hl r.rp e2 hq) (hs _ _)
  |none=>
   rw [e3,e4] at e2
   obtain ⟨z,e5,e6⟩:=az e2
   obtain ⟨⟨g1,g2⟩,p',rfl⟩:=q.s e5
   unfold sX at e6
   cases h2:sm i with
   |false=>rw [h2] at e6;cases e6
   |true=>
    rw [h2] at e6
    obtain ⟨c,hv,rfl⟩:=av e6
    have hlo:=pY h2
    exact tail_any (typeIs_str s z p') slot_str_getitem.lookup (getItem_str (by simp;lia -abstractProof) hv (hq _ _ g (.toks g s _) w ⟨⟨yN g1 hv,show (1:Nat)<=lim by decide⟩,_,rfl⟩)) (hs _ _)
theorem aq.idx {a i:Expr}{pa pi:PE}{pos:Pos}(hs:∀x y,subscripted i false x y=operate [x,y] (getItem x y))(ha:aq P B C a pa (RX P))(hi:aq P B C i pi (RX P)):aq P B C (.Subscript a i pos) (p2 aw pa pi) (RV P):=
 (ha.op2 hi.xy jt (wm hs)).map fun _ _ _ _ _=>Subscript_
theorem aO.cut {g:Gh}{h:Heap}{ts:List T}{xs:List Value}(r:aO P g h ts xs)(lo hi:Option Int):aO P g h (Mine.cut lo hi ts) (Mine.cut lo hi xs):=by
 unfold Mine.cut
 rw [r.length]
 exact (r.drop _).take _
theorem eR {α:Type}(lo hi:Option Int)(xs:List α):(cut lo hi xs).length<=xs.length:=le_trans (List.length_take_le' _ _) (by rw [length_drop];exact Nat.sub_le _ _)
theorem zQ {α:Type}{lo hi:Option Int}{xs:List α}{a:α}(h:a∈cut lo hi xs):a∈xs:=List.mem_of_mem_drop (List.mem_of_mem_take h)
theorem wh (items:Array Value)(lo hi:Option Int):slicePick items lo hi none=(cut lo hi items.toList).toArray:=by
 rw [slicePick_plain];simp [cut]
theorem zW (n:Nat)(i:Int):clipAt n i<=n:=Int.toNat_le.mpr (Int.max_le.mpr ⟨natCast_nonneg n,Int.min_le_right _ _⟩)
theorem sT (lo hi:Option Int)(n:Nat):Builtin.Slice.sliceAdjust lo hi 1 (n:Int)=(((lo.elim 0 (clipAt n):Nat):Int),((hi.elim n (clipAt n):Nat):Int)):=by
 unfold Builtin.Slice.sliceAdjust
 have h1:¬((1:Int) < 0):=by lia -abstractProof
 simp only [h1,if_false]
 have one:∀i:Int,(if i < 0 then max (i+(n:Int)) 0 else min i (n:Int))=((clipAt n i:Nat):Int):=fun i=>by
  rw [clipAt_cast]
  by_cases q:i < 0
  .rw [if_pos q,if_pos q,Int.min_eq_left (Int.add_le_of_le_sub_right (by rw [Int.sub_self];exact Int.le_of_lt q)),Int.max_comm]
  .rw [if_neg q,if_neg q,Int.max_eq_right (Int.le_min.mpr ⟨Int.not_lt.mp q,natCast_nonneg n⟩)]
 cases lo<;>cases hi<;>simp [one]
theorem rR (a b:Nat):Builtin.Slice.slicePlaces (a:Int) (b:Int) 1=b - a:=by
 unfold Builtin.Slice.slicePlaces
 rw [if_pos (show (1:Int) > 0 by decide)]
 by_cases q:(a:Int) < b
 .rw [if_pos q,ediv_one];lia
 .rw [if_neg q,Nat.sub_eq_zero_of_le (Int.ofNat_le.mp (Int.not_lt.mp q))];rfl
theorem uA (xs:Array Value)(a m:Nat):((List.range m).filterMap fun (k:Nat)=>xs[((a:Int)+(k:Int) * 1).toNat]?)=(xs.toList.drop a).take m:=by
 have e:(fun (k:Nat)=>xs[((a:Int)+(k:Int) * 1).toNat]?)=fun k=>xs[a+k]?:=by
  funext k
  have:((a:Int)+(k:Int) * 1).toNat=a+k:=by lia -abstractProof
  rw [this]
 rw [e]
 have:=pick_run xs a m
 rw [List.filterMap_map] at this
 exact this
theorem iU {prog:Program}{w:World}{A:Around}{E:Value->Shared->Prop}{s:Shared}{v:Value}{i:Option Int}{Q:Option Int->Shared->Prop}(p:IsPart v i)(h:Q i s):wpAny (model prog w) A (Builtin.Slice.slicePartIndex v) Q E s:=by
 cases p with
 |none=>exact slicePart_none h
 |int i t=>exact slicePart_int h
theorem jc {prog:Program}{w:World}{A:Around}{E:Value->Shared->Prop}{s:Shared}{t sl:Addr}{items:Array Value}{n:Nat}{vl vu:Value}{lo hi:Option Int}{Q:Value->Shared->Prop}(ht:IsT s.heap t items n)(hs:s.heap.IsSliceOf sl vl vu .none)(pl:IsPart vl lo)(pu:IsPart vu hi)
  (h1:cut lo hi items.toList=items.toList->Q (.ref t) s)
  (h:Q (.ref s.heap.objs.size) {s with heap:=s.heap.push {cls:=.type "tuple",data:=.seq (cut lo hi items.toList).toArray}})
  (hsz:items.size<=sizeLine):wpAny (model prog w) A (getItem (.ref t) (.ref sl)) Q E s:=by
 have hT:s.TypeIs (.ref t) "tuple":=⟨_,ht,rfl⟩
 have hI:IsTup s.heap t items:=⟨_,ht,rfl,n,rfl⟩
 have hdrop:sizeOk (.seq (cut lo hi items.toList).toArray):=by
  show (cut lo hi items.toList).toArray.size<=sizeLine
  rw [size_toArray]
  have:=eR lo hi items.toList
  simp at this;lia -abstractProof
 obtain ⟨os,hos,hcs,hds⟩:=id hs
 have hTs:s.TypeIs (.ref sl) "slice":=⟨os,hos,hcs⟩
 unfold getItem
 try with_reducible refine wpAny_holding ?_
 first |refine wpAny_bind (wpAny_pure ?_) |skip
 refine wpAny_bind (wpAny_sequenceKey hT (by decide) ?_)
 refine wpAny_bind (wpAny_callSpecial?_slot (name:=ofString "__getitem__") hT slot_tuple_getitem
  (wpAny_call_entry slot_tuple_getitem hT entry_tuple_getitem ?_ (args_tuple_getitem _ _)))
 show wpAny _ _ (Builtin.Tuple.tupleItemsOf (.ref t) >>=_) _ _ s
 refine wpAny_bind (tupleItemsOf_ hI ?_)
 refine wpAny_bind (wpAny_typeOf hTs ?_)
 rw [if_pos (by decide)]
 have app:∀(Q':Int×Int×Nat->Shared->Prop) (E':Value->Shared->Prop) (A':Around),Q' (((lo.elim 0 (clipAt items.size):Nat):Int),1,hi.elim items.size (clipAt items.size) - lo.elim 0 (clipAt items.size)) s->wpAny (model prog w) A' (Builtin.Slice.sliceApplied (.ref sl) (pure (items.size:Int))) Q' E' s:=fun Q' E' A' hq=>by
  unfold Builtin.Slice.sliceApplied Builtin.Slice.sliceFields
  refine wpAny_bind (wpAny_bind (wpAny_field hos hds (x:=vl) rfl (wpAny_bind (wpAny_field hos hds (x:=vu) rfl (wpAny_bind (wpAny_field hos hds (x:=.none) rfl (wpAny_pure ?_)))))))
  refine wpAny_bind (slicePart_none ?_)
  show wpAny _ _ (if ((1:Int)==0)=true then _ else _) _ _ s
  rw [if_neg (by decide)]
  refine wpAny_bind (iU pl (wpAny_bind (iU pu (wpAny_bind (wpAny_pure ?_)))))
  show wpAny _ _ (match Builtin.Slice.sliceAdjust lo hi 1 (items.size:Int) with | (lo,hi)=>pure (lo,(1:Int),Builtin.Slice.slicePlaces lo hi 1)) _ _ s
  rw [sT]
  show wpAny _ _ (pure (_,(1:Int),Builtin.Slice.slicePlaces _ _ 1)) _ _ s
  rw [rR]
  exact wpAny_pure hq
 refine wpAny_bind (app _ _ _ ?_)
 dsimp only
 have ecut:cut lo hi items.toList=(items.toList.drop (lo.elim 0 (clipAt items.size))).take (hi.elim items.size (clipAt items.size) - lo.elim 0 (clipAt items.size)):=by simp [cut]
 by_cases hw:(((lo.elim 0 (clipAt items.size):Nat):Int)==0&&(1:Int)==1&&(hi.elim items.size (clipAt items.size) - lo.elim 0 (clipAt items.size))==items.size)=true
 .have hq:Q (.ref t) s:=h1 (by
   simp only [and_eq_true,beq_iff_eq] at hw
   have z:lo.elim 0 (clipAt items.size)=0:=by lia -abstractProof
   rw [ecut,hw.2,z,drop_zero,List.take_of_length_le (by simp)])
  rw [if_pos hw]
  refine wpAny_bind ?_
  unfold Builtin.Tuple.tupleIsExact
  refine wpAny_bind (wpAny_typeOf hT (wpAny_pure ?_))
  rw [if_pos (by decide)]
  first
   |exact wpAny_bind (wpAny_rule (wpAny_pure ⟨_,rfl,wpAny_pure hq⟩))
   |exact wpAny_bind (wpAny_rule (wpAny_bind (wpAny_pure (wpAny_pure ⟨_,rfl,wpAny_pure hq⟩))))
   |exact wpAny_bind (wpAny_rule (wpAny_bind (wpAny_pure (wpAny_pure ⟨_,rfl,hq⟩))))
   |exact wpAny_bind (wpAny_rule (wpAny_pure ⟨_,rfl,hq⟩))
 .rw [if_neg hw,uA,<-ecut]
  first
   |exact wpAny_bind (m:=Builtin.Tuple.tupleExact _) (wpAny_newObj_type (wpAny_pure ⟨_,rfl,wpAny_pure h⟩) hdrop)
   |exact wpAny_bind (m:=Builtin.Tuple.tupleExact _) (wpAny_newObj_type (wpAny_bind (wpAny_pure (wpAny_pure ⟨_,rfl,wpAny_pure h⟩))) hdrop)
   |exact wpAny_bind (wpAny_bind (m:=Builtin.Tuple.tupleExact _) (wpAny_newObj_type (wpAny_pure (wpAny_pure ⟨_,rfl,wpAny_pure h⟩)) hdrop))
   |exact wpAny_bind (wpAny_bind (m:=Builtin.Tuple.tupleExact _) (wpAny_newObj_type (wpAny_pure ⟨_,rfl,wpAny_pure h⟩) hdrop))
theorem tL (lo hi:Option Int)(n:Nat):Builtin.Str.strSliceIndices lo hi 1 n=(List.range (hi.elim n (clipAt n) - lo.elim 0 (clipAt n))).map (lo.elim 0 (clipAt n)+·):=by
 have:Builtin.Str.strSliceIndices lo hi 1 n=sliceRange (sliceBounds lo hi none n).1 (sliceBounds lo hi none n).2.1 (sliceBounds lo hi none n).2.2:=rfl
 rw [this,sliceBounds_plain,sliceRange_one]
theorem uz (x:Str)(lo hi:Option Int):(Builtin.Str.strSliceIndices lo hi 1 x.length).filterMap (x.cps[·]?)=cut lo hi x.cps.toList:=by
 rw [tL,pick_run];simp [cut,Str.length]
theorem sC (x:Str)(lo hi:Option Int)(h:(Builtin.Str.strSliceIndices lo hi 1 x.length).length=x.length):fH lo hi x=x:=by
 have hl:=h
 rw [tL] at hl
 simp only [length_map,length_range] at hl
 have hle:hi.elim x.length (clipAt x.length)<=x.length:=by
  cases hi with
  |none=>exact le_refl _
  |some i=>exact zW _ i
 have e:cut lo hi x.cps.toList=x.cps.toList:=by
  unfold cut
  simp only [Array.length_toList]
  change _=_
  by_cases hx:x.length=0
  .have:x.cps.toList=[]:=by have:x.cps.size=0:=hx;simpa using this
   rw [this];simp
  .have z:lo.elim 0 (clipAt x.cps.size)=0:=by show lo.elim 0 (clipAt x.length)=0;lia
   have z':hi.elim x.cps.size (clipAt x.cps.size)=x.cps.size:=by show hi.elim x.length (clipAt x.length)=x.length;lia
   rw [z,z',drop_zero,List.take_of_length_le (by simp)]
 unfold fH
 rw [e]
theorem um {x:Str}(h:PyData.strOk x=true)(lo hi:Option Int):PyData.strOk (fH lo hi x)=true:=by
 simp only [PyData.strOk,Array.all_eq_true',decide_eq_true_eq] at h ⊢
 intro c hc
 exact h c (Array.mem_toList_iff.mp (zQ (by simpa [fH] using hc)))
set_option tactic.hygienic true in
theorem j3 {prog:Program}{w:World}{A:Around}{E:Value->Shared->Prop}{s:Shared}{x:Str}{t:Tok}{sl:Addr}{vl vu:Value}{lo hi:Option Int}{Q:Value->Shared->Prop}(hs:s.heap.IsSliceOf sl vl vu .none)(pl:IsPart vl lo)(pu:IsPart vu hi)
  (h:∀t' tk,Q (.str (fH lo hi x) t') {s with toks:=tk})(hsz:x.length<=lim):wpAny (model prog w) A (getItem (.str x t) (.ref sl)) Q E s:=by
 have part:∀{v:Value} {i:Option Int},IsPart v i->∃p:Option (Int×Tok),v=partValue p/\p.map (·.1)=i:=fun p=>by
  cases p with
  |none=>exact ⟨none,rfl,rfl⟩
  |int i t=>exact ⟨some (i,t),rfl,rfl⟩
 obtain ⟨l,rfl,rfl⟩:=part pl
 obtain ⟨u,rfl,rfl⟩:=part pu
 refine wpAny_getItem_str_slice (l:=l) (u:=u) (st:=none) ?_ rfl ?_
 .obtain ⟨o,e1,e2,e3⟩:=hs
  exact ⟨o,e1,e2,e3⟩
 .unfold sliceMade
  have e:slicePicked x l u none=Builtin.Str.strSliceIndices (l.map (·.1)) (u.map (·.1)) 1 x.length:=rfl
  split
  .rename_i hw
   simp only [e,and_eq_true,beq_iff_eq] at hw
   have:=h t s.toks
   rw [sC x _ _ hw.2] at this
   exact this
  .rw [e,uz]
   exact ⟨by
    have:=eR (l.map (·.1)) (u.map (·.1)) x.cps.toList
    show (cut (l.map (·.1)) (u.map (·.1)) x.cps.toList).toArray.size<=sizeLine
    simp at this ⊢
    have h2:x.cps.size<=lim:=hsz
    simp only [lim,sizeLine] at *
    lia -abstractProof,h s.toks (s.toks+1)⟩
noncomputable abbrev rd (P:Pg)(B:br)(C:Ct)(e:Option Expr)(p:PO):Prop:=dB P B C (P.W fun env=>valueOrNone (evalOpt e env)) p fun _ _ _ i x=>IsPart x i
theorem rd.none:rd P B C Option.none tg:=.now fun _ _ _ _ _ _ _ _ _ _ _ _ hq=>wpAny_pure (hq _ _ _ rfl .none)
theorem rd.some {e:Expr}{p:PE}(h:aq P B C e p (RX P)):rd P B C (Option.some e) (p1 gk p):=
 (h.xy.op1 (N:=fun A _ x Q E s=>Q x s) (fun _ _ _ _ _ _ _ r=>r) fun A env g σ s x t y Q E rm w q e hq=>by
  obtain ⟨i,e1,e2⟩:=az e
  obtain ⟨p,rfl⟩:=q.i e1
  cases e2;exact hq _ s g (.refl g s) w (.int i p)).map fun _ _ _ _ _ h=>h
theorem xx {lo hi:Option Int}{xs:List T}{ys:List Value}(hl:ys.length=xs.length)(h:cut lo hi ys=ys):cut lo hi xs=xs:=by
 have e:=congrArg List.length h
 unfold cut at e ⊢
 rw [length_take,length_drop,hl] at e
 cases xs with
 |nil=>simp
 |cons y ys=>
  generalize lo.elim 0 (clipAt (y::ys).length)=a at *
  generalize hi.elim (y::ys).length (clipAt (y::ys).length)=b at *
  have hp:0 < (y::ys).length:=Nat.succ_pos _
  have z:a=0:=Nat.eq_zero_of_not_pos fun q=>fK (Nat.sub_lt hp q) (le_trans (le_of_eq e.symm) (Nat.min_le_right _ _))
  subst z
  exact List.take_of_length_le (le_trans (le_of_eq e.symm) (min_le_left _ _))
noncomputable abbrev EC (vl vu:Value):Obj:={cls:=.type "slice",data:=.fields #[vl,vu,.none]}
theorem uZ {z:Str}(lo hi:Option Int)(h:z.length<=lim):(fH lo hi z).length<=lim:=le_trans (by
 show (cut lo hi z.cps.toList).toArray.size<=_
 rw [size_toArray];exact eR lo hi _) h
theorem Bm {A:Around}{g:Gh}{σ:Sg}{s:Shared}{t y:T}{x vl vu:Value}{lo hi:Option Int}{value slice:Expr}{Q:Value->Shared->Prop}{E:Value->Shared->Prop}(w:bj P g s.heap σ)(q:im P g s.heap t x)(pl:IsPart vl lo)(pu:IsPart vu hi)(e:dc t lo hi=some y)
  (hs:∀x i,subscripted slice false x i=operate [i,x] (getItem x i))(hq:∀u s' g',aH g s g' s'->bj P g' s'.heap σ->Rp P g' s'.heap y u->Q u s'):
  wpAny P.M A (subscriptTail value slice x (.ref s.heap.objs.size)) Q E {s with heap:=s.heap.push (EC vl vu)}:=by
 have p:aH g s g {s with heap:=s.heap.push (EC vl vu),toks:=s.toks}:=.push _ _
 have w':bj P g (s.heap.push (EC vl vu)) σ:=w.push _
 have hsl:=Heap.IsSliceOf.new s.heap vl vu .none
 have q':=(im.post w p q).y
 have hq':∀u s' g',aH g {s with heap:=s.heap.push (EC vl vu)} g' s'->bj P g' s'.heap σ->Rp P g' s'.heap y u->Q u s':=fun u s' g' p'=>hq u s' g' (p.trans p')
 unfold dc at e
 cases e1:q7 t with
 |some ts=>
  rw [e1] at e;cases e
  have qt:=q'.tu e1
  obtain ⟨l,rfl,f,vs,n,g1,g3,g2⟩:=id qt
  have hl:=le_trans (eR lo hi ts) g3
  refine tail_any ⟨_,g1,rfl⟩ slot_tuple_getitem.lookup (jc (lo:=lo) (hi:=hi) g1 hsl pl pu (fun e=>?_) (rJ (tk:=s.toks) w' (g2.cut lo hi) hl hq') (bb (g2.size▸g3))) (hs _ _)
  exact hq' _ _ g (.refl _ _) w' (by rw [xx g2.length e];exact qt)
 |none=>cases e2:gr t with
  |some ts=>
   rw [e1,e2] at e;cases e
   obtain ⟨l,rfl,vs,n,g1,g3,g2⟩:=q'.ls e2
   have hl:=le_trans (eR lo hi ts) g3
   refine tail_any ⟨_,g1,rfl⟩ slot_list_getitem.lookup (wpAny_getItem_list_slice (lo:=lo) (hi:=hi) (st:=none) ⟨_,g1,rfl,n,rfl⟩ hsl pl pu .none (by simp) ?_ (bb (g2.size▸g3))) (hs _ _)
   rw [wh]
   exact jb (tk:=s.toks) w' (g2.cut lo hi) hl hq'
  |none=>
   rw [e1,e2] at e
   obtain ⟨z,e3,e4⟩:=az e
   obtain ⟨⟨g1,g2⟩,p',rfl⟩:=q'.s e3
   cases e4
   exact tail_any (typeIs_str _ z p') slot_str_getitem.lookup (j3 hsl pl pu (fun t' tk=>hq' _ _ g (.toks _ _ tk) w' ⟨⟨um g1 lo hi,uZ lo hi g2⟩,_,rfl⟩) g2) (hs _ _)
theorem aq.slc {a:Expr}{lo hi:Option Expr}{pa:PE}{pl ph:PO}{p pos:Pos}(ha:aq P B C a pa (RX P))(hl:rd P B C lo pl)(hh:rd P B C hi ph):aq P B C (.Subscript a (.Slice lo hi Option.none p) pos) (p3 dc pa pl ph) (RV P):=
 (ha.bind (N:=fun A env x Q E s=>wpAny P.M A (eval (.Slice lo hi Option.none p) env) (fun y s2=>wpAny P.M A (subscriptTail a (.Slice lo hi Option.none p) x y) Q E s2) E s) (F:=fun c ρ k t σ=>pl c ρ σ fun b σ=>ph c ρ σ fun x σ=>up (dc t b x) σ k) (R':=RV P) jt
  fun n A env g ga ρ σ s s₁ x t k Q E p X r hb hq=>by
   rw [arm_eval_Slice]
   refine wpAny_bind (hl n A env ga ρ σ s₁ _ _ _ X hb fun vl s2 gb l σ₂ ea pb w2 k2=>?_)
   refine wpAny_bind (wpAny_holding (hh n A env gb ρ σ₂ s2 _ _ _ (X.post pb w2) (fun q=>hb (ea.trans q)) fun vu s3 gc h σ₃ eb pc w3 k3=>?_))
   refine wpAny_bind (wpAny_holding (wpAny_pure (wpAny_newObj_type ?_ (by show (3:Nat)<=sizeLine+2;decide))))
   obtain ⟨y,e⟩:=bV fun q=>hb (ea.trans (eb.trans q))
   exact Bm w3 (im.post w2 pc (im.post X.g pb r)) k2 k3 e (fun _ _=>rfl) fun u s' g' p w r=>hq u s' g' y σ₃ (ea.trans (eb.trans (by rw [e];rfl))) ((pb.trans pc).trans p) w r).map fun _ _ _ _ _=>Subscript_
end
structure aS (V W:List Addr) (g:Gh) (s:Shared) (g':Gh) (s':Shared):Prop where
 st:∃h' tk,s'={s with heap:=h',toks:=tk}
 keep:∀a o,s.heap.get? a=some o->¬g.Z a->¬g.O a->a∉W->s'.heap.get? a=some o
 back:∀a,a∉V->s'.heap.get? a=none->s.heap.get? a=none
 F:∀a,g.F a->g'.F a
 Fn:∀a,g'.F a->g.F a\/g.O a\/s.heap.get? a=none
 Zn:∀a,g'.Z a->g.Z a\/s.heap.get? a=none
 On:∀a,g'.O a->g.O a\/s.heap.get? a=none
 sp:g'.sp=g.sp
 sa:g'.sa=g.sa
structure bC (V W:List Addr) (g:Gh) (s:Shared) (g':Gh) (s':Shared):Prop where
 st:∃h' tk,s'={s with heap:=h',toks:=tk}
 keep:∀a o,s.heap.get? a=some o->¬g.Z a->a∉W->s'.heap.get? a=some o
 back:∀a,a∉V->s'.heap.get? a=none->s.heap.get? a=none
 F:∀a,g.F a->g'.F a
 Fn:∀a,g'.F a->g.F a\/s.heap.get? a=none
 Zn:∀a,g'.Z a->g.Z a\/s.heap.get? a=none
 o:g'.o=g.o
 sp:g'.sp=g.sp
 sa:g'.sa=g.sa
inductive FW (P:Pg) (g:Gh) (h:Heap) (g':Gh) (h':Heap) (t:T) (x:Value):Prop
 |mk (a:Addr) (e:x=.ref a) (n:g.O a\/h.get? a=none) (f:¬g'.F a) (z:¬g'.Z a) (r:gP P g' h' a t)
noncomputable def re (P:Pg)(fr:Bool)(g:Gh)(h:Heap)(g':Gh)(h':Heap)(t:T)(x:Value):Prop:=match fr with
 |false=>Rp P g' h' t x
 |true=>FW P g h g' h' t x
noncomputable def dH (P:Pg)(B:br)(C:Ct)(fr:Bool)(C':Ct)(W:WP Flow)(p:PS):Prop:=
 ∀n A env g ρ σ s (k:PK aZ) (Q:Flow->Shared->Prop) (E:Value->Shared->Prop),At P B C n A env g ρ σ s->p (P.cx n) ρ σ k≠.bad->
  (∀s' g' ρ' σ',p (P.cx n) ρ σ k=k ρ' σ'->aS [] (own env) g s g' s'->At P B C' n A env g' ρ' σ' s'->Q .next s')->
  (∀x s' g' t σ',p (P.cx n) ρ σ k=.ret t σ'->aS [] (own env) g s g' s'->bj P g' s'.heap σ'->re P fr g s.heap g' s'.heap t x->Q (.ret x) s')->W A env Q E s
noncomputable abbrev aM (P:Pg)(B:br)(C:Ct)(fr:Bool)(C':Ct)(st:Stmt)(p:PS):Prop:=dH P B C fr C' (P.W fun env=>exec st env) p
noncomputable abbrev gO (P:Pg)(B:br)(C:Ct)(fr:Bool)(C':Ct)(ss:List Stmt)(p:PS):Prop:=dH P B C fr C' (P.W fun env=>execs ss env) p
section
variable {P:Pg} {B:br} {C C' C'':Ct} {fr:Bool} {n:Nat} {A:Around} {env:Env} {g g' g1 g2:Gh} {ρ:aZ} {σ:Sg} {s s' s₁ s2:Shared} {h h':Heap}
theorem aH.toS {W:List Addr}(p:aH g s g' s'):aS [] W g s g' s':=⟨p.st,fun a o e z _ _=>p.keep a o e z,fun a _=>p.back a,p.F,fun a f=>(p.Fn a f).imp_right .inr,p.Zn,fun a ⟨i,q⟩=>.inl ⟨i,p.o▸q⟩,p.sp,p.sa⟩
theorem aS.b {W:List Addr}(p:aS [] W g s g1 s₁)(a:Addr):s₁.heap.get? a=none->s.heap.get? a=none:=p.back a (fun q=>nomatch q)
theorem aS.trans {V W:List Addr}(p:aS [] W g s g1 s₁)(q:aS V W g1 s₁ g2 s2):aS V W g s g2 s2 where
 st:=St.trans p.st q.st
 keep a o e z o' w:=q.keep a o (p.keep a o e z o' w) (fun x=>(p.Zn a x).elim z (au e)) (fun x=>(p.On a x).elim o' (au e)) w
 back a v e:=p.b a (q.back a v e)
 F a f:=q.F a (p.F a f)
 Fn a f:=(q.Fn a f).elim (p.Fn a) fun x=>.inr (x.elim (p.On a) fun x=>.inr (p.b a x))
 Zn a f:=(q.Zn a f).elim (p.Zn a) fun x=>.inr (p.b a x)
 On a f:=(q.On a f).elim (p.On a) fun x=>.inr (p.b a x)
 sp:=q.sp.trans p.sp
 sa:=q.sa.trans p.sa
theorem aH.toE {W:List Addr}(p:aH g s g' s'):bC [] W g s g' s':=⟨p.st,fun a o e z _=>p.keep a o e z,fun a _=>p.back a,p.F,p.Fn,p.Zn,p.o,p.sp,p.sa⟩
theorem bC.toS {V W:List Addr}(p:bC V W g s g' s'):aS V W g s g' s':=⟨p.st,fun a o e z _=>p.keep a o e z,p.back,p.F,fun a f=>(p.Fn a f).imp_right .inr,p.Zn,fun a ⟨i,q⟩=>.inl ⟨i,p.o▸q⟩,p.sp,p.sa⟩
theorem bC.weak {V V' W W':List Addr}(p:bC V W g s g' s')(hv:∀a∈V,a∈V')(hw:∀a∈W,a∈W'):bC V' W' g s g' s':={p with keep:=fun a o e z n=>p.keep a o e z fun x=>n (hw a x),back:=fun a n=>p.back a fun x=>n (hv a x)}
theorem aS.weak {W W':List Addr}(p:aS [] W g s g' s')(hw:∀a∈W,a∈W'):aS [] W' g s g' s':={p with keep:=fun a o e z q n=>p.keep a o e z q fun x=>n (hw a x)}
theorem bC.trans {V W:List Addr}(p:bC [] W g s g1 s₁)(q:bC V W g1 s₁ g2 s2):bC V W g s g2 s2:=
 have b:∀a,s₁.heap.get? a=none->s.heap.get? a=none:=fun a=>p.back a (fun q=>nomatch q)
 ⟨St.trans p.st q.st,fun a o e z w=>q.keep a o (p.keep a o e z w) (fun x=>(p.Zn a x).elim z (au e)) w,fun a v e=>b a (q.back a v e),fun a f=>q.F a (p.F a f),fun a f=>(q.Fn a f).elim (p.Fn a) fun x=>.inr (b a x),fun a f=>(q.Zn a f).elim (p.Zn a) fun x=>.inr (b a x),q.o.trans p.o,q.sp.trans p.sp,q.sa.trans p.sa⟩
theorem bC.toP {V W:List Addr}(p:bC V W g s g' s')(hw:∀a∈W,s.heap.get? a=none)(hv:∀a∈V,s.heap.get? a=none):aH g s g' s':=
 ⟨p.st,fun a o e z=>p.keep a o e z fun x=>au e (hw a x),fun a e=>by
  by_cases x:a∈V
  .exact hv a x
  .exact p.back a x e,p.F,p.Fn,p.Zn,p.o,p.sp,p.sa⟩
theorem re.after {W:List Addr}{t:T}{x:Value}(p:aS [] W g s g1 s₁)(r:re P fr g1 s₁.heap g' h' t x):re P fr g s.heap g' h' t x:=by
 cases fr with
 |false=>exact r
 |true=>exact let ⟨a,e,n,f,z,r⟩:=r;⟨a,e,n.elim (p.On a) fun x=>.inr (p.b a x),f,z,r⟩
theorem dH.map {W W':WP Flow}{p:PS}(h:dH P B C fr C' W p)(hW:∀A env Q E s,W A env Q E s->W' A env Q E s):dH P B C fr C' W' p:=fun n A env g ρ σ s k Q E X hb hq hr=>hW A env Q E s (h n A env g ρ σ s k Q E X hb hq hr)
theorem dB.then {α Y:Type}{W:WP α}{p:PG Y}{R:RR α Y}{N:Around->Env->α->(Flow->Shared->Prop)->(Value->Shared->Prop)->Shared->Prop}{F:iK->aZ->PK aZ->PK Y}(h:dB P B C W p R)
  (hf:∀n A env g g1 ρ σ s s₁ x t (k:PK aZ) Q E,aH g s g1 s₁->At P B C n A env g1 ρ σ s₁->R s.heap g1 s₁.heap t x->F (P.cx n) ρ k t σ≠.bad->
   (∀s' g' ρ' σ',F (P.cx n) ρ k t σ=k ρ' σ'->aS [] (own env) g1 s₁ g' s'->At P B C' n A env g' ρ' σ' s'->Q .next s')->
   (∀x s' g' u σ',F (P.cx n) ρ k t σ=.ret u σ'->aS [] (own env) g1 s₁ g' s'->bj P g' s'.heap σ'->re P fr g1 s₁.heap g' s'.heap u x->Q (.ret x) s')->N A env x Q E s₁):
  dH P B C fr C' (fun A env Q E s=>W A env (fun x s₁=>N A env x Q E s₁) E s) (fun c ρ σ k=>p c ρ σ (F c ρ k)):=fun n A env g ρ σ s k Q E X hb hq hr=>
 h n A env g ρ σ s (F _ ρ k) _ E X hb fun x s₁ g1 t σ₁ e p w r=>hf n A env g g1 ρ σ₁ s s₁ x t k Q E p (X.post p w) r (fun q=>hb (e.trans q)) (fun s' g' ρ' σ' e' p' X'=>hq s' g' ρ' σ' (e.trans e') (p.toS.trans p') X')
  fun x s' g' u σ' e' p' w' r'=>hr x s' g' u σ' (e.trans e') (p.toS.trans p') w' (re.after (W:=own env) p.toS r')
theorem dH.nil:gO P B C fr C [] am:=fun n A env g ρ σ s k Q E X hb hq hr=>wpAny_execs_nil (hq s g ρ σ rfl (aH.refl g s).toS X)
theorem dH.cons {st:Stmt}{ss:List Stmt}{p ps:PS}(h:aM P B C fr C' st p)(hs:gO P B C' fr C'' ss ps):gO P B C fr C'' (st::ss) (ai p ps):=fun n A env g ρ σ s k Q E X hb hq hr=>by
 refine wpAny_execs_cons (h n A env g ρ σ s (fun ρ σ=>ps _ ρ σ k) _ E X hb (fun s₁ g1 ρ₁ σ₁ e p X1=>?_) fun x s₁ g1 t σ₁ e p w r=>hr x s₁ g1 t σ₁ e p w r)
 exact hs n A env g1 ρ₁ σ₁ s₁ k Q E X1 (fun q=>hb (e.trans q)) (fun s' g' ρ' σ' e' p' X'=>hq s' g' ρ' σ' (e.trans e') (p.trans p') X') fun x s' g' t σ' e' p' w' r'=>hr x s' g' t σ' (e.trans e') (p.trans p') w' (re.after p r')
theorem aM.if {t:Expr}{a b:List Stmt}{pt:PT}{pa pb:PS}{pos:Pos}(ht:cn P B C t pt)(h1:gO P B C fr C' a pa)(h2:gO P B C fr C' b pb):aM P B C fr C' (.If t a b pos) (bG pt pa pb):=
 (ht.then (N:=fun A env q Q E s=>wpAny P.M A (if q=true then execs a env else execs b env) Q E s) (F:=fun c ρ k q σ=>bif q then pa c ρ σ k else pb c ρ σ k) fun n A env g g1 ρ σ s s₁ x t k Q E p X r hb hq hr=>by
  cases r
  cases x with
  |true=>exact h1 n A env g1 ρ σ s₁ k Q E X hb hq hr
  |false=>exact h2 n A env g1 ρ σ s₁ k Q E X hb hq hr).map fun A env Q E s h=>wpAny_If (wpAny_mono h (fun q s₁ h=>by cases q<;>exact h) fun _ _ h=>h)
theorem aM.ret {e:Expr}{p:PE}{pos:Pos}(h:aq P B C e p (RV P)):aM P B C false C' (.Return (some e) pos) (aD p):=
 (h.then (fr:=false) (N:=fun A env x Q E s=>Q (.ret x) s) (F:=fun c ρ k t σ=>.ret t σ) fun n A env g g1 ρ σ s s₁ x t k Q E p X r hb hq hr=>hr x s₁ g1 t σ rfl (aH.refl g1 s₁).toS X.g r).map fun _ _ _ _ _=>wpAny_Return_some
theorem aM.retN {e:Expr}{p:PE}{pos:Pos}(h:aq P B C e p (RN P)):aM P B C true C' (.Return (some e) pos) (aD p):=fun n A env g ρ σ s k Q E X hb hq hr=>
 wpAny_Return_some (h n A env g ρ σ s (fun t σ=>.ret t σ) _ E X hb fun x s₁ g1 t σ₁ e p w r=>hr x s₁ g1 t σ₁ e p.toS w (let ⟨a,e,n,f,z,o,r⟩:=r;⟨a,e,.inr n,f,z,r⟩))
theorem aM.retO {i:Nat}{y:Str}{k:NameKind}{ep pos:Pos}(hv:bi C i=true)(ht:B.tab[i]?=some (some (y,k))):aM P B C true C' (.Return (some (.Name y ep)) pos) (aD (pV i)):=fun n A env g ρ σ s k Q E X hb hq hr=>by
 obtain ⟨t,e⟩:=bV hb
 obtain ⟨u,v,w⟩:=X.env.var i _ t ht e
 refine wpAny_Return_some (bh X ht v (hr u s g t σ (by show up (cI ρ i) σ _=_;rw [e];rfl) (aH.refl g s).toS X.g ?_))
 unfold bw at w
 rw [hv] at w
 obtain ⟨a,rfl,o,r⟩:=w
 exact ⟨a,rfl,.inl ⟨i,o⟩,(X.g.O a ⟨i,o⟩).2.1,(X.g.O a ⟨i,o⟩).2.2,r⟩
theorem aM.expr {e:Expr}{p:PE}{pos:Pos}(hw:∀env,swapsWith e none pos.line env=pure false)(h:aq P B C e p (RX P)):aM P B C fr C (.Expr e pos) (kO p):=fun n A env g ρ σ s k Q E X hb hq hr=>by
 show wpAny P.M A (exec (.Expr e pos) env) Q E s
 rw [exec_Expr env e pos (by simp [interactive,X.fn]) (hw env)]
 exact wpAny_bind (wpAny_standAt (wpAny_bind (h n A env g ρ σ s (fun _ σ=>k ρ σ) _ _ X hb fun x s₁ g1 t σ₁ e p w r=>wpAny_dropValue (hq s₁ g1 ρ σ₁ e p.toS (X.post p w)))))
theorem aM.bad {st:Stmt}:aM P B C fr C' st g9:=fun n A env g ρ σ s k Q E X hb hq hr=>absurd rfl hb
theorem gU {i j:Nat}{u:T}{v:Option T}:∀{r:aZ},cI (r.set i v) j=some u->(j=i/\v=some u)\/(j≠i/\cI r j=some u):=by
 induction i generalizing j with
 |zero=>
  intro r h
  cases r with
  |nil=>cases h
  |cons x r=>
   cases j with
   |zero=>exact .inl ⟨rfl,h⟩
   |succ j=>exact .inr ⟨Nat.succ_ne_zero _,h⟩
 |succ i ih=>
  intro r h
  cases r with
  |nil=>cases h
  |cons x r=>
   cases j with
   |zero=>exact .inr ⟨(Nat.succ_ne_zero _).symm,h⟩
   |succ j=>exact (ih (r:=r) h).imp (fun q=>⟨congrArg Nat.succ q.1,q.2⟩) fun q=>⟨fun e=>q.1 (Nat.succ.inj e),q.2⟩
theorem dt {i j:Nat}{v:Option T}(hn:j≠i):∀{r:aZ},cI r j=none->cI (r.set i v) j=none:=fun {r} h=>by
 cases e:cI (r.set i v) j with
 |none=>rfl
 |some u=>exact (gU e).elim (fun q=>(hn q.1).elim) fun q=>by rw [q.2] at h;cases h
theorem gv:∀{tab:List (Option (Str×NameKind))},(tab.filterMap (·.map (·.1))).Nodup->∀{i j:Nat} {x:Str} {k k':NameKind},tab[i]?=some (some (x,k))->tab[j]?=some (some (x,k'))->i=j
 | [],_,i,j,x,k,k',h,_=>nomatch h
 |none::r,hn,i,j,x,k,k',hi,hj=>match i,j,hi,hj with
  |i+1,j+1,hi,hj=>congrArg (·+1) (gv (tab:=r) hn hi hj)
 |some (y,q)::r,hn,i,j,x,k,k',hi,hj=>by
  have hn':(y::r.filterMap (·.map (·.1))).Nodup:=hn
  have out:∀{m:Nat} {q':NameKind},r[m]?=some (some (y,q'))->False:=fun {m q'} h=>(aK hn').1 (List.mem_filterMap.mpr ⟨_,mem_of_getElem? h,rfl⟩)
  cases i with
  |zero=>cases j with
   |zero=>rfl
   |succ j=>cases hi;exact (out hj).elim
  |succ i=>cases j with
   |zero=>cases hj;exact (out hi).elim
   |succ j=>exact congrArg (·+1) (gv (tab:=r) (aK hn').2 hi hj)
theorem br.inj {B:br}(h:B.ok=true){i j:Nat}{x:Str}{k k':NameKind}(hi:B.tab[i]?=some (some (x,k)))(hj:B.tab[j]?=some (some (x,k'))):i=j:=by
 simp only [br.ok,and_eq_true] at h
 exact gv (of_decide_eq_true h.2) hi hj
structure mu (C:Ct) (i:Nat) (C':Ct):Prop where
 m:C'.m=C.m
 o:∀j,j≠i->bi C' j=bi C j
 un:∀j∈C'.U,j≠i/\j∈C.U
noncomputable def ci (C:Ct)(i:Nat)(o:Bool)(C':Ct):Bool:=(C'.m==C.m)&&C.O.all (fun j=>Nat.beq j i||bi C' j)&&C'.O.all (fun j=>Nat.beq j i||bi C j)&&(o==bi C' i)&&C'.U.all (fun j=>!Nat.beq j i&&C.U.any (Nat.beq j))
theorem jr {l:List Nat}{i:Nat}(h:l.any (Nat.beq i)=true):i∈l:=by
 obtain ⟨j,h1,h2⟩:=List.any_eq_true.mp h
 exact eq_of_beq_eq_true h2▸h1
theorem xS {i j:Nat}(h:i≠j):Nat.beq i j=false:=by
 cases e:Nat.beq i j with
 |false=>rfl
 |true=>exact (h (eq_of_beq_eq_true e)).elim
theorem ee {i:Nat}{o:Bool}(h:ci C i o C'=true):mu C i C'/\bi C' i=o:=by
 simp only [ci,and_eq_true,all_eq_true,beq_iff_eq,not_eq_true'] at h
 obtain ⟨⟨⟨⟨h1,h2⟩,h3⟩,h4⟩,h5⟩:=h
 have key:∀{D D':Ct},(∀j∈D.O,(Nat.beq j i||bi D' j)=true)->∀j,j≠i->bi D j=true->bi D' j=true:=fun h j n q=>by
  have:=h j (jr q)
  rw [xS n] at this;exact this
 refine ⟨⟨h1,fun j n=>?_,fun j hj=>⟨fun q=>?_,jr (h5 j hj).2⟩⟩,h4.symm⟩
 .cases e:bi C j with
  |true=>exact key h2 j n e
  |false=>cases e':bi C' j with
   |false=>rfl
   |true=>rw [key h3 j n e'] at e;cases e
 .have:=(h5 j hj).1
  rw [q,beq_refl] at this;cases this
structure A4 (P:Pg) (env:Env) (g:Gh) (s:Shared) (h':Heap) (W:Addr):Prop where
 k:aR g s.heap g h'
 p:∀tk,bC [] [W] g s g {s with heap:=h',toks:=tk}
 lv:∀a,s.heap.get? a≠none->h'.get? a≠none
theorem Av {W:Addr}(x:bZ P B C env g ρ s.heap)(w:bj P g s.heap σ)(hW:W∈own env)(ho:∀b,b≠W->h'.get? b=s.heap.get? b)(hl:h'.get? W≠none):A4 P env g s h' W/\bj P g h' σ:=by
 have nf:∀a,g.F a\/g.Z a\/g.O a->h'.get? a=s.heap.get? a:=fun a q=>ho a fun e=>by
  obtain ⟨_,f,z,o⟩:=x.own W hW
  subst e;exact q.elim f fun q=>q.elim z o
 have kf:aR g s.heap g h':=⟨fun a f=>⟨f,fun o e=>(nf a (.inl f)).trans e⟩,rfl⟩
 have lv:∀a,s.heap.get? a≠none->h'.get? a≠none:=fun a l=>by
  by_cases q:a=W
  .exact q▸hl
  .rw [ho a q];exact l
 refine ⟨⟨kf,fun tk=>⟨⟨h',tk,rfl⟩,fun a o e _ n=>(ho a fun q=>n (q▸aA rfl)).trans e,fun a _ e=>?_,fun _ f=>f,fun _ f=>.inl f,fun _ f=>.inl f,rfl,rfl,rfl⟩,lv⟩,
  fun a o e=>⟨(w.base a o e).1,(nf a (.inl (w.base a o e).1)).trans (w.base a o e).2⟩,fun a f=>lv a (w.F a f),fun a z=>⟨lv a (w.Z a z).1,(w.Z a z).2⟩,fun a z=>⟨lv a (w.O a z).1,(w.O a z).2⟩,w.oo,
  ⟨let ⟨t,n,e⟩:=w.spot.1;⟨t,n,(nf _ (.inr (.inl w.spot.2.1))).trans e⟩,w.spot.2⟩,fun c ts e=>(w.self c ts e).mono kf (fun a z=>⟨z,fun o e=>(nf a (.inr (.inl z))).trans e⟩) rfl⟩
 by_cases q:s.heap.get? a=none
 .exact q
 .exact (lv a q e).elim
structure Gx (g g':Gh) (i:Nat):Prop where
 F:g'.F=g.F
 Z:g'.Z=g.Z
 sp:g'.sp=g.sp
 sa:g'.sa=g.sa
 o:∀j,j≠i->g'.o j=g.o j
theorem Gx.refl (g:Gh)(i:Nat):Gx g g i:=⟨rfl,rfl,rfl,rfl,fun _ _=>rfl⟩
theorem Gx.k {i:Nat}(x:Gx g g' i)(h:Heap):aR g h g' h:=⟨fun a f=>⟨x.F▸f,fun _ e=>e⟩,x.sp⟩
theorem bZ.forget {i:Nat}(x:bZ P B C env g ρ h)(hc:mu C i C')(q:Gx g g' i)(hno:∀a∈Mine.own env,¬g'.O a):bZ P B C' env g' (ρ.set i none) h:=
 {x with
  own:=fun a ha=>⟨(x.own a ha).1,q.F▸(x.own a ha).2.1,q.Z▸(x.own a ha).2.2.1,hno a ha⟩
  var:=fun j z v hj hv=>by
   rcases gU hv with ⟨_,e⟩ | ⟨n,e⟩
   .cases e
   .obtain ⟨u,h1,h2⟩:=x.var j z v hj e
    refine ⟨u,h1,?_⟩
    unfold bw at h2 ⊢
    rw [hc.o j n]
    cases e:bi C j with
    |true=>rw [e] at h2;exact let ⟨a,h3,h4,h5⟩:=h2;⟨a,h3,(q.o j n).trans h4,h5.mono (q.k h) fun _ e=>e⟩
    |false=>rw [e] at h2;exact h2.imp (·.mono (q.k h)) fun ⟨a,b,c,d⟩=>⟨hc.m.trans a,b,c,q.sa▸d⟩
  un:=fun j hj=>dt (hc.un j hj).1 (x.un j (hc.un j hj).2)}
theorem bZ.put {W:Addr}{i:Nat}{o:Option T}{u:Value}(x:bZ P B C env g ρ s.heap)(hi:i∉C.U)(hW:W∈Mine.own env)(T:A4 P env g s h' W)(ho:∀b,b≠W->h'.get? b=s.heap.get? b)
  (hv:cZ B env h' i u)(hns:∃m,h'.Ns env.locals m)(hcl:∀c u,s.heap.IsCell c u->∃u',h'.IsCell c u')(hot:∀j v,j≠i->cZ B env s.heap j v->cZ B env h' j v)(q:∀t,o=some t->bw P C g s.heap i t u):bZ P B C env g (ρ.set i o) h':=
 have mv:∀{j t u},bw P C g s.heap j t u->bw P C g h' j t u:=fun v=>v.move T.k rfl rfl fun a ha o e=>(ho a fun q=>(x.own W hW).2.2.2 (q▸ha)).trans e
 {x with
  ns:=hns
  cell:=fun j z kk hj hk=>let ⟨c,u,l,n⟩:=x.cell j z kk hj hk;let ⟨u',n'⟩:=hcl c u n;⟨c,u',l,n'⟩
  own:=fun a ha=>⟨T.lv a (x.own a ha).1,(x.own a ha).2⟩
  var:=fun j z v hj hv'=>(gU hv').elim (fun ⟨e,e'⟩=>by subst e;exact ⟨u,hv,mv (q v e')⟩) fun ⟨n,e⟩=>let ⟨u',h1,h2⟩:=x.var j z v hj e;⟨u',hot j u' n h1,mv h2⟩
  un:=fun j hj=>dt (fun q:j=i=>hi (q▸hj)) (x.un j hj)}
theorem wt {h:Heap}{L c:Addr}{m:Str->Option Value}{u:Option Value}(n:h.Ns L m)(k:h.IsCell c u):c≠L:=fun q=>by
 obtain ⟨o,es,ep,e,d,_⟩:=n
 obtain ⟨o',e',d'⟩:=k
 rw [q,e] at e';cases e';rw [d] at d';cases d'
theorem tj {h:Heap}{L:Addr}{m m':Str->Option Value}(n:h.Ns L m)(n':h.Ns L m'){x:Str}:m x=m' x:=by
 obtain ⟨o,es,ep,e,d,_,f⟩:=n
 obtain ⟨o',es',ep',e',d',_,f'⟩:=n'
 rw [e] at e';cases e';rw [d] at d';cases d'
 exact (f x).symm.trans (f' x)
noncomputable def Aw (k:NameKind)(x:Str)(env:Env):List Addr:=match k with
 |.local=>[env.locals]
 |_=>(env.cells.lookup x).toList
theorem c9 {k:NameKind}{x:Str}{env:Env}:∀a∈Aw k x env,a∈Mine.own env:=fun a ha=>by
 have hc:a∈(env.cells.lookup x).toList->a∈Mine.own env:=fun h=>mem_cons_of_mem _ (be (Option.mem_toList.mp h))
 cases k<;>first |exact hc ha |exact mem_cons.mpr (.inl (aa ha))
theorem nc {i:Nat}{y:Str}{k:NameKind}{o:Option T}{u:Value}{Q:Unit->Shared->Prop}{E:Value->Shared->Prop}(X:At P B C n A env g ρ σ s)(hi:i∉C.U)(ht:B.tab[i]?=some (some (y,k)))(hk:k=.local\/k=.cell)(q:∀t,o=some t->bw P C g s.heap i t u)
  (hq:∀s',bC [] (Aw k y env) g s g s'->At P B C n A env g (ρ.set i o) σ s'->cZ B env s'.heap i u->(∀j v,j≠i->cZ B env s.heap j v->cZ B env s'.heap j v)->Q () s'):wpAny P.M A (storeName env y u) Q E s:=by
 obtain ⟨h1,h2,_,_,_⟩:=br.look X.env.ok ht
 have hl:env.kindOf y=some k:=show env.scope.names.lookup y=_ from X.env.sc▸h2
 have tab:∀{j z kk},j≠i->B.tab[j]?=some (some (z,kk))->z≠y:=fun n hj e=>n (br.inj X.env.ok (e▸hj) ht)
 rcases hk with rfl |rfl
 .obtain ⟨m,hn⟩:=X.env.ns
  refine wpAny_storeName_local hl hn (fun h' hn' hs=>?_) (by rw [X.fn];rfl)
  obtain ⟨T,w⟩:=Av X.env X.g (W:=env.locals) mem_cons_self hs.2 (let ⟨o,_,_,e,_⟩:=hn';au e)
  have hot:∀j v,j≠i->cZ B env s.heap j v->cZ B env h' j v:=fun j v nj hv=>by
   cases hv with
   |loc z m' tz nz ez=>exact .loc z _ tz hn' (by rw [if_neg (tab nj tz),tj hn nz];exact ez)
   |cel z kk c tz hk' l nz=>
    obtain ⟨o,e,d⟩:=id nz
    exact .cel z kk c tz hk' l ⟨o,(hs.2 c (wt hn nz)).trans e,d⟩
  refine hq _ ((T.p _).weak (fun _ h=>h) fun a ha=>ha) ⟨X.good,X.call,X.room,X.env.put hi mem_cons_self T hs.2 (.loc y _ ht hn' (if_pos rfl)) ⟨_,hn'⟩ (fun c v hc=>?_) hot q,w⟩ (.loc y _ ht hn' (if_pos rfl)) hot
  obtain ⟨o,e,d⟩:=id hc
  exact ⟨v,o,(hs.2 c (wt hn hc)).trans e,d⟩
 .obtain ⟨c,u0,c1,c4⟩:=X.env.cell i y _ ht (.inl rfl)
  refine wpAny_storeName_cell X.fn hl c1 c4 fun h' hv' hs=>?_
  have hc:c∈own env:=mem_cons_of_mem _ (be c1)
  obtain ⟨T,w⟩:=Av X.env X.g hc hs.2 (let ⟨o,e,_⟩:=hv';au e)
  have nl:∀{m},s.heap.Ns env.locals m->h'.Ns env.locals m:=fun hn=>hn.at fun o e=>(hs.2 _ fun q=>wt hn c4 q.symm).trans e
  have hot:∀j v,j≠i->cZ B env s.heap j v->cZ B env h' j v:=fun j v nj hv=>by
   cases hv with
   |loc z m' tz nz ez=>exact .loc z m' tz (nl nz) ez
   |cel z kk d tz hk' l nz=>exact .cel z kk d tz hk' l (let ⟨o,e1,e2⟩:=nz;⟨o,(hs.2 d fun e=>tab nj tz (X.env.apart z y d l (e▸c1))).trans e1,e2⟩)
  refine hq _ ((T.p s.toks).weak (fun _ h=>h) fun a ha=>by rw [aa ha];exact Option.mem_toList.mpr c1) ⟨X.good,X.call,X.room,X.env.put hi hc T hs.2 (.cel y _ c ht (.inl rfl) c1 hv') (let ⟨m,hn⟩:=X.env.ns;⟨m,nl hn⟩) (fun d v hd=>?_) hot q,w⟩ (.cel y _ c ht (.inl rfl) c1 hv') hot
  by_cases e:d=c
  .exact ⟨_,e▸hv'⟩
  .exact let ⟨o,e1,e2⟩:=hd;⟨v,o,(hs.2 d e).trans e1,e2⟩
theorem iQ {i:Nat}{y:Str}{k:NameKind}{t:T}{u:Value}{Q:Unit->Shared->Prop}{E:Value->Shared->Prop}(X:At P B C n A env g ρ σ s)(hi:i∉C.U)(ht:B.tab[i]?=some (some (y,k)))(hk:k=.local\/k=.cell)(q:bw P C g s.heap i t u)
  (hq:∀s',bC [] (Aw k y env) g s g s'->At P B C n A env g (ρ.set i (some t)) σ s'->(∀j v,j≠i->cZ B env s.heap j v->cZ B env s'.heap j v)->Q () s'):wpAny P.M A (storeName env y u) Q E s:=
 nc (o:=some t) X hi ht hk (fun _ e=>Option.some.inj e▸q) fun s' p X' _ hot=>hq s' p X' hot
end
noncomputable def vk (e:Expr)(x:Str)(p:Pos)(l:Nat)(sc:Scope):Bool:=match e with
 |.ListComp _ _ s _ |.SetComp _ _ s _ |.DictComp _ _ _ s _=>(if sc.kind.isAnnotationScope then ScopeKind.function else sc.kind)==.function&&sc.names.lookup x==some .local&&p.line==e.pos.line
   &&!(s.names.any fun (n,k)=>n==x&&(k==.local||k==.cell))
 |_=>false
theorem jv {e:Expr}{x:Str}{p:Pos}{l:Nat}{env:Env}{sc:Scope}(h:env.scope=sc):swapsWith e (some (.Name x p)) l env=pure (vk e x p l sc):=by
 subst h
 cases e<;>first |rfl
section
variable {P:Pg} {B:br} {C C' C'':Ct} {fr:Bool} {n:Nat} {A:Around} {env:Env} {g g' g1 g2:Gh} {ρ:aZ} {σ:Sg} {s s' s₁ s2:Shared} {h h':Heap}
theorem mu.nu {i:Nat}(hc:mu C i C'):i∉C'.U:=fun q=>(hc.un i q).1 rfl
theorem set_set (ρ:aZ)(i:Nat)(a b:Option T):(ρ.set i a).set i b=ρ.set i b:=List.set_set ..
theorem gR {i:Nat}{y:Str}{k:NameKind}{t:T}{u:Value}{Q:Unit->Shared->Prop}{E:Value->Shared->Prop}(X:At P B C n A env g ρ σ s)(hc:ci C i false C'=true)(ht:B.tab[i]?=some (some (y,k)))(hk:k=.local\/k=.cell)(r:Rp P g s.heap t u)
  (hq:∀s',bC [] (Aw k y env) g s g s'->At P B C' n A env g (ρ.set i (some t)) σ s'->Q () s'):wpAny P.M A (storeName env y u) Q E s:=by
 obtain ⟨hs,ho⟩:=ee hc
 have X2:At P B C' n A env g (ρ.set i none) σ s:=⟨X.good,X.call,X.room,X.env.forget hs (.refl g i) fun a ha=>(X.env.own a ha).2.2.2,X.g⟩
 refine iQ X2 hs.nu ht hk (by unfold bw;rw [ho];exact .inl r) fun s' p X' _=>hq s' p ?_
 rw [set_set] at X';exact X'
theorem aM.set {i:Nat}{y:Str}{k:NameKind}{e:Expr}{p:PE}{ps pos:Pos}(hc:ci C i false C'=true)(ht:B.tab[i]?=some (some (y,k)))(hk:k=.local\/k=.cell)(hw:vk e y ps pos.line B.sc=false)(h:aq P B C e p (RV P)):
  aM P B C fr C' (.Assign [.Name y ps] e pos) (aI i p):=fun n A env g ρ σ s k Q E X hb hq hr=>
 wpAny_Assign_Name (h n A env g ρ σ s (fun v σ=>k (ρ.set i (some v)) σ) _ E X hb fun x s₁ g1 t σ₁ e p w r=>gR (X.post p w) hc ht hk r fun s' p' X'=>hq s' g1 _ σ₁ e (p.toS.trans (p'.toS.weak c9)) X') (by rw [jv X.env.sc,hw])
noncomputable def Gh.put (g:Gh)(i:Nat)(a:Option Addr):Gh:={g with o:=fun j=>bif Nat.beq j i then a else g.o j}
theorem gz (g:Gh)(i:Nat)(a:Option Addr):(g.put i a).o i=a:=by show (bif Nat.beq i i then a else _)=_;rw [beq_refl];rfl
theorem lg (g:Gh){i j:Nat}(a:Option Addr)(h:j≠i):(g.put i a).o j=g.o j:=by show (bif Nat.beq j i then a else _)=_;rw [xS h];rfl
theorem ir (g:Gh)(i:Nat)(a:Option Addr):Gx g (g.put i a) i:=⟨rfl,rfl,rfl,rfl,fun j h=>lg g a h⟩
theorem iZ {i:Nat}{a:Option Addr}{b:Addr}(h:(g.put i a).O b):a=some b\/∃j,j≠i/\g.o j=some b:=by
 obtain ⟨j,e⟩:=h
 by_cases q:j=i
 .subst q;rw [gz] at e;exact .inl e
 .rw [lg g a q] at e;exact .inr ⟨j,q,e⟩
theorem bj.put {i:Nat}{a:Option Addr}(w:bj P g h σ)(ha:∀b,a=some b->h.get? b≠none/\¬g.F b/\¬g.Z b/\¬g.O b):bj P (g.put i a) h σ:=
 ⟨w.base,w.F,w.Z,fun b q=>(iZ q).elim (fun e=>let ⟨h1,h2,h3,_⟩:=ha b e;⟨h1,h2,h3⟩) fun ⟨j,_,e⟩=>w.O b ⟨j,e⟩,fun j k b h1 h2=>by
  by_cases q:j=i
  .by_cases q':k=i
   .rw [q,q']
   .subst q;rw [gz] at h1;rw [lg g a q'] at h2;exact ((ha b h1).2.2.2 ⟨k,h2⟩).elim
  .rw [lg g a q] at h1
   by_cases q':k=i
   .subst q';rw [gz] at h2;exact ((ha b h2).2.2.2 ⟨j,h1⟩).elim
   .rw [lg g a q'] at h2;exact w.oo j k b h1 h2,w.spot,fun c ts e=>(w.self c ts e).mono ((ir g i a).k h) (fun _ z=>⟨z,fun _ e=>e⟩) rfl⟩
theorem aM.setN {i:Nat}{y:Str}{k:NameKind}{e:Expr}{p:PE}{ps pos:Pos}(hc:ci C i true C'=true)(ht:B.tab[i]?=some (some (y,k)))(hk:k=.local\/k=.cell)(hw:vk e y ps pos.line B.sc=false)(h:aq P B C e p (RN P)):
  aM P B C fr C' (.Assign [.Name y ps] e pos) (aI i p):=fun n A env g ρ σ s k Q E X hb hq hr=>by
 refine wpAny_Assign_Name (h n A env g ρ σ s (fun v σ=>k (ρ.set i (some v)) σ) _ E X hb fun x s₁ g1 t σ₁ e p w r=>?_) (by rw [jv X.env.sc,hw])
 obtain ⟨hs,ho⟩:=ee hc
 obtain ⟨a,rfl,nw,f,z,o,r⟩:=r
 have X1:=X.post p w
 have ow:∀b∈own env,¬(g1.put i (some a)).O b:=fun b hb q=>(iZ q).elim (fun q=>(X.env.own b hb).1 (Option.some.inj q▸nw)) fun ⟨j,_,q⟩=>(X1.env.own b hb).2.2.2 ⟨j,q⟩
 have pa:aS [] (own env) g s (g1.put i (some a)) s₁:={(p.toS:aS [] (own env) g s g1 s₁) with On:=fun b q=>(iZ q).elim (fun q=>.inr (Option.some.inj q▸nw)) fun ⟨j,_,q⟩=>.inl ⟨j,p.o▸q⟩}
 have X2:At P B C' n A env (g1.put i (some a)) (ρ.set i none) σ₁ s₁:=⟨X.good,X.call,X.room,X1.env.forget hs (ir g1 i _) ow,w.put fun b q=>Option.some.inj q▸⟨r.live,f,z,o⟩⟩
 refine wpAny_mono (iQ (E:=E) X2 hs.nu ht hk (by unfold bw;rw [ho];exact ⟨a,rfl,gz ..,r.mono ((ir g1 i _).k _) fun _ e=>e⟩) fun s' p' X' _=>hq s' _ _ σ₁ e (pa.trans (p'.toS.weak c9)) ?_) (fun _ _ h=>h) fun _ _ h=>h
 rw [set_set] at X';exact X'
theorem bZ.add {i:Nat}{t:T}{u:Value}(x:bZ P B C env g ρ h)(hi:i∉C.U)(hv:cZ B env h i u)(q:bw P C g h i t u):bZ P B C env g (ρ.set i (some t)) h:=
 {x with
  var:=fun j z v hj hv'=>(gU hv').elim (fun ⟨e,e'⟩=>by cases e';subst e;exact ⟨u,hv,q⟩) fun ⟨n,e⟩=>x.var j z v hj e
  un:=fun j hj=>dt (fun q:j=i=>hi (q▸hj)) (x.un j hj)}
theorem vY {i:Nat}{t:T}:∀{ρ:aZ},cI ρ i=some t->ρ.set i (some t)=ρ:=by
 induction i with
 |zero=>intro ρ h;cases ρ with
  |nil=>cases h
  |cons x r=>rw [show x=_ from h];rfl
 |succ i ih=>intro ρ h;cases ρ with
  |nil=>cases h
  |cons x r=>exact congrArg (x::·) (ih (ρ:=r) h)
theorem ic {i:Nat}:∀{ρ:aZ},cI ρ i=none->ρ.set i none=ρ:=by
 induction i with
 |zero=>intro ρ h;cases ρ with
  |nil=>rfl
  |cons x r=>rw [show x=_ from h];rfl
 |succ i ih=>intro ρ h;cases ρ with
  |nil=>rfl
  |cons x r=>exact congrArg (x::·) (ih (ρ:=r) h)
theorem DS {i:Nat}{y:Str×NameKind}(X:At P B C n A env g ρ σ s)(hv:bi C i=true)(hc:ci C i false C'=true)(ht:B.tab[i]?=some (some y)):∃g',aS [] (own env) g s g' s/\At P B C' n A env g' ρ σ s:=by
 obtain ⟨hs,ho⟩:=ee hc
 have w1:bj P (g.put i none) s.heap σ:=X.g.put fun _ q=>nomatch q
 have no:∀b∈own env,¬(g.put i none).O b:=fun b hb q=>(iZ q).elim (fun q=>nomatch q) fun ⟨j,_,q⟩=>(X.env.own b hb).2.2.2 ⟨j,q⟩
 have x1:=X.env.forget hs (ir g i none) no
 have on:∀b,(g.put i none).O b->g.O b:=fun b q=>(iZ q).elim (fun q=>nomatch q) fun ⟨j,_,q⟩=>⟨j,q⟩
 have p0:=(aH.refl g s).toS (W:=own env)
 cases e:cI ρ i with
 |none=>
  rw [ic e] at x1
  exact ⟨g.put i none,{p0 with On:=fun b q=>.inl (on b q)},X.good,X.call,X.room,x1,w1⟩
 |some t=>
  obtain ⟨u,v,q⟩:=X.env.var i y t ht e
  unfold bw at q
  rw [hv] at q
  obtain ⟨a,rfl,o,r⟩:=q
  have hO:=X.g.O a ⟨i,o⟩
  have na:¬(g.put i none).O a:=fun q=>(iZ q).elim (fun q=>nomatch q) fun ⟨j,n,q⟩=>n (X.g.oo j i a q o)
  have w2:=w1.freeze (a:=a) hO.1 hO.2.2 na
  have kf:aR (g.put i none) s.heap {g.put i none with F:=fun y=>g.F y\/y=a} s.heap:=⟨fun b f=>⟨.inl f,fun _ e=>e⟩,rfl⟩
  have x2:=x1.move (g':={g.put i none with F:=fun y=>g.F y\/y=a}) kf rfl rfl (fun _ _ _ e=>e) fun b hb=>⟨(X.env.own b hb).1,fun f=>f.elim (X.env.own b hb).2.1 fun e=>(X.env.own b hb).2.2.2 (e▸⟨i,o⟩),(X.env.own b hb).2.2.1⟩
  have x3:=x2.add hs.nu v (t:=t) (by unfold bw;rw [ho];exact .inl ((r.mono (((ir g i none).k _)) fun _ e=>e).mono kf (fun _ e=>e) |>.rp (.inr rfl)))
  rw [set_set,vY e] at x3
  exact ⟨{g.put i none with F:=fun y=>g.F y\/y=a},{p0 with F:=fun b f=>.inl f,Fn:=fun b f=>f.elim .inl fun q=>.inr (.inl (q▸⟨i,o⟩)),On:=fun b q=>.inl (on b q)},X.good,X.call,X.room,x3,w2⟩
theorem dH.fz {i:Nat}{y:Str×NameKind}{W:WP Flow}{p:PS}(hv:bi C i=true)(hc:ci C i false C'=true)(ht:B.tab[i]?=some (some y))(h:dH P B C' fr C'' W p):dH P B C fr C'' W p:=fun n A env g ρ σ s k Q E X hb hq hr=>by
 obtain ⟨g',pz,X'⟩:=DS X hv hc ht
 exact h n A env g' ρ σ s k Q E X' hb (fun s' g' ρ' σ' e p X=>hq s' g' ρ' σ' e (pz.trans p) X) fun x s' g' t σ' e p w r=>hr x s' g' t σ' e (pz.trans p) w (r.after pz)
theorem aM.while {test:Expr}{body:List Stmt}{t:PT}{pb:PS}{pos:Pos}(m:Nat)(ht:cn P B C test t)(hb:gO P B C fr C body pb):aM P B C fr C (.While test body [] pos) (ju m t pb):=fun n A env g ρ σ s k Q E X hbad hq hr=>by
 refine wpAny_While ?_
 refine codeAny_whileLoop (fun m' s₁=>∃g1 ρ₁ σ₁,At P B C n A env g1 ρ₁ σ₁ s₁/\aS [] (own env) g s g1 s₁/\ju m t pb (P.cx n) ρ σ k=fN t pb (P.cx n) m' ρ₁ σ₁ k) ?_ m ⟨g,ρ,σ,X,(aH.refl g s).toS,rfl⟩
 rintro m' s₁ ⟨g1,ρ₁,σ₁,X1,p1,e1⟩
 cases m' with
 |zero=>exact absurd (e1.trans vA) hbad
 |succ m'=>
  rw [iM] at e1
  refine ht n A env g1 ρ₁ σ₁ s₁ _ _ _ X1 (fun q=>hbad (e1.trans q)) fun b s2 g2 b' σ₂ e2 p2 wa r2=>?_
  cases r2
  have X2:=X1.post p2 wa
  have p₁₂:=p1.trans p2.toS
  cases b with
  |true=>
   refine hb n A env g2 ρ₁ σ₂ s2 _ _ _ X2 (fun q=>hbad (e1.trans (e2.trans q))) (fun s3 g3 ρ₃ σ₃ e3 p3 X3=>?_) fun x s3 g3 t σ₃ e3 p3 w3 r3=>?_
   .exact ⟨m',Nat.lt_succ_self m',g3,ρ₃,σ₃,X3,p₁₂.trans p3,e1.trans (e2.trans e3)⟩
   .exact hr x s3 g3 t σ₃ (e1.trans (e2.trans e3)) (p₁₂.trans p3) w3 (r3.after p₁₂)
  |false=>exact wpAny_execs_nil (hq s2 g2 ρ₁ σ₂ (e1.trans e2) p₁₂ X2)
end
noncomputable def j8 (g:Gh)(env:Env)(vol:List Addr):Prop:=∀a∈vol,¬g.F a/\¬g.Z a/\¬g.O a/\a∉own env
structure my (P:Pg) (A:Around) (I:Addr) (ts:List T) (vol fx:List Addr) (St:Nat->Gh->Heap->Prop):Prop where
 self:∀i g s (Q:Value->Shared->Prop) (E:Value->Shared->Prop),St i g s.heap->Q (.ref I) s->wpAny P.M A (pyIter (.ref I)) Q E s
 stay:∀i g h g' h',St i g h->aR g h g' h'->(∀a∈vol++fx,∀o,h.get? a=some o->h'.get? a=some o)->St i g' h'
 here:∀i g h,St i g h->∀a∈vol++fx,h.get? a≠none
 item:∀i t g s (Q:Option Value->Shared->Prop) (E:Value->Shared->Prop),ts[i]?=some t->St i g s.heap->(∀a∈vol,¬g.F a)->
  (∀u h' tk,(∀a o,s.heap.get? a=some o->a∉vol->h'.get? a=some o)->Rp P g h' t u->St (i+1) g h'->Q (some u) {s with heap:=h',toks:=tk})->wpAny P.M A (pyNext (.ref I)) Q E s
 done:∀g s (Q:Option Value->Shared->Prop) (E:Value->Shared->Prop),St ts.length g s.heap->(∀h' tk,(∀a o,s.heap.get? a=some o->a∉vol->h'.get? a=some o)->Q none {s with heap:=h',toks:=tk})->wpAny P.M A (pyNext (.ref I)) Q E s
structure jU (P:Pg) (A:Around) (B:br) (C C':Ct) (target:Expr) (zb:PB) (tw:Env->List Addr) (I:Addr) (ts:List T) (vol fx:List Addr) (St:Nat->Gh->Heap->Prop):Prop where
 sub:∀env,∀a∈tw env,a∈own env
 self:∀i g s (Q:Value->Shared->Prop) (E:Value->Shared->Prop),St i g s.heap->Q (.ref I) s->wpAny P.M A (pyIter (.ref I)) Q E s
 stay:∀i g h g' h',St i g h->aR g h g' h'->(∀a∈vol++fx,∀o,h.get? a=some o->h'.get? a=some o)->St i g' h'
 here:∀i g h,St i g h->∀a∈vol++fx,h.get? a≠none
 item:∀i t n env g ρ ρ' σ s (Q:Shared->Prop) (E:Value->Shared->Prop),ts[i]?=some t->At P B C n A env g ρ σ s->j8 g env (vol++fx)->St i g s.heap->zb t ρ=some ρ'->
  (∀s',bC [] (vol++tw env) g s g s'->At P B C' n A env g ρ' σ s'->St (i+1) g s'.heap->Q s')->
  wpAny P.M A (pyNext (.ref I)) (fun r s₁=>match r with
   |none=>False
   |some u=>wpAny P.M A (letOwnedTupleGo target (.ref I) u) (fun _ s2=>wpAny P.M A (assign target env u) (fun _ s3=>Q s3) E s2) E s₁) E s
 done:∀n env g ρ σ s (Q:Shared->Prop) (E:Value->Shared->Prop),At P B C n A env g ρ σ s->j8 g env (vol++fx)->St ts.length g s.heap->(∀s',bC vol vol g s g s'->At P B C n A env g ρ σ s'->Q s')->
  wpAny P.M A (pyNext (.ref I)) (fun r s₁=>match r with |none=>Q s₁ |some _=>False) E s
section
variable {P:Pg} {B:br} {C C' C'':Ct} {fr:Bool} {n:Nat} {A:Around} {env:Env} {g g' g1 g2:Gh} {ρ:aZ} {σ:Sg} {s s' s₁ s2:Shared} {h h':Heap}
theorem j8.post {vol:List Addr}(v:j8 g env vol)(l:∀a∈vol,s.heap.get? a≠none)(p:aS [] (own env) g s g' s'):j8 g' env vol/\∀a∈vol,∀o,s.heap.get? a=some o->s'.heap.get? a=some o:=
 ⟨fun a ha=>let ⟨f,z,o,w⟩:=v a ha;⟨fun q=>(p.Fn a q).elim f fun q=>q.elim o (l a ha),fun q=>(p.Zn a q).elim z (l a ha),fun q=>(p.On a q).elim o (l a ha),w⟩,fun a ha o e=>let ⟨_,z,q,w⟩:=v a ha;p.keep a o e z q w⟩
theorem aS.k {V W:List Addr}(p:aS V W g s g' s')(w:bj P g s.heap σ)(hW:∀a∈W,¬g.F a):aR g s.heap g' s'.heap:=⟨fun a f=>⟨p.F a f,fun o e=>p.keep a o e (fun z=>(w.Z a z).2 f) (fun q=>(w.O a q).2.1 f) fun q=>hW a q f⟩,p.sp⟩
theorem xf {target:Expr}{body:List Stmt}{zb:PB}{tw:Env->List Addr}{pb:PS}{I:Addr}{ts:List T}{vol fx:List Addr}{St:Nat->Gh->Heap->Prop}{k:PK aZ}{R:Result->Shared->Prop}(T:jU P A B C C' target zb tw I ts vol fx St)(hbody:gO P B C' fr C body pb):
  ∀(rest:List Mine.T) (i:Nat) (g:Gh) (ρ:aZ) (σ:Sg) (s:Shared),i<=ts.length->ts.drop i=rest->At P B C n A env g ρ σ s->j8 g env (vol++fx)->St i g s.heap->cc zb pb (P.cx n) rest ρ σ k≠.bad->
   (∀s' g' ρ' σ',cc zb pb (P.cx n) rest ρ σ k=k ρ' σ'->aS vol (vol++own env) g s g' s'->At P B C n A env g' ρ' σ' s'->R (.ok .next) s')->
   (∀x s' g' t σ',cc zb pb (P.cx n) rest ρ σ k=.ret t σ'->aS [] (vol++own env) g s g' s'->bj P g' s'.heap σ'->re P fr g s.heap g' s'.heap t x->R (.ok (.ret x)) s')->
   codeAny P.M A (.forLoop target (.ref I) body [] env) R s:=by
 intro rest
 induction rest with
 |nil=>
  intro i g ρ σ s hle hd X hv st hb hq hr
  obtain rfl:i=ts.length:=le_antisymm hle (List.drop_eq_nil_iff.mp hd)
  refine codeAny_of_tree ?_
  show wpAny P.M A ((forTurn target (.ref I) body [] env).onRaise (fun x=>do noteFrame x env;theTreesLotGoes x)) _ _ s
  refine wpAny_noted ?_
  simp only [forTurn]
  refine wpAny_bind (wpAny_standAt (wpAny_bind (wpAny_onRaise (wpAny_mono (T.done n env g ρ σ s (fun s'=>R (.ok .next) s') (notedBy P.M A env fun e s'=>R (.error e) s') X hv st fun s' p X'=>hq s' g ρ σ rfl (p.weak (fun _ h=>h) fun a=>mem_append_left _).toS X') (fun r s₁ h1=>?_) fun _ _ h'=>wpAny_standAt h'))))
  cases r with
  |none=>exact wpAny_pure ⟨rfl,codeAny_block (wpAny_execs_nil h1)⟩
  |some u=>exact h1.elim
 |cons v rest ih=>
  intro i g ρ σ s hle hd X hv st hb hq hr
  have hiv:ts[i]?=some v:=by rw [<-List.head?_drop,hd];rfl
  have hi:i < ts.length:=(aj hiv).1
  have hd':ts.drop (i+1)=rest:=by rw [<-List.tail_drop,hd];rfl
  cases hρ:zb v ρ with
  |none=>rw [xg,hρ] at hb;exact absurd rfl hb
  |some ρ'=>
   have e1:cc zb pb (P.cx n) (v::rest) ρ σ k=pb (P.cx n) ρ' σ fun ρ σ=>cc zb pb (P.cx n) rest ρ σ k:=by rw [xg,hρ]
   rw [e1] at hb hq hr
   refine codeAny_of_tree ?_
   show wpAny P.M A ((forTurn target (.ref I) body [] env).onRaise (fun x=>do noteFrame x env;theTreesLotGoes x)) _ _ s
   refine wpAny_noted ?_
   simp only [forTurn]
   refine wpAny_bind (wpAny_standAt (wpAny_bind (wpAny_onRaise (wpAny_mono (T.item i v n env g ρ ρ' σ s (fun s3=>wpAny P.M A (execs body env) (fun f s4=>match f with
     |.next |.cont=>codeAny P.M A (.forLoop target (.ref I) body [] env) R s4
     |.brk=>R (.ok .next) s4
     |.ret v=>R (.ok (.ret v)) s4) (notedBy P.M A env fun e s'=>R (.error e) s') s3) (notedBy P.M A env fun e s'=>R (.error e) s') hiv X hv st hρ fun s3 p3 X3 st3=>?_) (fun r s₁ h1=>?_) fun _ _ h'=>wpAny_standAt h'))))
   .have lv3:=T.here _ _ _ st3
    replace p3:=(p3.weak (fun _ h=>h) fun a h=>(ak h).elim (mem_append_left _) fun h=>mem_append_right vol (T.sub env a h)).toS
    refine hbody n A env g ρ' σ s3 _ _ _ X3 hb (fun s4 g4 ρ₄ σ₄ e4 p4 X4=>?_) fun x s4 g4 t σ₄ e4 p4 w4 r4=>?_
    .rw [e4] at hb hq hr
     have p₃₄:=p3.trans (p4.weak fun a=>mem_append_right vol)
     obtain ⟨hv4,kp⟩:=hv.post lv3 p4
     exact ih (i+1) g4 ρ₄ σ₄ s4 hi hd' X4 hv4 (T.stay _ _ _ _ _ st3 (p4.k X3.g fun a ha=>(X3.env.own a ha).2.1) kp) hb (fun s' g' ρ' σ' e p X=>hq s' g' ρ' σ' e (p₃₄.trans p) X) fun x s' g' t σ' e p w r=>hr x s' g' t σ' e (p₃₄.trans p) w (r.after p₃₄)
    .exact hr x s4 g4 t σ₄ e4 (p3.trans (p4.weak fun a=>mem_append_right vol)) w4 (r4.after p3)
   .cases r with
    |none=>exact h1.elim
    |some u=>
     refine wpAny_bind (wpAny_mono h1 (fun _ s2 h2=>wpAny_bind (wpAny_mono h2 (fun _ s3 h3=>wpAny_bind (wpAny_mono h3 (fun f s4 h4=>?_) fun _ _ h'=>h')) fun _ _ h'=>h')) fun _ _ h'=>h')
     cases f with
     |next=>exact wpAny_pure ⟨rfl,h4⟩
     |cont=>exact wpAny_pure ⟨rfl,h4⟩
     |brk=>exact wpAny_pure h4
     |ret v=>exact wpAny_pure h4
noncomputable def A5 (P:Pg)(B:br)(C:Ct)(n:Nat)(A:Around)(env:Env)(g:Gh)(ρ:aZ)(σ:Sg)(s:Shared)(iter:Expr)(mk:Around->Addr->List T->List Addr->List Addr->(Nat->Gh->Heap->Prop)->Prop)(p:PL):Prop:=
 ∀(k:PK (List T)) (Q:Value->Shared->Prop) (E:Value->Shared->Prop),At P B C n A env g ρ σ s->p (P.cx n) ρ σ k≠.bad->
  (∀s' g' ts σ' I vol fx St,p (P.cx n) ρ σ k=k ts σ'->aH g s g' s'->bj P g' s'.heap σ'->mk A I ts vol fx St->St 0 g' s'.heap->(∀a∈vol,s.heap.get? a=none/\¬g'.F a/\¬g'.Z a)->j8 g' env fx->ts.length<=lim->Q (.ref I) s')->
  wpAny P.M A (eval iter env) (fun x s₁=>wpAny P.M A (pyIter x) Q E s₁) E s
noncomputable def fq (P:Pg)(B:br)(C:Ct)(iter:Expr)(mk:Around->Addr->List T->List Addr->List Addr->(Nat->Gh->Heap->Prop)->Prop)(p:PL):Prop:=
 ∀n A env g ρ σ s,A5 P B C n A env g ρ σ s iter mk p
theorem aM.for {iter target:Expr}{zb:PB}{tw:Env->List Addr}{pi:PL}{body:List Stmt}{pb:PS}{pos:Pos}(hs:∀env x,foldedSetIterable iter env x=pure x)(hi:fq P B C iter (fun A I ts vol fx St=>jU P A B C C' target zb tw I ts vol fx St) pi)(hb:gO P B C' fr C body pb):
  aM P B C fr C (.For target iter body [] pos) (cU pi zb pb):=fun n A env g ρ σ s k Q E X hbad hq hr=>by
 refine wpAny_For (hi n A env g ρ σ s (fun xs σ=>cc zb pb _ xs ρ σ k) _ _ X hbad fun s₁ g1 ts σ₁ I vol fx St e p w T st hv hx hl=>?_) (hs env)
 have X1:=X.post p w
 have dr:∀{V s' g'},(∀a∈V,a∈vol)->aS V (vol++own env) g1 s₁ g' s'->aS [] (own env) g s g' s':=fun {V s' g'} hV q=>
  have qb:∀a,s'.heap.get? a=none->s.heap.get? a=none:=fun a e=>by
   by_cases x:a∈vol
   .exact (hv a x).1
   .exact p.back a (q.back a (fun y=>x (hV a y)) e)
  ⟨Mine.St.trans p.st q.st,fun a o e z o' w=>q.keep a o (p.keep a o e z) (fun x=>(p.Zn a x).elim z (au e)) (fun ⟨i,x⟩=>o' ⟨i,p.o▸x⟩) fun x=>(ak x).elim (fun x=>au e (hv a x).1) w,fun a _ e=>qb a e,fun a f=>q.F a (p.F a f),
   fun a f=>(q.Fn a f).elim (fun f=>(p.Fn a f).imp_right .inr) fun x=>.inr (x.imp (fun ⟨i,x⟩=>⟨i,p.o▸x⟩) (p.back a)),fun a f=>(q.Zn a f).elim (p.Zn a) fun x=>.inr (p.back a x),fun a f=>(q.On a f).imp (fun ⟨i,x⟩=>⟨i,p.o▸x⟩) (p.back a),q.sp.trans p.sp,q.sa.trans p.sa⟩
 exact xf T hb ts 0 g1 ρ σ₁ s₁ (zero_le _) rfl X1 (fun a ha=>(ak ha).elim (fun ha=>⟨(hv a ha).2.1,(hv a ha).2.2,fun ⟨i,q⟩=>(X.g.O a ⟨i,p.o▸q⟩).1 (hv a ha).1,fun q=>(X.env.own a q).1 (hv a ha).1⟩) (hx a)) st (fun q=>hbad (e.trans q))
  (fun s' g' ρ' σ' e' p' X'=>hq s' g' ρ' σ' (e.trans e') (dr (fun _ q=>q) p') X') fun x s' g' t σ' e' p' w' r'=>hr x s' g' t σ' (e.trans e') (dr (V:=[]) (fun _ (q:_∈[])=>nomatch q) p') w' (r'.after (p.toS (W:=[])))
theorem dK {vol:List Addr}(X:At P B C n A env g ρ σ s)(hv:j8 g env vol)(k:∀a o,s.heap.get? a=some o->a∉vol->h'.get? a=some o)(tk:Nat):bC vol vol g s g {s with heap:=h',toks:=tk}/\At P B C n A env g ρ σ {s with heap:=h',toks:=tk}:=by
 have kk:∀a,g.F a\/g.Z a\/g.O a\/a∈own env->∀o,s.heap.get? a=some o->h'.get? a=some o:=fun a q o e=>k a o e fun x=>let ⟨f,z,o,w⟩:=hv a x;q.elim f fun q=>q.elim z fun q=>q.elim o w
 have kf:aR g s.heap g h':=⟨fun a f=>⟨f,kk a (.inl f)⟩,rfl⟩
 have lo:∀a,g.F a\/g.Z a\/g.O a\/a∈own env->s.heap.get? a≠none->h'.get? a≠none:=fun a q l=>by
  cases e:s.heap.get? a with
  |none=>exact (l e).elim
  |some o=>exact au (kk a q o e)
 refine ⟨⟨⟨h',tk,rfl⟩,fun a o e _ n=>k a o e n,fun a v e=>?_,fun _ f=>f,fun _ f=>.inl f,fun _ f=>.inl f,rfl,rfl,rfl⟩,X.good,X.call,X.room,
  X.env.move kf rfl rfl (fun a q=>kk a (.inr (.inr q))) fun a ha=>⟨lo a (.inr (.inr (.inr ha))) (X.env.own a ha).1,(X.env.own a ha).2.1,(X.env.own a ha).2.2.1⟩,
  fun a o e=>⟨(X.g.base a o e).1,kk a (.inl (X.g.base a o e).1) o (X.g.base a o e).2⟩,fun a f=>lo a (.inl f) (X.g.F a f),fun a z=>⟨lo a (.inr (.inl z)) (X.g.Z a z).1,(X.g.Z a z).2⟩,fun a z=>⟨lo a (.inr (.inr (.inl z))) (X.g.O a z).1,(X.g.O a z).2⟩,X.g.oo,
  ⟨let ⟨t,n,e⟩:=X.g.spot.1;⟨t,n,kk _ (.inr (.inl X.g.spot.2.1)) _ e⟩,X.g.spot.2⟩,fun c ts e=>(X.g.self c ts e).mono kf (fun a z=>⟨z,kk a (.inr (.inl z))⟩) rfl⟩
 cases q:s.heap.get? a with
 |none=>rfl
 |some o=>exact (au (k a o q v) e).elim
theorem eC {vol W:List Addr}(p:bC vol W g s g' s')(lv:∀a∈vol,s'.heap.get? a≠none):bC [] W g s g' s':={p with back:=fun a _ e=>p.back a (fun q=>lv a q e) e}
theorem my.one {I:Addr}{ts:List T}{vol fx:List Addr}{St:Nat->Gh->Heap->Prop}(T:my P A I ts vol fx St){i:Nat}{y:Str}{k:NameKind}{p:Pos}(hc:ci C i false C'=true)(ht:B.tab[i]?=some (some (y,k)))(hk:k=.local\/k=.cell):jU P A B C C' (.Name y p) (bx i) (Aw k y) I ts vol fx St where
 sub env:=c9
 self:=T.self
 stay:=T.stay
 here:=T.here
 item j t n env g ρ ρ' σ s Q E hj X hv st hρ hq:=by
  cases hρ
  have hvv:j8 g env vol:=fun a ha=>hv a (mem_append_left _ ha)
  refine T.item j t g s _ _ hj st (fun a ha=>(hvv a ha).1) fun u h' tk hkp r st'=>?_
  obtain ⟨pV,X1⟩:=dK X hvv hkp tk
  have pV:=eC pV fun a ha=>T.here _ _ _ st' a (mem_append_left _ ha)
  show wpAny P.M A (pure ()) _ _ _
  refine wpAny_pure (wpAny_assign_Name (gR X1 hc ht hk r fun s' p' X'=>hq s' ((pV.weak (fun _ h=>h) fun a=>mem_append_left _).trans (p'.weak (fun _ h=>h) fun a=>mem_append_right vol)) X' ?_))
  have pS:=p'.toS.weak c9
  exact T.stay _ _ _ _ _ st' (pS.k X1.g fun a ha=>(X1.env.own a ha).2.1) (hv.post (s:={s with heap:=h',toks:=tk}) (T.here _ _ _ st') pS).2
 done n env g ρ σ s Q E X hv st hq:=T.done g s _ _ st fun h' tk hkp=>let ⟨pV,X1⟩:=dK X (fun a ha=>hv a (mem_append_left _ ha)) hkp tk;hq _ pV X1
end
section
variable {P:Pg} {B:br} {C C' C'':Ct} {fr:Bool} {n:Nat} {A:Around} {env:Env} {g g' ga gb:Gh} {ρ:aZ} {σ:Sg} {s s' s₁ s2:Shared} {h h':Heap}
theorem bA {pos:Pos}{l:List (Bool×Sem Value)}(h:∀q∈l,q.1=false):∀q∈backTo pos l,q.1=false:=fun q hq=>by
 obtain ⟨p,h1,rfl⟩:=aF (show q∈List.map _ l from hq)
 exact h p h1
theorem gK {M:Model}{E:Value->Shared->Prop}{f:Value}{trees:List (Bool×Sem Value)}{Q:PySem.Args->Shared->Prop}(hp:∀p∈trees,p.1=false)
  (h:wpAny M A (spliced trees) (fun vs s'=>Q ⟨vs,[]⟩ s') E s):wpAny M A (evalArgs f true trees []) Q E s:=by
 cases trees with
 |nil=>
  unfold evalArgs
  show wpAny M A (spliced [] >>=_) Q E s
  refine wpAny_bind (wpAny_mono h (fun vs s' h'=>?_) fun _ _ x=>x)
  exact wpAny_holding (wpAny_bind (wpAny_pure (wpAny_bind (wpAny_pure (wpAny_pure h')))))
 |cons t r=>
  obtain ⟨b,x⟩:=t
  obtain rfl:b=false:=hp (b,x) mem_cons_self
  exact Calls.evalArgs_plain h
theorem At.base (X:At P B C n A env g ρ σ s):∀a o,P.h₀.get? a=some o->s.heap.get? a=some o:=fun a o e=>(X.g.base a o e).2
theorem At.blt (X:At P B C n A env g ρ σ s){x:Str}{pos:Pos}{v:Value}{Q:Value->Shared->Prop}{E:Value->Shared->Prop}(hx:B.sc.names.lookup x=some .globalImplicit)(hd:(x==("__debug__":Str))=false)
  (hm:x∈iA)(hv:bootBuiltins x=some v)(h:Q v s):wpAny P.M A (eval (.Name x pos) env) Q E s:=
 have ⟨g1,g2⟩:=X.good.blt x hm
 Calls.Name_function_global X.fn (show env.scope.names.lookup x=_ from X.env.sc▸hx) (Calls.loadGlobal_builtin (mg:=P.mg) (mb:=P.mb) (X.env.glob▸X.good.g.keeps X.base) g1 (X.env.blt▸X.good.b.keeps X.base) (g2.trans hv) h) hd
theorem wo {o:c7}{k:PK T}(h:ti o k≠.bad):∃t σ,o=.ret t σ:=by
 cases o with
 |ret t σ=>exact ⟨t,σ,rfl⟩
 |_=>exact absurd (by with_unfolding_all rfl) h
theorem A6.after {fr:Bool}{t:T}{x:Value}{he:Heap}(b:∀a,he.get? a=none->h.get? a=none)(r:A6 P fr he g' h' t x):A6 P fr h g' h' t x:=by
 cases fr with
 |false=>exact r
 |true=>exact Cn _ _ _ _ _ _ b r
noncomputable abbrev RF (P:Pg)(f:Nat):RR Value T:=fun h g' h' t x=>A6 P (j4 f) h g' h' t x
theorem GZ (f:Nat):Dn (RF P f):=fun _ _ _ _ _ _ b r=>r.after b
theorem qN {f:Nat}{ts:List T}{vs:List Value}{t:T}{σ':Sg}{Q:Value->Shared->Prop}{E:Value->Shared->Prop}(X:At P B C n A env g ρ σ s)(r:Args P (rA f) g s.heap ts vs)(e:ah P.Ψ n f ts σ=.ret t σ')(hq:∀x s' g',aH g s g' s'->bj P g' s'.heap σ'->A6 P (j4 f) s.heap g' s'.heap t x->Q x s'):
  wpAny P.M A (PySem.call (.ref (P.fnA f)) vs) Q E s:=
 wpAny_call (codeAny_mono (X.call n (le_refl n) f A ts vs g σ s t σ' Q E X.room.c X.g r e hq) fun r s' q=>by
  match r,q with
  |.ok (.ret u),q=>exact q
  |.ok .next,q=>exact q.elim
  |.ok .brk,q=>exact q.elim
  |.ok .cont,q=>exact q.elim
  |.error u,q=>exact q)
theorem aq.callF {y:Str}{f:Nat}{F:gj}{es:List Expr}{ps:PL}{p pos:Pos}(hf:P.Ψ f=some F)(hn:P.gl f=true/\(P.fd f).name=y)(hm:rA f=false)(hx:B.sc.names.lookup y=some .globalImplicit)(hd:(y==("__debug__":Str))=false)(h:gp P B C es ps):
  aq P B C (.Call (.Name y p) es [] pos) (ax f ps) (RF P f):=fun n A env g ρ σ s k Q E X hb hq=>by
 obtain ⟨o,g1,g2,g3,g4⟩:=X.good.fn f F hf
 refine Call_Name rfl (X.glob hx hd (hn.2▸g3 hn.1) ?_)
 refine Calls.callWith_function (fd:=P.fd f) (o:=o) (gK (bA (h.pl env)) (h.sim pos n A env g ρ σ s _ _ E X hb fun xs s₁ ga ts σ₁ e p w r=>?_))
 have X1:=X.post p w
 obtain ⟨t,σ₂,ea⟩:=wo fun q=>hb (e.trans q)
 exact ⟨⟨X1.base _ _ g1,g2⟩,qN X1 (by rw [hm];exact r) ea fun x s' g' p' w' r'=>hq x s' g' t σ₂ (e.trans (by rw [ea,AF])) (p.trans p') w' (r'.after p.back)⟩
theorem aq.call {y:Str}{f:Nat}{F:gj}{es:List Expr}{ps:PL}{p pos:Pos}(hf:P.Ψ f=some F)(hn:P.gl f=true/\(P.fd f).name=y)(hm:rA f=false)(hfr:j4 f=false)(hx:B.sc.names.lookup y=some .globalImplicit)(hd:(y==("__debug__":Str))=false)(h:gp P B C es ps):
  aq P B C (.Call (.Name y p) es [] pos) (ax f ps) (RV P):=(aq.callF hf hn hm hx hd h).weak fun _ _ _ _ _ r=>by unfold RF A6 at r;rw [hfr] at r;exact r
theorem aq.callN {y:Str}{f:Nat}{F:gj}{es:List Expr}{ps:PL}{p pos:Pos}(hf:P.Ψ f=some F)(hn:P.gl f=true/\(P.fd f).name=y)(hm:rA f=false)(hfr:j4 f=true)(hx:B.sc.names.lookup y=some .globalImplicit)(hd:(y==("__debug__":Str))=false)(h:gp P B C es ps):
  aq P B C (.Call (.Name y p) es [] pos) (ax f ps) (RN P):=(aq.callF hf hn hm hx hd h).weak fun _ _ _ _ _ r=>by unfold RF A6 at r;rw [hfr] at r;exact r
theorem bf {M:Model}{E:Value->Shared->Prop}{pos:Pos}{f:Value}{first:List Value}{args:List (Bool×Sem Value)}{Q:Value->Shared->Prop}(hf:∀a,f≠.ref a)(hp:∀p∈args,p.1=false)
  (h:wpAny M A (spliced args) (fun vs s₁=>wpAny M A (PySem.call f (first++vs) []) Q E s₁) E s):wpAny M A (callWith pos f first args []) Q E s:=by
 have hany:args.any (·.1)=false:=List.any_eq_false.mpr fun p hp'=>by rw [hp p hp'];decide
 have h':=gK (f:=f) (Q:=fun a s₁=>wpAny M A (PySem.call f (first++a.pos) a.kw) Q E s₁) hp h
 have hkp:keeperOf f=pure .machine:=by
  cases f<;>first |rfl |exact absurd rfl (hf _)
 unfold callWith
 refine wpAny_bind (wpAny_holding (wpAny_mono h' (fun a s₁ he=>wpAny_bind (wpAny_standAt ?_)) fun _ _ x=>x))
 rw [hkp,hany]
 refine wpAny_bind (wpAny_pure ?_)
 exact wpAny_bind (wpAny_mono he (fun r s2 hr=>wpAny_bind (wpAny_holding (wpAny_point (wpAny_pure hr)))) fun _ _ x=>x)
theorem aq.b1Y {y:Str}{id:Value}{F:T->Option T}{e:Expr}{p:PE}{pn pos:Pos}{R:RR Value T}(hd:Dn R)(o:vt P (CG P fun x=>PySem.call id [x]) F R)(hid:∀a,id≠.ref a)(hx:B.sc.names.lookup y=some .globalImplicit)(hdb:(y==("__debug__":Str))=false)(hm:y∈iA)(hv:bootBuiltins y=some id)
  (hn:∀env,starEach [e] env=[(false,eval e env)])(h:aq P B C e p (RY P)):aq P B C (.Call (.Name y pn) [e] [] pos) (p1 F p) R:=fun n A env g ρ σ s k Q E X hb hq=>
 Call_Name rfl (X.blt hx hdb hm hv (bf hid (bA (by rw [hn env];exact fun q hq=>by cases hq with |head=>rfl |tail _ h=>cases h))
  (wpAny_items_cons (wpAny_mono (h.op1 hd o n A env g ρ σ s k Q E X hb hq) (fun _ _ q=>wpAny_items_nil q) fun _ _ q=>q) (hn env))))
theorem aq.b1 {y:Str}{id:Value}{F:T->Option T}{e:Expr}{p:PE}{pn pos:Pos}{R:RR Value T}(hd:Dn R)(o:vt P (CG P fun x=>PySem.call id [x]) F R)(hid:∀a,id≠.ref a)(hx:B.sc.names.lookup y=some .globalImplicit)(hdb:(y==("__debug__":Str))=false)(hm:y∈iA)(hv:bootBuiltins y=some id)
  (hn:∀env,starEach [e] env=[(false,eval e env)])(h:aq P B C e p (RX P)):aq P B C (.Call (.Name y pn) [e] [] pos) (p1 F p) R:=.b1Y hd o hid hx hdb hm hv hn h.xy
theorem gH {I:Addr}{h h':Heap}(hs:∀b,b≠I->h'.get? b=h.get? b):∀a o,h.get? a=some o->a∉[I]->h'.get? a=some o:=fun a o e q=>(hs a fun x=>q (x▸aA rfl)).trans e
theorem sg {I:Addr}{h h':Heap}(hs:∀b,b≠I->h'.get? b=h.get? b)(hI:¬g.F I):aR g h g h':=⟨fun a f=>⟨f,fun o e=>(hs a fun q=>hI (q▸f)).trans e⟩,rfl⟩
theorem my.list (hh:A.handled=none){I l:Addr}{ts:List T}{vs:Array Value}{m:Nat}:my P A I ts [I] [] (fun i g h=>h.IsListIter I l i/\g.F l/\h.get? l=some (bm vs m)/\aO P g h ts vs.toList) where
 self i g s Q E st:=wpAny_pyIter_listiter st.1
 stay i g h g' h' st k ki:=by
  obtain ⟨⟨o,e,r⟩,f,e',q⟩:=st
  exact ⟨⟨o,ki I (aA rfl) o e,r⟩,(k.F l f).1,(k.F l f).2 _ e',q.mono k⟩
 here i g h st a ha:=by
  obtain ⟨⟨o,e,_⟩,_⟩:=st
  rw [aa ha];exact au e
 item i t g s Q E hi st hF hq:=by
  obtain ⟨it,f,e',q⟩:=st
  obtain ⟨u,hu,r⟩:=q.get hi
  refine wpAny_pyNext_list_item it ⟨_,e',rfl,m,rfl⟩ (by rw [<-Array.getElem?_toList];exact hu) fun h' it' hs=>?_
  have kf:=sg hs.2 (hF I (aA rfl))
  exact hq u h' s.toks (gH hs.2) (r.mono kf) ⟨it',f,(kf.F l f).2 _ e',q.mono kf⟩
 done g s Q E st hq:=by
  obtain ⟨it,f,e',q⟩:=st
  refine wpAny_pyNext_list_end hh it ⟨_,e',rfl,m,rfl⟩ (Array.getElem?_eq_none (le_of_eq q.size)) fun h' hs=>hq h' s.toks fun b o e hb=>hs b o (fun q=>hb (aA q)) e
theorem my.tuple (hh:A.handled=none){I l:Addr}{ts:List T}{vs:Array Value}{m:Nat}:my P A I ts [I] [] (fun i g h=>h.IsTupleIter I l i/\g.F l/\h.get? l=some (eW vs m)/\aO P g h ts vs.toList) where
 self i g s Q E st:=wpAny_pyIter_tupleiter st.1
 stay i g h g' h' st k ki:=by
  obtain ⟨⟨o,e,r⟩,f,e',q⟩:=st
  exact ⟨⟨o,ki I (aA rfl) o e,r⟩,(k.F l f).1,(k.F l f).2 _ e',q.mono k⟩
 here i g h st a ha:=by
  obtain ⟨⟨o,e,_⟩,_⟩:=st
  rw [aa ha];exact au e
 item i t g s Q E hi st hF hq:=by
  obtain ⟨it,f,e',q⟩:=st
  obtain ⟨u,hu,r⟩:=q.get hi
  refine wpAny_pyNext_tuple_item it ⟨_,e',rfl,m,rfl⟩ (by rw [<-Array.getElem?_toList];exact hu) fun h' it' hs=>?_
  have kf:=sg hs.2 (hF I (aA rfl))
  exact hq u h' s.toks (gH hs.2) (r.mono kf) ⟨it',f,(kf.F l f).2 _ e',q.mono kf⟩
 done g s Q E st hq:=by
  obtain ⟨it,f,e',q⟩:=st
  exact wpAny_pyNext_tuple_end hh it ⟨_,e',rfl,m,rfl⟩ (Array.getElem?_eq_none (le_of_eq q.size)) fun h' hs=>hq h' s.toks fun b o e hb=>hs b o (fun q=>hb (aA q)) e
noncomputable abbrev uR (c:String)(l:Addr):Obj:={cls:=.type c,data:=.fields #[.ref l,.int 0 0]}
noncomputable abbrev yh (P:Pg)(B:br)(C C':Ct)(target:Expr)(zb:PB)(tw:Env->List Addr):Around->Addr->List T->List Addr->List Addr->(Nat->Gh->Heap->Prop)->Prop:=fun A I ts vol fx St=>jU P A B C C' target zb tw I ts vol fx St
structure iI (P:Pg) (mk:Around->Addr->List T->List Addr->List Addr->(Nat->Gh->Heap->Prop)->Prop):Prop where
 make:∀{A I ts vol fx St},my P A I ts vol fx St->mk A I ts vol fx St
theorem iI.one {i:Nat}{y:Str}{k:NameKind}{p:Pos}(hc:ci C i false C'=true)(ht:B.tab[i]?=some (some (y,k)))(hk:k=.local\/k=.cell):iI P (yh P B C C' (.Name y p) (bx i) (Aw k y)):=⟨fun T=>T.one hc ht hk⟩
theorem oH {X:Obj}{tk:Nat}(w:bj P ga s₁.heap σ)(p:aH g s ga s₁):aH g s ga {s₁ with heap:=s₁.heap.push X,toks:=tk}/\bj P ga (s₁.heap.push X) σ/\∀a∈[s₁.heap.objs.size],s.heap.get? a=none/\¬ga.F a/\¬ga.Z a:=
 ⟨p.trans (.push X tk),w.push X,fun a ha=>by rw [aa ha];exact ⟨p.back _ (aJ _),(de w).1,(de w).2.1⟩⟩
theorem fq.seq {e:Expr}{p:PE}{mk:Around->Addr->List T->List Addr->List Addr->(Nat->Gh->Heap->Prop)->Prop}(hb:iI P mk)(h:aq P B C e p (RV P)):fq P B C e mk (bK p):=fun n A env g ρ σ s k Q E X hbad hq=>
 h n A env g ρ σ s (fun t σ=>up (iV t) σ k) _ E X hbad fun x s₁ ga t σ₁ e p w r=>by
  obtain ⟨ts,e'⟩:=bV fun q=>hbad (e.trans q)
  have ek:bK _ (P.cx n) ρ σ k=k ts σ₁:=e.trans (by rw [e'];rfl)
  unfold iV el at e'
  cases e1:q7 t with
  |some us=>
   rw [e1] at e';cases e';cases jI e1
   obtain ⟨l,rfl,f,vs,m,g1,g3,g2⟩:=r
   refine wpAny_pyIter_tuple ⟨_,g1,rfl,m,rfl⟩ ?_
   obtain ⟨p',w',v⟩:=oH (X:=uR "tuple_iterator" l) (tk:=s₁.toks) w p
   exact hq _ ga ts σ₁ _ _ [] _ ek p' w' (hb.make (my.tuple X.room.2.2)) ⟨⟨_,bD _,rfl,rfl⟩,f,bO s₁ _ _ _ g1,g2.mono ((aH.push (uR "tuple_iterator" l) 0).k w)⟩ v (fun _ q=>nomatch q) g3
  |none=>
   rw [e1] at e';cases eU e'
   obtain ⟨l,rfl,f,vs,m,g1,g3,g2⟩:=r
   refine wpAny_pyIter_list ⟨_,g1,rfl,m,rfl⟩ ?_
   obtain ⟨p',w',v⟩:=oH (X:=uR "list_iterator" l) (tk:=s₁.toks) w p
   exact hq _ ga ts σ₁ _ _ [] _ ek p' w' (hb.make (my.list X.room.2.2)) ⟨⟨_,bD _,rfl,rfl⟩,f,bO s₁ _ _ _ g1,g2.mono ((aH.push (uR "list_iterator" l) 0).k w)⟩ v (fun _ q=>nomatch q) g3
theorem my.range (hh:A.handled=none){I:Addr}{a b c:Int}(n:Nat)(hn:n=(Builtin.Range.rangeSize a b c).toNat):my P A I (cV a b c) [I] [] (fun i _ h=>i<=n/\IsRangeIter h I (a+(i:Nat) * c) ((n:Int) - (i:Nat)) c) where
 self i g s Q E st:=wpAny_pyIter_rangeiter st.2
 stay i g h g' h' st k ki:=⟨st.1,ki I (aA rfl) _ st.2⟩
 here i g h st a ha:=by rw [aa ha];exact au st.2
 item i t g s Q E hi st hF hq:=by
  have hl:i < n:=by
   have:=(aj hi).1
   rw [cV,length_map,length_range,<-hn] at this;exact this
  have ht:t=.int (a+(i:Nat) * c):=by
   rw [cV,getElem?_map,List.getElem?_range (by rw [<-hn];exact hl)] at hi
   exact (Option.some.inj hi).symm
  refine wpAny_pyNext_range_item st.2 (by lia -abstractProof) fun h' hit hs=>hq _ h' _ (gH hs.2) (ht▸⟨_,rfl⟩) ⟨hl,?_⟩
  have e1:a+((i+1:Nat):Int) * c=a+(i:Int) * c+c:=by rw [Int.natCast_succ,Int.add_mul,Int.one_mul,Int.add_assoc]
  have e2:(n:Int) - ((i+1:Nat):Int)=(n:Int) - (i:Int) - 1:=by lia -abstractProof
  rw [e1,e2];exact hit
 done g s Q E st hq:=by
  have hl:(cV a b c).length=n:=by rw [cV,length_map,length_range,hn]
  exact wpAny_pyNext_range_end hh st.2 (by rw [hl];lia -abstractProof) fun h' hs=>hq h' s.toks fun b o e hb=>hs b o (fun q=>hb (aA q)) e
theorem AQ {i:Int}(h1:-4000000000<=i)(h2:i<=4000000000):Builtin.Range.rangeFitsLong i=true:=and_eq_true_iff.mpr ⟨decide_eq_true (Int.le_trans (by decide) h1),decide_eq_true (Int.lt_of_le_of_lt h2 (by decide))⟩
theorem s1 {i:Int}(h:sm i=true):-1000000000<=i/\i<=1000000000:=
 have q:(i.natAbs:Int)<=1000000000:=bJ (vR h)
 ⟨Int.neg_le_of_neg_le (Int.le_trans (Int.natAbs_neg i▸le_natAbs) q),Int.le_trans le_natAbs q⟩
theorem Ax {a b:Int}(ha:sm a=true)(hb:sm b=true):0<=(if a < b then (b - a - 1) / 1+1 else 0:Int)/\(if a < b then (b - a - 1) / 1+1 else 0:Int)<=4000000000:=by
 by_cases h:a < b
 .rw [if_pos h,ediv_one,Int.sub_add_cancel];exact ⟨Int.sub_nonneg.mpr (Int.le_of_lt h),Int.le_trans (Int.sub_le_sub (s1 hb).2 (s1 ha).1) (by decide)⟩
 .rw [if_neg h];decide
theorem AP {a:Int}(h:sm a=true):Builtin.Range.rangeFitsLong a=true:=AQ (Int.le_trans (by decide) (s1 h).1) (Int.le_trans (s1 h).2 (by decide))
theorem F9 {a b c n d:Int}(ha:sm a=true)(hb:sm b=true)(hc:Builtin.Range.rangeFitsLong c=true)(hn:0<=n/\n<=4000000000)(hd:d=b):(Builtin.Range.rangeFitsLong a&&Builtin.Range.rangeFitsLong b&&Builtin.Range.rangeFitsLong c&&Builtin.Range.rangeFitsLong n&&(n==0||Builtin.Range.rangeFitsLong d))=true:=by
 rw [AP ha,hd,AP hb,hc,AQ (Int.le_trans (by decide) hn.1) hn.2,Bool.or_true];rfl
theorem yK {a b:Int}(ha:sm a=true)(hb:sm b=true):0<=Builtin.Range.rangeSize a b 1/\Builtin.Range.small a b 1=true:=by
 have e:Builtin.Range.rangeSize a b 1=if a < b then (b - a - 1) / 1+1 else 0:=if_pos (by decide)
 have h:=Ax ha hb
 rw [<-e] at h
 exact ⟨h.1,F9 ha hb (by decide) h (Int.add_zero b)⟩
inductive GQ (ts:List T) (vs:List Value) (l:List T):Prop
 |one (n:Int) (t:Tok) (e:vs=[.int n t]) (h:rg 0 n=some l)
 |two (m n:Int) (t u:Tok) (e:vs=[.int m t,.int n u]) (h:rg m n=some l)
theorem rN {ts l:List T}{vs:List Value}(r:aO P g h ts vs)(e:yk ts=some l):GQ ts vs l:=by
 unfold yk at e
 cases ts with
 |nil=>cases e
 |cons m r1=>
  obtain ⟨x,xs,e1,q1,q2⟩:=r
  cases r1 with
  |nil=>
   obtain ⟨i,h1,h2⟩:=az (show o1 (iD m) (rg 0)=some l from e)
   cases mo h1
   obtain ⟨t,rfl⟩:=q1
   cases q2
   exact .one i t e1 h2
  |cons m' r2=>
   obtain ⟨x',xs',e2,q3,q4⟩:=q2
   cases r2 with
   |nil=>
    obtain ⟨i,j,h1,h2,h3⟩:=aU (show o2 (iD m) (iD m') rg=some l from e)
    cases mo h1;cases mo h2
    obtain ⟨t,rfl⟩:=q1
    obtain ⟨u,rfl⟩:=q3
    cases q4
    exact .two i j t u (e2▸e1) h3
   |cons=>cases e
noncomputable abbrev Fl (a b:Int)(t u v:Tok):Obj:={cls:=.type "range",data:=.fields #[.int a t,.int b u,.int 1 v]}
theorem fq.range {es:List Expr}{ps:PL}{p pos:Pos}{mk:Around->Addr->List T->List Addr->List Addr->(Nat->Gh->Heap->Prop)->Prop}(hb:iI P mk)(hx:B.sc.names.lookup (ofString "range")=some .globalImplicit)(h:gp P B C es ps):
  fq P B C (.Call (.Name (ofString "range") p) es [] pos) mk (dW ps):=fun n A env g ρ σ s k Q E X hbad hq=>by
 refine Call_Name rfl (X.blt hx (by decide) (by decide) (v:=.type "range") (by decide) ?_)
 refine bf (fun _ q=>by cases q) (bA (h.pl env)) (h.sim pos n A env g ρ σ s (fun t σ=>up (yk t) σ k) _ E X hbad fun xs s₁ ga ts σ₁ e p w r=>?_)
 obtain ⟨l,e'⟩:=bV fun q=>hbad (e.trans q)
 have ek:dW ps (P.cx n) ρ σ k=k l σ₁:=e.trans (by rw [e'];rfl)
 have fin:∀(a b:Int) (t u v:Tok) (tk:Nat),rg a b=some l->wpAny P.M A (pyIter (.ref s₁.heap.objs.size)) Q E {s₁ with heap:=s₁.heap.push (Fl a b t u v),toks:=tk}:=fun a b t u v tk hr=>by
  obtain ⟨c,rfl⟩:=cC hr
  obtain ⟨c1,c2⟩:=af c
  obtain ⟨c3,c4⟩:=af c1
  obtain ⟨hsz,hsm⟩:=yK c3 c4
  refine wpAny_pyIter_range (IsRange.new s₁.heap a b 1 t u v) hsm ?_
  obtain ⟨p',w',_⟩:=oH (X:=Fl a b t u v) (tk:=tk) w p
  obtain ⟨p'',w'',v''⟩:=oH (s₁:={s₁ with heap:=s₁.heap.push (Fl a b t u v),toks:=tk}) (X:={cls:=.type "range_iterator",data:=.fields #[rawInt a,rawInt (Builtin.Range.rangeSize a b 1),rawInt 1]}) (tk:=tk) w' p'
  refine hq _ ga _ σ₁ _ _ [] _ ek p'' w'' (hb.make (my.range X.room.2.2 (Builtin.Range.rangeSize a b 1).toNat rfl)) ⟨zero_le _,?_⟩ v'' (fun _ q=>nomatch q) (fT c2)
  have e1:a+((0:Nat):Int) * 1=a:=by simp
  have e2:(((Builtin.Range.rangeSize a b 1).toNat:Int) - ((0:Nat):Int))=Builtin.Range.rangeSize a b 1:=by lia -abstractProof
  show IsRangeIter _ _ _ _ _
  rw [e1,e2];exact bD _
 rcases rN r e' with ⟨m,t,rfl,hr⟩ | ⟨m,m',t,u,rfl,hr⟩
 .exact call_range_1 (fin 0 m _ t _ _ hr)
 .exact call_range_2 (fin m m' t u _ _ hr)
end
theorem nR {kind:Str->Option NameKind}{x:Str}:∀(l:List (Str×Value)) (m:Str->Option Value),(∀p∈l,p.1≠x)->bindL kind l m x=m x
 | [],_,_=>rfl
 | (y,v)::r,m,h=>by
  rw [bindL,nR r _ fun p hp=>h p (mem_cons_of_mem _ hp)]
  have hy:¬x=y:=fun e=>h (y,v) mem_cons_self e.symm
  split
  .simp [hy]
  .rfl
theorem nU {kind:Str->Option NameKind}{x:Str}:∀(l:List (Str×Value)) (m:Str->Option Value),(∀p∈l,p.1≠x)->bindC kind l m x=m x
 | [],_,_=>rfl
 | (y,v)::r,m,h=>by
  rw [bindC,nU r _ fun p hp=>h p (mem_cons_of_mem _ hp)]
  have hy:¬x=y:=fun e=>h (y,v) mem_cons_self e.symm
  split
  .rfl
  .simp [hy]
theorem kN {x:Str}{ps:List Str}{vs:List Value}(h:x∉ps):∀p∈ps.zip vs,p.1≠x:=fun p hp e=>h (e▸(List.of_mem_zip (a:=p.1) (b:=p.2) hp).1)
theorem qW {kind:Str->Option NameKind}:∀(ps:List Str) (vs:List Value) (m:Str->Option Value),ps.Nodup->∀(i:Nat) (x:Str) (v:Value),ps[i]?=some x->vs[i]?=some v->kind x=some .local->bindL kind (ps.zip vs) m x=some v
 | [],_,_,_,i,x,v,h,_,_=>by simp at h
 |_::_,[],_,_,i,x,v,_,h,_=>by simp at h
 |y::ps,u::vs,m,hn,0,x,v,hx,hv,hk=>by
  simp at hx hv;subst hx hv
  rw [List.zip_cons_cons,bindL,nR _ _ (kN (aK hn).1),if_pos hk];simp
 |y::ps,u::vs,m,hn,i+1,x,v,hx,hv,hk=>by
  rw [List.zip_cons_cons,bindL]
  exact qW ps vs _ (aK hn).2 i x v (by simpa using hx) (by simpa using hv) hk
theorem qX {kind:Str->Option NameKind}:∀(ps:List Str) (vs:List Value) (m:Str->Option Value),ps.Nodup->∀(i:Nat) (x:Str) (v:Value),ps[i]?=some x->vs[i]?=some v->kind x≠some .local->bindC kind (ps.zip vs) m x=some v
 | [],_,_,_,i,x,v,h,_,_=>by simp at h
 |_::_,[],_,_,i,x,v,_,h,_=>by simp at h
 |y::ps,u::vs,m,hn,0,x,v,hx,hv,hk=>by
  simp at hx hv;subst hx hv
  rw [List.zip_cons_cons,bindC,nU _ _ (kN (aK hn).1),if_neg hk];simp
 |y::ps,u::vs,m,hn,i+1,x,v,hx,hv,hk=>by
  rw [List.zip_cons_cons,bindC]
  exact qX ps vs _ (aK hn).2 i x v (by simpa using hx) (by simpa using hv) hk
theorem oM {cs:List (Str×Addr)}(h:cs.Pairwise fun x y=>x.2≠y.2):∀{x y:Str} {c:Addr},cs.lookup x=some c->cs.lookup y=some c->x=y:=by
 induction cs with
 |nil=>intro x y c hx;cases hx
 |cons p r ih=>
  intro x y c hx hy
  obtain ⟨z,d⟩:=p
  have h1:=(pairwise_cons.mp h).1
  rw [lookup_cons] at hx hy
  have out:∀{w:Str},r.lookup w=some d->False:=fun {w} e=>by
   obtain ⟨q,hq,e'⟩:=aF (be e)
   exact h1 q hq e'.symm
  cases hx':(x==z) with
  |true=>
   simp only [hx'] at hx;cases hx
   cases hy':(y==z) with
   |true=>exact (beq_iff_eq.mp hx').trans (beq_iff_eq.mp hy').symm
   |false=>simp only [hy'] at hy;exact (out hy).elim
  |false=>
   simp only [hx'] at hx
   cases hy':(y==z) with
   |true=>simp only [hy'] at hy;cases hy;exact (out hx).elim
   |false=>simp only [hy'] at hy;exact ih (pairwise_cons.mp h).2 hx hy
structure EB (P:Pg) (f np:Nat) (tab:List (Option (Str×NameKind))) (ps:List Str) (bd:List Stmt) (U:List Nat):Prop where
 body:(P.fd f).body=.stmts bd
 ok:br.ok ⟨(P.fd f).scope,tab⟩=true
 len:ps.length=np
 par:∀(i:Nat) (x:Str),ps[i]?=some x->∃k:NameKind,tab[i]?=some (some (x,k))/\(k=.local\/k=.cell)
 nof:∀(i:Nat) (x:Str),tab[i]?≠some (some (x,.free))
 bind:∀vals:List Value,vals.length=np->bindArgs (P.fd f) ⟨vals,[]⟩=pure (ps.zip vals)
 nd:((cellsFrom 0 (P.fd f).scope.names []).map (·.1)).Nodup
 co:(P.fd f).scope.isCoroutine=false/\(P.fd f).scope.isGenerator=false
 un:∀i∈U,np<=i
inductive vg (P:Pg) (f:Nat) (F:gj):Prop
 |mk (tab:List (Option (Str×NameKind))) (ps:List Str) (bd:List Stmt) (U:List Nat) (C':Ct) (K:EB P f F.np tab ps bd U) (sim:gO P ⟨(P.fd f).scope,tab⟩ ⟨[],U,rA f⟩ (j4 f) C' bd F.body)
theorem mw.deeper {A:Around}{n:Nat}(env:Env)(h:mw A (n+1)):Al (A.deeper env) n:=by
 obtain ⟨h1,h2,h3⟩:=h
 refine ⟨?_,?_,h3⟩
 .show A.depth+1+2 * n+10 < recursionLimit;lia -abstractProof
 .show A.units+3+20 * n+200 < cLine;lia -abstractProof
theorem gV {n i:Nat}{t:T}:∀{ts:List T},cI (frame ts n) i=some t->ts[i]?=some t:=by
 intro ts
 induction ts generalizing i with
 |nil=>
  intro h
  have:∀n i,cI (replicate n none) i=none:=fun n=>by
   induction n with
   |zero=>exact fun _=>rfl
   |succ n ih=>intro i;cases i with
    |zero=>rfl
    |succ i=>exact ih i
  rw [show frame [] n=replicate n none from rfl,this] at h;cases h
 |cons x ts ih=>
  intro h
  cases i with
  |zero=>exact h
  |succ i=>exact ih h
theorem wq {n i:Nat}{ts:List T}(h:ts.length<=i):cI (frame ts n) i=none:=by
 cases e:cI (frame ts n) i with
 |none=>rfl
 |some t=>exact absurd (aj (gV e)).1 (not_lt.mpr h)
theorem Args.get {P:Pg}{m:Bool}{g:Gh}{h:Heap}{ts:List T}{vs:List Value}(a:Args P m g h ts vs):vs.length=ts.length/\∀(i:Nat) (t:T),ts[i]?=some t->∃v,vs[i]?=some v/\(Rp P g h t v\/(m=true/\i=0/\t=.self/\v=.ref g.sa)):=by
 cases m with
 |false=>exact ⟨aO.length a,fun i t e=>let ⟨v,e',r⟩:=aO.get a e;⟨v,e',.inl r⟩⟩
 |true=>
  obtain ⟨v,vs,t,ts,rfl,rfl,h1,h2⟩:=a
  refine ⟨congrArg (·+1) (aO.length h2),fun i u e=>?_⟩
  cases i with
  |zero=>cases e;exact ⟨v,rfl,h1.imp id fun q=>⟨rfl,rfl,q⟩⟩
  |succ i=>exact let ⟨v,e',r⟩:=aO.get h2 (i:=i) e;⟨v,e',.inl r⟩
theorem Args.mono {P:Pg}{m:Bool}{g g':Gh}{h h':Heap}{ts:List T}{vs:List Value}(k:aR g h g' h')(es:g'.sa=g.sa)(a:Args P m g h ts vs):Args P m g' h' ts vs:=by
 cases m with
 |false=>exact aO.mono k a
 |true=>exact let ⟨v,vs,t,ts,e,e',h1,h2⟩:=a;⟨v,vs,t,ts,e,e',h1.imp (·.mono k) fun q=>⟨q.1,es▸q.2⟩,h2.mono k⟩
theorem BZ (g:Gh)(o:Nat->Option Addr)(h:Heap):aR g h {g with o:=o} h:=⟨fun _ f=>⟨f,fun _ e=>e⟩,rfl⟩
theorem bj.callee {P:Pg}{g:Gh}{h h':Heap}{σ:Sg}(w:bj P g h σ)(k:∀a o,h.get? a=some o->h'.get? a=some o):bj P {g with o:=fun _=>none} h' σ:=by
 have w1:=w.grow k g.F (fun _ f=>f) fun _ f=>.inl f
 exact ⟨w1.base,w1.F,w1.Z,(fun a ⟨_,q⟩=>nomatch q),(fun _ _ _ q=>nomatch q),w1.spot,fun c ts e=>(w1.self c ts e).mono (BZ g _ h') (fun _ z=>⟨z,fun _ e=>e⟩) rfl⟩
theorem qO {P:Pg}{g g':Gh}{s s₁ s':Shared}{σ σ':Sg}{W:List Addr}(hs:∃h tk,s₁={s with heap:=h,toks:=tk})(hk:∀a o,s.heap.get? a=some o->s₁.heap.get? a=some o)(w:bj P g s.heap σ)(hW:∀a∈W,s.heap.get? a=none)(q:aS [] W {g with o:=fun _=>none} s₁ g' s')(w':bj P g' s'.heap σ'):
  aH g s {g' with o:=g.o} s'/\bj P {g' with o:=g.o} s'.heap σ':=by
 have bk:∀a,s₁.heap.get? a=none->s.heap.get? a=none:=fun a e=>by
  cases x:s.heap.get? a with
  |none=>rfl
  |some o=>exact (au (hk a o x) e).elim
 have fn:∀a,g'.F a->g.F a\/s.heap.get? a=none:=fun a f=>(q.Fn a f).imp id fun x=>x.elim (fun ⟨_,x⟩=>nomatch x) (bk a)
 have zn:∀a,g'.Z a->g.Z a\/s.heap.get? a=none:=fun a f=>(q.Zn a f).imp id (bk a)
 have kp:∀a o,s.heap.get? a=some o->¬g.Z a->s'.heap.get? a=some o:=fun a o e z=>q.keep a o (hk a o e) z (fun ⟨_,x⟩=>nomatch x) fun x=>au e (hW a x)
 refine ⟨⟨St.trans hs q.st,kp,fun a e=>bk a (q.b a e),q.F,fn,zn,rfl,q.sp,q.sa⟩,w'.base,w'.F,w'.Z,fun a x=>?_,w.oo,w'.spot,fun c ts e=>(w'.self c ts e).mono (BZ g' _ s'.heap) (fun _ z=>⟨z,fun _ e=>e⟩) rfl⟩
 obtain ⟨l,f,z⟩:=w.O a x
 refine ⟨?_,fun y=>(fn a y).elim f l,fun y=>(zn a y).elim z l⟩
 cases e:s.heap.get? a with
 |none=>exact (l e).elim
 |some o=>exact au (kp a o e z)
theorem AR {P:Pg}(G:pL P){f np ns:Nat}{F:gj}{m:Bool}{tab:List (Option (Str×NameKind))}{ps:List Str}{bd:List Stmt}{U:List Nat}(hf:P.Ψ f=some F)(K:EB P f np tab ps bd U){A:Around}{ts:List T}{vs:List Value}{g:Gh}{s:Shared}{R:Result->Shared->Prop}(hd:A.depth < recursionLimit)(bs:∀a o,P.h₀.get? a=some o->s.heap.get? a=some o)
  (lF:∀a,g.F a->s.heap.get? a≠none)(lZ:∀a,g.Z a->s.heap.get? a≠none)(r:Args P m g s.heap ts vs)(hlen:ts.length=np)
  (k:∀s₁ env E,(∃h tk,s₁={s with heap:=h,toks:=tk})->(∀a o,s.heap.get? a=some o->s₁.heap.get? a=some o)->(∀a∈own env,s.heap.get? a=none)->bZ P ⟨(P.fd f).scope,tab⟩ ⟨[],U,m⟩ env {g with o:=fun _=>none} (frame ts ns) s₁.heap->wpAny P.M (A.deeper env) (execs bd env) (fun f s'=>R (.ok (.ret (match f with |.ret v=>v |_=>.none))) s') E s₁):
  codeAny P.M A (.call (.ref (P.fnA f)) ⟨vs,[]⟩) R s:=by
 obtain ⟨o,g1,g2,g3,g4,g5,g6,g7⟩:=G.fn f F hf
 obtain ⟨K1,K2,K3,K4,K5,K6,K7,K8,K9⟩:=K
 obtain ⟨al,ag⟩:=r.get
 have hvl:vs.length=np:=al.trans hlen
 have look:∀i x k,tab[i]?=some (some (x,k))->(P.fd f).scope.names.lookup x=some k:=fun i x k h=>(br.look (B:=⟨(P.fd f).scope,tab⟩) K2 h).2.1
 have hkind:(P.fd f).scope.kind=.function:=by
  have:=K2
  simp only [br.ok,and_eq_true,beq_iff_eq] at this
  exact this.1.1
 have hnd:ps.Nodup:=by
  rw [List.nodup_iff_pairwise_ne,List.pairwise_iff_getElem]
  intro i j hi hj hij e
  obtain ⟨k,q,_⟩:=K4 i ps[i] (getElem?_eq_getElem hi)
  obtain ⟨k',q',_⟩:=K4 j ps[j] (getElem?_eq_getElem hj)
  exact absurd (br.inj K2 (B:=⟨(P.fd f).scope,tab⟩) q (e▸q')) (ne_of_lt hij)
 refine codeAny_call_cells (binds:=ps.zip vs) hd (bs _ _ g1) g2 (G.nolimit.keeps bs) (g4.keeps bs) K1 (K6 vs hvl) g5 (fun x hx=>?_) (fun s₁ x=>?_) K8.1 K8.2 hkind
 .obtain ⟨i,hi,e⟩:=List.getElem_of_mem (List.of_mem_zip (a:=x.1) (b:=x.2) hx).1
  obtain ⟨k,q,hk⟩:=K4 i x.1 (by rw [getElem?_eq_getElem hi,e])
  have:=look i x.1 k q
  rcases hk with rfl |rfl
  .exact .inl this
  .exact .inr ⟨this,PySem.W.cellsFrom_some _ _ _ (.inl this)⟩
 .have dead:∀a:Addr,s.heap.objs.size<=a->s.heap.get? a=none:=fun a ha=>by
   cases e:s.heap.get? a with
   |none=>rfl
   |some o'=>exact absurd (Heap.lt_size e) (not_lt.mpr ha)
  have hW:∀a∈own (callEnvC (P.fd f) s.heap.objs.size (P.fnA f)),s.heap.get? a=none:=fun a ha=>by
   rcases an ha with rfl |ha
   .exact dead _ (le_refl _)
   .obtain ⟨q,hq,rfl⟩:=aF ha
    exact dead _ (le_of_lt (x.above q.1 q.2 hq))
  have r1:=r.mono (g':={g with o:=fun _=>none}) (h':=s₁.heap) (show aR g s.heap _ _ from ⟨fun a f=>⟨f,x.toInCall.keep a⟩,rfl⟩) rfl
  obtain ⟨_,ag⟩:=r1.get
  have par:∀{i y k t},tab[i]?=some (some (y,k))->ts[i]?=some t->ps[i]?=some y:=fun {i y k t} ht hv=>by
   have hi:i < ps.length:=by rw [K3,<-hlen];exact (aj hv).1
   obtain ⟨k,q,_⟩:=K4 i ps[i] (getElem?_eq_getElem hi)
   rw [ht] at q;cases q
   exact getElem?_eq_getElem hi
  have cl:∀{i:Nat} {y:Str} {k:NameKind},tab[i]?=some (some (y,k))->k≠.local->∃c,(cellsFrom (s.heap.objs.size+1) (P.fd f).scope.names []).lookup y=some c:=fun {i y k} ht hk=>by
   have hk':k=.cell:=by
    rcases (br.look (B:=⟨(P.fd f).scope,tab⟩) K2 ht).2.2.1 with h |h |h
    .exact (hk h).elim
    .exact h
    .exact (K5 i y (h▸ht)).elim
   exact aG (PySem.W.cellsFrom_some (x:=y) (P.fd f).scope.names (s.heap.objs.size+1) [] (.inl (hk'▸look i y k ht)))
  refine k s₁ _ _ x.toInCall.same x.toInCall.keep hW {
   ok:=K2
   sc:=rfl
   glob:=g6
   blt:=g7
   ns:=⟨_,x.toInCall.ns⟩
   cell:=fun i y k ht hk=>let ⟨c,hc⟩:=cl ht (by rcases hk with rfl |rfl<;>decide);⟨c,_,hc,x.cell y c hc⟩
   apart:=fun y z c hy hz=>oM x.apart hy hz
   own:=fun a ha=>⟨by
    rcases an ha with rfl |ha
    .obtain ⟨o',_,_,e',_⟩:=x.toInCall.ns;exact au e'
    .obtain ⟨q,hq,rfl⟩:=aF ha
     obtain ⟨o',e',hd⟩:=x.cell q.1 q.2 (lookup_of_mem_nodup (cellsFrom_names (P.fd f).scope.names 0 (s.heap.objs.size+1) [] [] rfl▸K7) hq)
     exact au e',fun q=>lF a q (hW a ha),fun q=>lZ a q (hW a ha),fun ⟨_,q⟩=>nomatch q⟩
   var:=fun i y t ht hv=>by
    obtain ⟨y,k⟩:=y
    have hv:=gV hv
    obtain ⟨u,hu,hr⟩:=ag i t hv
    have hp:=par ht hv
    refine ⟨u,?_,hr⟩
    by_cases hk:k=.local
    .subst hk;exact .loc y _ ht x.toInCall.ns (qW ps vs _ hnd i y u hp hu (look i y _ ht))
    .obtain ⟨c,hc⟩:=cl ht hk
     have xc:=x.cell y c hc
     rw [qX ps vs _ hnd i y u hp hu (by show (P.fd f).scope.names.lookup y≠_;rw [look i y k ht];exact fun q=>hk (Option.some.inj q))] at xc
     exact .cel y k c ht ((br.look (B:=⟨(P.fd f).scope,tab⟩) K2 ht).2.2.1.resolve_left hk) hc xc
   un:=fun i hi=>wq (hlen▸K9 i hi)}
theorem qP {P:Pg}(G:pL P)(n:Nat)(ih:∀k,k<=n->pN P k)(hF:∀f F,P.Ψ f=some F->vg P f F):pN P (n+1):=fun f A ts vs g σ s t σ' Q E room w r hc hq=>by
 rw [t5] at hc
 cases hf:P.Ψ f with
 |none=>rw [hf] at hc;cases hc
 |some F=>
  rw [hf] at hc
  obtain ⟨tab,ps,body,U,C',K,sim⟩:=hF f F hf
  cases hl:Nat.beq ts.length F.np with
  |false=>simp only [hl] at hc;cases hc
  |true=>
   simp only [hl,cond_true] at hc
   refine AR (ns:=F.ns) G hf K (lt_of_le_of_lt (le_trans (le_add_right _ _) (le_add_right _ _)) room.1) (fun a o e=>(w.base a o e).2) w.F (fun a z=>(w.Z a z).1) r (eq_of_beq_eq_true hl) fun s₁ env E' same keep hW E1=>?_
   have X:At P ⟨(P.fd f).scope,tab⟩ ⟨[],U,rA f⟩ n (A.deeper env) env {g with o:=fun _=>none} (frame ts F.ns) σ s₁:=⟨G,ih,room.deeper _,E1,w.callee keep⟩
   cases hb:F.body (P.cx n) (frame ts F.ns) σ fun _ σ=>bif j4 f then .bad else .ret .none σ with
   |ret t' σ₁=>
    rw [show F.body ⟨ah P.Ψ n⟩ (frame ts F.ns) σ (fun _ σ=>bif j4 f then .bad else .ret .none σ)=_ from hb] at hc
    cases hc
    refine sim n _ _ _ (frame ts F.ns) σ s₁ (fun _ σ=>bif j4 f then .bad else .ret .none σ) _ _ X (by rw [hb];exact fun q=>by cases q) (fun s' g' Y' σ₂ e p X'=>?_) fun y s' g' t2 σ₂ e p w' r'=>?_
    .rw [hb] at e
     cases hfr:j4 f with
     |true=>rw [hfr] at e;cases e
     |false=>
      rw [hfr] at e hq;cases e
      obtain ⟨pe,we⟩:=qO same keep w hW p X'.g
      exact hq .none s' _ pe we rfl
    .rw [hb] at e;cases e
     obtain ⟨pe,we⟩:=qO same keep w hW p w'
     refine hq y s' _ pe we ?_
     have kf:=BZ g' g.o s'.heap
     cases hfr:j4 f with
     |false=>rw [hfr] at r';exact Rp.mono kf r'
     |true=>
      rw [hfr] at r'
      obtain ⟨a,e,nw,f1,z1,r2⟩:=r'
      have nw:s.heap.get? a=none:=nw.elim (fun ⟨_,q⟩=>nomatch q) fun q=>by
       cases z:s.heap.get? a with
       |none=>rfl
       |some o=>exact (au (keep a o z) q).elim
      exact ⟨a,e,nw,f1,z1,fun q=>(w.O a q).1 nw,r2.mono kf fun _ e=>e⟩
   |_=>rw [show F.body ⟨ah P.Ψ n⟩ (frame ts F.ns) σ (fun _ σ=>bif j4 f then .bad else .ret .none σ)=_ from hb] at hc;cases hc
theorem sH {P:Pg}(G:pL P)(hF:∀f F,P.Ψ f=some F->vg P f F):∀n,∀k,k<=n->pN P k
 | 0,k,hk=>by
  obtain rfl:=Nat.le_zero.mp hk
  exact fun f A ts vs g σ s t σ' Q E _ _ _ hc _=>by cases hc
 |n+1,k,hk=>(Nat.lt_or_eq_of_le hk).elim (fun h=>sH G hF n k (le_of_lt_succ h)) fun h=>h▸qP G n (sH G hF n) hF
noncomputable def eZ (env:Env):List (Str×NameKind)->List (Str×Addr)->List (Str×Addr)
 | [],acc=>acc
 | (n,k)::r,acc=>eZ env r (if k==.free then (n,(env.cells.lookup n).getD 0)::acc else acc)
theorem py (env:Env)(f:Str×NameKind->List (Str×Addr)->Sem (ForInStep (List (Str×Addr))))(h1:∀n cs c,env.cells.lookup n=some c->f (n,.free) cs=pure (.yield ((n,c)::cs)))(h2:∀n k cs,(k==NameKind.free)=false->f (n,k) cs=pure (.yield cs)):
  ∀(names:List (Str×NameKind)) (acc:List (Str×Addr)),(∀x,(x,NameKind.free)∈names->∃c,env.cells.lookup x=some c)->forIn names acc f=pure (eZ env names acc)
 | [],acc,_=>rfl
 | (n,k)::r,acc,h=>by
  rw [List.forIn_cons]
  cases hk:(k==NameKind.free) with
  |true=>
   have hk':k=.free:=by simpa using hk
   subst hk'
   obtain ⟨c,hc⟩:=h n mem_cons_self
   rw [h1 n acc c hc]
   show (forIn r ((n,c)::acc) f:Sem _)=_
   rw [py env f h1 h2 r _ fun x hx=>h x (mem_cons_of_mem _ hx)]
   simp only [eZ,hk,if_true,hc];rfl
  |false=>
   rw [h2 n k acc hk]
   show (forIn r acc f:Sem _)=_
   rw [py env f h1 h2 r _ fun x hx=>h x (mem_cons_of_mem _ hx)]
   simp only [eZ,hk];rfl
theorem ix {scope:Scope}{env:Env}(h:∀x,(x,NameKind.free)∈scope.names->∃c,env.cells.lookup x=some c):closureFor scope env=pure (eZ env scope.names []):=by
 simp only [closureFor]
 rewrite [py env _ ?_ ?_ scope.names [] h]
 .rfl
 .intro n cs c hc
  simp only [cellOf,hc];rfl
 .intro n k cs hk
  simp only [hk];rfl
set_option tactic.hygienic true in
theorem jj {env:Env}:∀(names:List (Str×NameKind)) (acc:List (Str×Addr)),(∀x,(x,NameKind.free)∈names->∃c,env.cells.lookup x=some c)->(∀p∈acc,env.cells.lookup p.1=some p.2)->∀p∈eZ env names acc,env.cells.lookup p.1=some p.2
 | [],_,_,ha,p,hp=>ha p hp
 | (n,k)::r,acc,h,ha,p,hp=>by
  refine jj r _ (fun x hx=>h x (mem_cons_of_mem _ hx)) (fun q hq=>?_) p hp
  split at hq
  .rename_i hk
   have hk':k=.free:=by simpa using hk
   subst hk'
   rcases an hq with rfl |hq
   .obtain ⟨c,hc⟩:=h n mem_cons_self
    rw [hc];rfl
   .exact ha q hq
  .exact ha q hq
theorem l7 {env:Env}{x:Str}:∀(names:List (Str×NameKind)) (acc:List (Str×Addr)),(acc.lookup x).isSome=true\/(x,NameKind.free)∈names->((eZ env names acc).lookup x).isSome=true
 | [],_,h=>h.elim id fun q=>by cases q
 | (n,k)::r,acc,h=>by
  refine l7 r _ ?_
  rcases h with h |h
  .refine .inl ?_
   split
   .rw [lookup_cons];split
    .rfl
    .exact h
   .exact h
  .rcases an h with q |q
   .cases q
    refine .inl ?_
    rw [if_pos (by decide),lookup_cons];simp
   .exact .inr q
set_option tactic.hygienic true in
theorem jX {l:List (Str×Addr)}{x:Str}{c:Addr}(h:l.lookup x=some c):(x,c)∈l:=by
 induction l with
 |nil=>cases h
 |cons p r ih=>
  obtain ⟨y,d⟩:=p
  rw [lookup_cons] at h
  split at h
  .rename_i hy
   cases h
   rw [beq_iff_eq.mp hy];exact mem_cons_self
  .exact mem_cons_of_mem _ (ih h)
noncomputable def gx (scope outer:Scope):Scope:=
 {scope with names:=scope.names.map fun (n,k)=>if (k==.free&&outer.kind==.function&&outer.names.lookup n==some .cell) then (n,.cell) else (n,k)}
noncomputable def pO (xc:Option Str)(c:Addr):List (Str×Addr):=match xc with
 |none=>[]
 |some y=>[(y,c)]
theorem ln {xc:Option Str}{c d:Addr}{r:List (Str×Addr)}{y:Str}(h:(pO xc c++r).lookup y=some d):(xc=some y/\d=c)\/r.lookup y=some d:=by
 cases xc with
 |none=>exact .inr h
 |some z=>
  rw [show pO (some z) c++r=(z,c)::r from rfl,lookup_cons] at h
  cases q:y==z with
  |true=>rw [q] at h;cases h;exact .inl ⟨by rw [beq_iff_eq.mp q],rfl⟩
  |false=>rw [q] at h;exact .inr h
theorem tm {y:Str}{c:Addr}{r:List (Str×Addr)}:(pO (some y) c++r).lookup y=some c:=by
 rw [show pO (some y) c++r=(y,c)::r from rfl,lookup_cons,beq_self_eq_true]
theorem uG {xc:Option Str}{c:Addr}{r:List (Str×Addr)}{y:Str}(h:xc≠some y):(pO xc c++r).lookup y=r.lookup y:=by
 cases xc with
 |none=>rfl
 |some z=>
  rw [show pO (some z) c++r=(z,c)::r from rfl,lookup_cons]
  cases q:y==z with
  |true=>exact absurd (congrArg some (beq_iff_eq.mp q).symm) h
  |false=>rfl
theorem tn {xc:Option Str}{c:Addr}{q:Str×Addr}(h:q∈pO xc c):∃y,xc=some y/\q=(y,c):=by
 cases xc with
 |none=>cases h
 |some z=>exact ⟨z,rfl,aa h⟩
theorem eA {prog:Program}{w:World}{A:Around}{E:Value->Shared->Prop}{s:Shared}{l:Addr}{items:Array Value}{n:Nat}{x:Value}{Q:Value->Shared->Prop}(hl:IsL s.heap l items n)
  (h:Q .none {s with heap:=s.heap.update l (Obj.mapSeq fun a=>a.push x)})(hsz:items.size<=sizeLine):wpAny (model prog w) A (call (.builtin "list.append") [.ref l,x]) Q E s:=by
 refine wpAny_call_entry slot_list_append ⟨_,hl,rfl⟩ entry_list_append ?_ (args_list_append _ _)
 show wpAny _ _ (updateSeq l (·.push x) >>=fun _=>ret .none) _ _ s
 refine wpAny_bind ?_
 exact wpAny_updateSeq hl rfl (wpAny_pure ⟨.none,rfl,h⟩)
theorem oC {M:Model}{A:Around}{E:Value->Shared->Prop}{s:Shared}{scope:Scope}{g:Addr}{cl:List (Str×Addr)}{qual:Str}{env:Env}{Q:Env->Shared->Prop}
  (h:Q (newEnv scope s.heap.objs.size g (cellsFrom (s.heap.objs.size+1) scope.names cl) qual none .none (some env) builtinsNs) {s with heap:=pushCells (s.heap.push {cls:=.type "dict",data:=.dict #[]}) scope.names}):
  wpAny M A (newFunctionEnv scope g cl [] qual none .none (some env)) Q E s:=by
 simp only [newFunctionEnv,Option.isSome_some,if_true]
 refine wpAny_bind (wpAny_alloc ?_)
 refine wpAny_bind (wpAny_layCells _ (fun name kind cells=>by cases hkc:kind==NameKind.cell<;>simp [hkc]) _ _ _ _ ?_)
 rw [show ({s with heap:=s.heap.push {cls:=.type "dict",data:=.dict #[]}}:Shared).heap.objs.size=s.heap.objs.size+1 from Heap.size_push ..]
 simp only [List.forIn_nil]
 exact wpAny_bind (wpAny_pure (wpAny_pure h))
noncomputable def l9 (xc:Option Str):List (Str×NameKind)->Bool
 | []=>xc.isNone
 | (n,k)::r=>if k==.cell then xc==some n&&l9 none r else l9 xc r
theorem l8:∀{names:List (Str×NameKind)} {xc:Option Str},l9 xc names=true->(∀n acc,cellsFrom n names acc=pO xc n++acc)/\∀h:Heap,(∀a o,h.get? a=some o->(pushCells h names).get? a=some o)/\∀y,xc=some y->(pushCells h names).IsCell h.objs.size none
 | [],xc,hr=>by
  cases xc with
  |none=>exact ⟨fun _ _=>rfl,fun _=>⟨fun _ _ e=>e,fun _ q=>by cases q⟩⟩
  |some _=>cases hr
 | (x,k)::r,xc,hr=>by
  unfold l9 at hr
  unfold cellsFrom pushCells
  by_cases hk:(k==NameKind.cell)=true
  .rw [if_pos hk,and_eq_true] at hr
   obtain ⟨i1,i2⟩:=l8 hr.2
   obtain rfl:=beq_iff_eq.mp hr.1
   simp only [hk,if_true]
   exact ⟨fun n acc=>i1 _ _,fun h=>⟨fun a o e=>(i2 _).1 a o (Heap.get?_push_of_some _ e),fun _ _=>⟨_,(i2 _).1 _ _ (Heap.get?_push_size _ rfl),rfl⟩⟩⟩
  .rw [if_neg hk] at hr
   simp only [hk,false_eq_true,if_false]
   exact l8 hr
noncomputable def kB (x:Str):Option (Str×NameKind)->Bool
 |some (y,k)=>y==x&&(k==.cell||k==.free)
 |none=>false
theorem AN {x:Str}{e:Option (Str×NameKind)}(h:kB x e=true):∃k:NameKind,e=some (x,k)/\(k=.cell\/k=.free):=by
 cases e with
 |none=>cases h
 |some p=>
  obtain ⟨y,k⟩:=p
  simp only [kB,and_eq_true,or_eq_true,beq_iff_eq] at h
  obtain ⟨rfl,hk⟩:=h
  exact ⟨k,rfl,hk⟩
noncomputable def xF (B:br)(tab:List (Option (Str×NameKind)))(scope:Scope)(i:Nat)(xc:Option Str):Bool:=
 scope.kind==.function&&scope.names.all (fun x=>!(x.2==.local)||scope.names.lookup x.1==some .local)&&l9 xc scope.names&&br.ok ⟨gx scope B.sc,tab⟩&&
 scope.names.all (fun x=>!(x.2==.free)||(!(xc==some x.1)&&B.tab.any (kB x.1)))&&
 (List.range tab.length).all (fun j=>match tab[j]? with
  |some (some (x,k))=>if k==.cell||k==.free then (xc==some x&&Nat.beq j i)||(scope.names.contains (x,.free)&&kB x (B.tab[j]?.getD none)) else Nat.beq j i
  |_=>true)
structure d5 (B Bc:br) (scope:Scope) (i:Nat) (xc:Option Str):Prop where
 kind:scope.kind=.function
 names:∀x∈scope.names,x.2=.local->scope.names.lookup x.1=some .local
 cells:(∀n acc,cellsFrom n scope.names acc=pO xc n++acc)/\∀h:Heap,(∀a o,h.get? a=some o->(pushCells h scope.names).get? a=some o)/\∀y,xc=some y->(pushCells h scope.names).IsCell h.objs.size none
 ok:Bc.ok=true
 sc:Bc.sc=gx scope B.sc
 free:∀x,(x,NameKind.free)∈scope.names->xc≠some x/\∃(j:Nat) (k:NameKind),B.tab[j]?=some (some (x,k))/\(k=.cell\/k=.free)
 tab:∀(j:Nat) (x:Str) (k:NameKind),Bc.tab[j]?=some (some (x,k))->k=.cell\/k=.free->(xc=some x/\j=i)\/((x,NameKind.free)∈scope.names/\∃k':NameKind,B.tab[j]?=some (some (x,k'))/\(k'=.cell\/k'=.free))
 locs:∀(j:Nat) (x:Str),Bc.tab[j]?=some (some (x,.local))->j=i
theorem d5.of {B:br}{tab:List (Option (Str×NameKind))}{scope:Scope}{i:Nat}{xc:Option Str}(h:xF B tab scope i xc=true):d5 B ⟨gx scope B.sc,tab⟩ scope i xc:=by
 simp only [xF,and_eq_true] at h
 obtain ⟨⟨⟨⟨⟨h1,h2⟩,h3⟩,h4⟩,h5⟩,h6⟩:=h
 have h6:∀(j:Nat) (x:Str) (k:NameKind),tab[j]?=some (some (x,k))->(if k==.cell||k==.free then (xc==some x&&Nat.beq j i)||(scope.names.contains (x,.free)&&kB x (B.tab[j]?.getD none)) else Nat.beq j i)=true:=fun j x k ht=>by
  have:=aB h6 j (bz (aj ht).1)
  rw [ht] at this
  exact this
 refine ⟨beq_iff_eq.mp h1,fun x hx hl=>?_,l8 h3,h4,rfl,fun x hx=>?_,fun j x k ht hk=>?_,fun j x ht=>?_⟩
 .have:=aB h2 x hx
  rw [hl] at this
  exact beq_iff_eq.mp this
 .have:=aB h5 (x,.free) hx
  rw [show (!((x,NameKind.free).2==NameKind.free))=false from rfl,Bool.false_or,and_eq_true] at this
  refine ⟨fun q=>?_,?_⟩
  .rw [q,beq_self_eq_true] at this;cases this.1
  .obtain ⟨e,he,hq⟩:=List.any_eq_true.mp this.2
   obtain ⟨k,rfl,hk⟩:=AN hq
   obtain ⟨j,hi⟩:=getElem?_of_mem he
   exact ⟨j,k,hi,hk⟩
 .have:=h6 j x k ht
  rw [if_pos (by rcases hk with rfl |rfl<;>rfl),or_eq_true,and_eq_true,and_eq_true] at this
  rcases this with ⟨a,b⟩ | ⟨a,b⟩
  .exact .inl ⟨beq_iff_eq.mp a,eq_of_beq_eq_true b⟩
  .refine .inr ⟨List.contains_iff_mem.mp a,?_⟩
   cases e:B.tab[j]? with
   |none=>rw [e] at b;cases b
   |some e'=>rw [e] at b;obtain ⟨k',rfl,hk'⟩:=AN b;exact ⟨k',rfl,hk'⟩
 .have:=h6 j x .local ht
  exact eq_of_beq_eq_true this
section
variable {P:Pg} {B Bc:br} {C Ci:Ct} {n:Nat} {A:Around} {env cenv:Env} {g g':Gh} {ρ:aZ} {σ:Sg} {s s':Shared} {h h':Heap} {scope:Scope} {i:Nat} {xc:Option Str}
theorem d5.out (K:d5 B Bc scope i xc)(x:bZ P B C env g ρ h)(y:Str)(hy:(y,NameKind.free)∈scope.names):∃c,env.cells.lookup y=some c:=by
 obtain ⟨_,j,k,h1,h2⟩:=K.free y hy
 obtain ⟨c,_,h3,_⟩:=x.cell j y k h1 h2
 exact ⟨c,h3⟩
theorem sD (K:d5 B Bc scope i xc){L c:Addr}(x:bZ P B C env g ρ h)(hi:i∈C.U)(hn:h'.Ns L fun _=>none)(hc:∀y,xc=some y->h'.IsCell c none)(hL:h.get? L=none)(hcn:h.get? c=none)(w:bj P g h σ)(hk:∀a o,h.get? a=some o->h'.get? a=some o):
  bZ P Bc C (compEnvC scope (pO xc c++eZ env scope.names []) L env) g ρ h':=by
 have hfree:=K.out x
 have cl:∀y c,(eZ env scope.names []).lookup y=some c->env.cells.lookup y=some c:=fun y c hy=>jj scope.names [] hfree (fun _ q=>nomatch q) (y,c) (jX hy)
 have old:∀y,env.cells.lookup y=some c->False:=fun y hy=>(x.own c (mem_cons_of_mem _ (be hy))).1 hcn
 have kf:aR g h g h':=⟨fun a f=>⟨f,hk a⟩,rfl⟩
 have no:∀a,h.get? a=none->¬g.F a/\¬g.Z a/\¬g.O a:=fun a e=>⟨fun q=>w.F a q e,fun q=>(w.Z a q).1 e,fun q=>(w.O a q).1 e⟩
 have free:∀{y d},(y,NameKind.free)∈scope.names->env.cells.lookup y=some d->(pO xc c++eZ env scope.names []).lookup y=some d:=fun {y d} hm e=>by
  obtain ⟨c',hc'⟩:=aG (l7 (env:=env) scope.names [] (.inr hm))
  obtain rfl:c'=d:=Option.some.inj ((cl y c' hc').symm.trans e)
  exact (uG (K.free y hm).1).trans hc'
 refine {ok:=K.ok,sc:=?_,glob:=x.glob,blt:=x.blt,ns:=⟨_,hn⟩,cell:=?_,apart:=?_,own:=?_,var:=?_,un:=x.un}
 .rw [K.sc]
  show relabel scope env=_
  unfold relabel gx Env.kindOf
  rw [x.sc]
 .intro j y k ht hk'
  rcases K.tab j y k ht hk' with ⟨q,_⟩ | ⟨hm,k',h1,h2⟩
  .exact ⟨c,none,q▸tm,hc y q⟩
  .obtain ⟨d,u,c1,o,e,dd⟩:=x.cell j y k' h1 h2
   exact ⟨d,u,free hm c1,o,hk _ _ e,dd⟩
 .intro y z d hy hz
  rcases ln hy with ⟨q,rfl⟩ |hy'
  .rcases ln hz with ⟨q',_⟩ |hz'
   .exact Option.some.inj (q.symm.trans q')
   .exact (old z (cl z _ hz')).elim
  .rcases ln hz with ⟨_,rfl⟩ |hz'
   .exact (old y (cl y _ hy')).elim
   .exact x.apart y z d (cl y d hy') (cl z d hz')
 .intro a ha
  rcases an ha with rfl |ha
  .exact ⟨let ⟨_,_,_,e,_⟩:=hn;au e,no _ hL⟩
  .obtain ⟨q,hq,rfl⟩:=aF ha
   rcases ak hq with hq |hq
   .obtain ⟨y,hy,rfl⟩:=tn hq
    exact ⟨let ⟨_,e,_⟩:=hc y hy;au e,no _ hcn⟩
   .have o:=x.own q.2 (mem_cons_of_mem _ (be (jj scope.names [] hfree (fun _ q=>nomatch q) q hq)))
    refine ⟨?_,o.2⟩
    cases e:h.get? q.2 with
    |none=>exact (o.1 e).elim
    |some ob=>exact au (hk _ _ e)
 .intro j y t ht hv
  obtain ⟨y,k⟩:=y
  have ji:j≠i:=fun q=>by rw [q,x.un i hi] at hv;cases hv
  have hkk:k=.cell\/k=.free:=(br.look K.ok ht).2.2.1.resolve_left fun q=>ji (K.locs j y (q▸ht))
  obtain ⟨hm,k',h1,h2⟩:=(K.tab j y k ht hkk).resolve_left fun q=>ji q.2
  obtain ⟨u,v,vo⟩:=x.var j _ t h1 hv
  refine ⟨u,?_,vo.move kf rfl rfl fun a _=>hk a⟩
  cases v with
  |loc z m tz=>rw [h1] at tz;cases tz;rcases h2 with q |q<;>cases q
  |cel z kk d tz hz l nz=>
   rw [h1] at tz;cases tz
   exact .cel y k d ht hkk (free hm l) (let ⟨o,e,dd⟩:=nz;⟨o,hk _ _ e,dd⟩)
noncomputable abbrev dI (P:Pg)(B:br)(C:Ct)(ifs:List Expr)(p:PT):Prop:=dB P B C (fun A env Q E s=>wpAny P.M A (forIn ifs true fun c r=>if r=true then do let ok <-isTrue c env (eval c env);pure (ForInStep.yield ok) else pure (ForInStep.yield r)) Q E s) p RQ
theorem dI.nil:dI P B C [] b9:=.now fun _ _ _ _ _ _ _ _ _ _ _ _ hq=>wpAny_tests_nil (hq _ _ _ rfl rfl)
theorem dI.one {e:Expr}{p:PT}(h:cn P B C e p):dI P B C [e] p:=h.map fun _ _ _ _ _=>wpAny_tests_one
theorem bZ.less {t:T}(x:bZ P B Ci env g (ρ.set i (some t)) h)(hc:mu C i Ci)(un:∀j∈C.U,cI ρ j=none)(hi:i∈C.U):bZ P B C env g ρ h:=
 have ne:∀{j v},cI ρ j=some v->j≠i:=fun e q=>by rw [q,un i hi] at e;cases e
 have st:∀{j v},cI ρ j=some v->cI (ρ.set i (some t)) j=some v:=fun {j v} e=>by
  cases q:cI (ρ.set i (some t)) j with
  |none=>
   have:=dt (v:=none) (ne e) q
   rw [set_set,ic (un i hi),e] at this;cases this
  |some u=>exact (gU q).elim (fun q=>(ne e q.1).elim) fun q=>q.2.symm.trans e▸rfl
 {x with
  var:=fun j y v ht hv=>let ⟨u,h1,h2⟩:=x.var j y v ht (st hv);⟨u,h1,by unfold bw at h2 ⊢;rw [hc.o j (ne hv),hc.m] at h2;exact h2⟩
  un:=un}
end
section
variable {P:Pg} {B Bc:br} {C Ci C':Ct} {h₀:Heap} {fr:Bool} {n:Nat} {A:Around} {env cenv:Env} {g g':Gh} {ρ:aZ} {σ:Sg} {s s':Shared} {h h':Heap} {scope:Scope} {i:Nat} {xc:Option Str} {elt target iter:Expr} {ifs:List Expr} {pos:Pos}
noncomputable abbrev mE (P:Pg)(g:Gh)(h:Heap)(D:Addr)(acc:List T):Prop:=yf h bm (aO P g h acc) acc.length D
theorem mE.mono {acc:List T}{D:Addr}(a:mE P g h D acc)(k:aR g h g' h')(hD:∀o,h.get? D=some o->h'.get? D=some o):mE P g' h' D acc:=yf.mono a hD fun _=>aO.mono k
theorem j8.p {vol:List Addr}(v:j8 g env vol)(l:∀a∈vol,s.heap.get? a≠none)(p:aH g s g' s'):j8 g' env vol/\∀a∈vol,∀o,s.heap.get? a=some o->s'.heap.get? a=some o:=v.post l p.toS
theorem u5 {tw:Env->List Addr}{pc:PT}{pe:PE}{I D:Addr}{ts:List T}{vol fx:List Addr}{St:Nat->Gh->Heap->Prop}{k:PK (List T)}{R:Result->Shared->Prop}(T:jU P A Bc C Ci target (bx i) tw I ts vol fx St)(hc:mu C i Ci)(hi:i∈C.U)(hcond:dI P Bc Ci ifs pc)(hel:aq P Bc Ci elt pe (RV P))(hDv:D∉vol++fx):
  ∀(rest:List Mine.T) (j:Nat) (g:Gh) (σ:Sg) (s:Shared) (acc:List Mine.T),j<=ts.length->ts.drop j=rest->acc.length+rest.length<=lim->At P Bc C n A cenv g ρ σ s->j8 g cenv (D::(vol++fx))->St j g s.heap->mE P g s.heap D acc->bW (bx i) pc pe (P.cx n) ρ rest σ acc k≠.bad->
   (∀s' g' xs σ',bW (bx i) pc pe (P.cx n) ρ rest σ acc k=k xs σ'->bC vol (D::(vol++tw cenv)) g s g' s'->At P Bc C n A cenv g' ρ σ' s'->j8 g' cenv [D]->mE P g' s'.heap D xs->R (.ok .next) s')->
   codeAny P.M A (.compLoop (.ListComp elt [⟨target,iter,ifs,0⟩] scope pos) 0 (.ref I) (.ref D) cenv) R s:=by
 intro rest
 induction rest with
 |nil=>
  intro j g σ s acc hle hd hl X hv st ac hb hq
  obtain rfl:j=ts.length:=le_antisymm hle (List.drop_eq_nil_iff.mp hd)
  refine codeAny_of_tree ?_
  show wpAny P.M A ((compTurn (.ListComp elt [⟨target,iter,ifs,0⟩] scope pos) 0 (.ref I) (.ref D) cenv).onRaise (fun x=>do noteFrame x cenv;theTreesLotGoes x)) _ _ s
  refine wpAny_noted ?_
  rw [compTurn_list]
  have vD:j8 g cenv [D]:=fun a ha=>hv a (aa ha▸mem_cons_self)
  refine wpAny_bind (wpAny_standAt (wpAny_bind (wpAny_mono (T.done n cenv g ρ σ s (fun s'=>R (.ok .next) s') (notedBy P.M A cenv fun e s'=>R (.error e) s') X (fun a ha=>hv a (mem_cons_of_mem _ ha)) st fun s' p X'=>?_) (fun r s₁ h1=>?_) fun _ _ h'=>h')))
  .have dn:=hv D mem_cons_self
   exact hq s' g acc σ tW (p.weak (fun _ h=>h) fun a ha=>mem_cons_of_mem _ (mem_append_left _ ha)) X' vD (ac.mono (p.toS.k X.g fun a ha=>(hv a (mem_cons_of_mem _ (mem_append_left _ ha))).1) fun o e=>p.keep D o e dn.2.1 fun q=>hDv (mem_append_left _ q))
  .cases r with
   |none=>exact wpAny_pure h1
   |some u=>exact h1.elim
 |cons v rest ih=>
  intro j g σ s acc hle hd hl X hv st ac hb hq
  have hiv:ts[j]?=some v:=by rw [<-List.head?_drop,hd];rfl
  have hi':j < ts.length:=(aj hiv).1
  have hd':ts.drop (j+1)=rest:=by rw [<-List.tail_drop,hd];rfl
  have e1:bW (bx i) pc pe (P.cx n) ρ (v::rest) σ acc k=pc (P.cx n) (ρ.set i (some v)) σ fun b σ=>bif b then pe (P.cx n) (ρ.set i (some v)) σ fun x σ=>bW (bx i) pc pe (P.cx n) ρ rest σ (acc++[x]) k else bW (bx i) pc pe (P.cx n) ρ rest σ acc k:=tX
  rw [e1] at hb hq
  have hvv:j8 g cenv (vol++fx):=fun a ha=>hv a (mem_cons_of_mem _ ha)
  have dn:=hv D mem_cons_self
  refine codeAny_of_tree ?_
  show wpAny P.M A ((compTurn (.ListComp elt [⟨target,iter,ifs,0⟩] scope pos) 0 (.ref I) (.ref D) cenv).onRaise (fun x=>do noteFrame x cenv;theTreesLotGoes x)) _ _ s
  refine wpAny_noted ?_
  rw [compTurn_list]
  refine wpAny_bind (wpAny_standAt (wpAny_bind (wpAny_mono (T.item j v n cenv g ρ _ σ s (fun s3=>wpAny P.M A (forIn ifs true fun c r=>if r=true then do let ok <-isTrue c cenv (eval c cenv);pure (ForInStep.yield ok) else pure (ForInStep.yield r)) (fun ok s4=>
     if ok=true then wpAny P.M A (eval elt cenv) (fun x s5=>wpAny P.M A (call (.builtin "list.append") [.ref D,x]) (fun _ s6=>codeAny P.M A (.compLoop (.ListComp elt [⟨target,iter,ifs,0⟩] scope pos) 0 (.ref I) (.ref D) cenv) R s6) (notedBy P.M A cenv fun e s'=>R (.error e) s') s5) (notedBy P.M A cenv fun e s'=>R (.error e) s') s4
     else codeAny P.M A (.compLoop (.ListComp elt [⟨target,iter,ifs,0⟩] scope pos) 0 (.ref I) (.ref D) cenv) R s4) (notedBy P.M A cenv fun e s'=>R (.error e) s') s3)
    (notedBy P.M A cenv fun e s'=>R (.error e) s') hiv X hvv st rfl fun s3 p3 X3 st3=>?_) (fun r s₁ h1=>?_) fun _ _ h'=>h')))
  .have nW:∀a∈vol++tw cenv,¬g.F a:=fun a ha=>(ak ha).elim (fun h=>(hvv a (mem_append_left _ h)).1) fun h=>(X.env.own a (T.sub cenv a h)).2.1
   have ac3:mE P g s3.heap D acc:=ac.mono (p3.toS.k X.g nW) fun o e=>p3.keep D o e dn.2.1 fun q=>(ak q).elim (fun q=>hDv (mem_append_left _ q)) fun q=>dn.2.2.2 (T.sub cenv D q)
   have lv:∀{g s i},St i g s->mE P g s D acc->∀a∈D::(vol++fx),s.get? a≠none:=fun st ac a ha=>(an ha).elim (fun q=>q▸let ⟨_,_,e,_,_⟩:=ac;au e) (T.here _ _ _ st a)
   have pw:bC [] (D::(vol++tw cenv)) g s g s3:=p3.weak (fun _ h=>h) fun a=>mem_cons_of_mem _
   refine hcond n A cenv g (ρ.set i (some v)) σ s3 _ _ _ X3 hb fun b s4 g4 b' σ₄ e4 p4 w4 r4=>?_
   cases r4
   rw [e4] at hb hq
   have X4:=X3.post p4 w4
   obtain ⟨v4,k4⟩:=hv.p (lv st3 ac3) p4
   have st4:=T.stay _ _ _ _ _ st3 (p4.k X3.g) fun a ha=>k4 a (mem_cons_of_mem _ ha)
   have ac4:=ac3.mono (p4.k X3.g) (k4 D mem_cons_self)
   have p04:=pw.trans p4.toE
   have un:=X.env.un
   cases b with
   |false=>
    rw [if_neg (by decide)]
    exact ih (j+1) g4 σ₄ s4 acc hi' hd' (Nat.le_of_succ_le hl) ⟨X.good,X.call,X.room,X4.env.less hc un hi,w4⟩ v4 st4 ac4 hb fun s' g' xs σ' q1 q2 q3 q4 q5=>hq s' g' xs σ' q1 (p04.trans q2) q3 q4 q5
   |true=>
    rw [if_pos rfl]
    refine hel n A cenv g4 (ρ.set i (some v)) σ₄ s4 _ _ _ X4 hb fun x s5 g5 t σ₅ e5 p5 w5 r5=>?_
    rw [show (bif true then pe (P.cx n) (ρ.set i (some v)) σ₄ fun x σ=>bW (bx i) pc pe (P.cx n) ρ rest σ (acc++[x]) k else bW (bx i) pc pe (P.cx n) ρ rest σ₄ acc k)=_ from e5] at hb hq
    have X5:=X4.post p5 w5
    obtain ⟨v5,k5⟩:=v4.p (lv st4 ac4) p5
    have st5:=T.stay _ _ _ _ _ st4 (p5.k X4.g) fun a ha=>k5 a (mem_cons_of_mem _ ha)
    obtain ⟨ys,m,d1,d2,d3⟩:=ac4.mono (p5.k X4.g) (k5 D mem_cons_self)
    refine eA d1 ?_ (bb (d3.size▸d2))
    have hs:=Heap.SameBut.update s5.heap D (Obj.mapSeq fun a=>a.push x)
    have d1':=IsL.update d1 (fun a=>a.push x)
    obtain ⟨p6,X6⟩:=dK (vol:=[D]) (h':=s5.heap.update D (Obj.mapSeq fun a=>a.push x)) X5 (fun a ha=>v5 a (aa ha▸mem_cons_self)) (fun a o e q=>(hs.2 a fun z=>q (z▸aA rfl)).trans e) s5.toks
    have kf:=p6.toS.k X5.g fun a ha=>(v5 a (aa ha▸mem_cons_self)).1
    have p06:=(p04.trans p5.toE).trans ((eC p6 fun a ha=>by rw [aa ha];exact au d1').weak (fun _ h=>h) fun a ha=>aa ha▸mem_cons_self)
    refine ih (j+1) g5 σ₅ _ (acc++[t]) hi' hd' (by rw [List.length_append];exact le_trans (le_of_eq (by rw [length_singleton,length_cons,add_assoc,add_comm 1])) hl) ⟨X.good,X.call,X.room,X6.env.less hc un hi,X6.g⟩ v5 (T.stay _ _ _ _ _ st5 kf fun a ha o e=>(hs.2 a fun q=>hDv (q▸ha)).trans e) ⟨_,_,d1',?_,?_⟩ hb fun s' g' xs σ' q1 q2 q3 q4 q5=>hq s' g' xs σ' q1 (p06.trans q2) q3 q4 q5
    .rw [List.length_append];exact le_trans (add_le_add_left (show 1<=rest.length+1 from succ_le_succ (zero_le _)) _) hl
    .rw [Array.toList_push]
     exact aO.append (aO.cons (Rp.mono kf r5) aO.nil) (d3.mono kf)
  .cases r with
   |none=>exact h1.elim
   |some u=>
    refine wpAny_bind (wpAny_mono h1 (fun _ s2 h2=>wpAny_bind (wpAny_mono h2 (fun _ s3 h3=>wpAny_bind (wpAny_mono h3 (fun ok s4 h4=>?_) fun _ _ h'=>h')) fun _ _ h'=>h')) fun _ _ h'=>h')
    cases ok with
    |false=>exact wpAny_pure ⟨rfl,h4⟩
    |true=>
     rw [if_pos rfl] at h4 ⊢
     exact wpAny_bind (wpAny_bind (wpAny_mono h4 (fun x s5 h5=>wpAny_bind (wpAny_mono h5 (fun _ s6 h6=>wpAny_pure (wpAny_pure ⟨rfl,h6⟩)) fun _ _ h'=>h')) fun _ _ h'=>h'))
theorem sG (K:d5 B Bc scope i xc)(H:Heap):(pushCells (H.push {cls:=.type "dict",data:=.dict #[]}) scope.names).Ns H.objs.size (fun _=>none)/\
  (∀y,xc=some y->(pushCells (H.push {cls:=.type "dict",data:=.dict #[]}) scope.names).IsCell (H.objs.size+1) none)/\H.get? (H.objs.size+1)=none/\∀a o,H.get? a=some o->(pushCells (H.push {cls:=.type "dict",data:=.dict #[]}) scope.names).get? a=some o:=by
 obtain ⟨k,c⟩:=K.cells.2 (H.push {cls:=.type "dict",data:=.dict #[]})
 have sz:(H.push {cls:=.type "dict",data:=.dict #[]}).objs.size=H.objs.size+1:=Heap.size_push ..
 rw [sz] at c
 refine ⟨(Heap.Ns.new H (.type "dict")).keeps k,c,?_,fun a o e=>k a o (Heap.get?_push_of_some _ e)⟩
 cases q:H.get? (H.objs.size+1) with
 |none=>rfl
 |some o=>
  have:=Heap.get?_push_of_some {cls:=.type "dict",data:=.dict #[]} q
  rw [<-sz,aJ] at this;cases this
noncomputable def kR:Option Str->Env->List Addr
 |none=>fun env=>[env.locals]
 |some x=>Aw .cell x
theorem yE {c:Addr}{r:List (Str×Addr)}{L:Addr}:∀a∈kR xc (compEnvC scope (pO xc c++r) L env),a=L\/a=c:=fun a ha=>by
 cases xc with
 |none=>exact .inl (aa ha)
 |some x=>
  have h:a∈((pO (some x) c++r).lookup x).toList:=ha
  rw [tm] at h
  exact .inr (aa h)
theorem lY {pos':Pos}{pi:PL}{pc:PT}{pe:PE}{use:Option (Value->Sem Unit)}{k:PK T}{Q:Value->Shared->Prop}{E:Value->Shared->Prop}(K:d5 B Bc scope i xc)(hi:i∈C.U)(hc:mu C i Ci)(hI:A5 P B C n A env g ρ σ s iter (yh P Bc C Ci target (bx i) (kR xc)) pi)(hcond:dI P Bc Ci ifs pc)(hel:aq P Bc Ci elt pe (RV P))(hs:∀env x,foldedSetIterable iter env x=pure x)
  (X:At P B C n A env g ρ σ s)(hb:bE pi (bx i) pc pe (P.cx n) ρ σ k≠.bad)
  (ok:∀D L s' g' xs σ' m,bE pi (bx i) pc pe (P.cx n) ρ σ k=k (.lst xs) σ'->aH g s g' s'->bj P g' s'.heap σ'->Am P s.heap g' s'.heap (.lst xs) (.ref D)->s.heap.get? L=none->(¬g'.F L/\¬g'.Z L/\¬g'.O L)->D≠L->s'.heap.Ns L m->compPost P.M A E use Q (.ref D) L (.ok .next) s'):
  wpAny P.M A (comprehension (.ListComp elt [⟨target,iter,ifs,0⟩] scope pos) scope env pos' (newList []) false (eval iter env) use) Q E s:=by
 refine wpAny_comprehension_free (use:=use) rfl (hs env) (ix (K.out X.env)) K.kind K.names ?_
 refine hI (fun xs σ=>bW (bx i) pc pe (P.cx n) ρ xs σ [] fun ys σ=>k (.lst ys) σ) _ _ X hb fun s₁ g1 ts σ₁ I vol fx St ea p1 w1 T st hv hx hl=>?_
 have hb1:=fun q=>hb (ea.trans q)
 have X1:=X.post p1 w1
 refine wpAny_newList (oC ?_)
 rw [K.cells.1]
 have p2:aH g1 s₁ g1 {s₁ with heap:=s₁.heap.push (bm #[] 0),toks:=s₁.toks}:=.push _ _
 have w2:bj P g1 (s₁.heap.push (bm #[] 0)) σ₁:=w1.push _
 have hD2:=bD (h:=s₁.heap) (bm #[] 0)
 have hDn:s₁.heap.get? s₁.heap.objs.size=none:=aJ _
 obtain ⟨nf,nz,no⟩:=de w1
 show codeAny P.M A _ _ {s₁ with heap:=pushCells ((s₁.heap.push (bm #[] 0)).push {cls:=.type "dict",data:=.dict #[]}) scope.names}
 generalize s₁.heap.objs.size=D at *
 generalize s₁.heap.push (bm #[] 0)=H2 at p2 w2 hD2 ⊢
 obtain ⟨hn3,hc3,hcn,k3⟩:=sG K H2
 have hCn:H2.get? H2.objs.size=none:=aJ _
 generalize pushCells (H2.push {cls:=.type "dict",data:=.dict #[]}) scope.names=h3 at hn3 hc3 k3 ⊢
 generalize H2.objs.size+1=c at *
 generalize H2.objs.size=L at *
 have x2:=X1.env.post w1 p2
 have envc:=sD K x2 hi hn3 hc3 hCn hcn w2 k3
 have w3:bj P g1 h3 σ₁:=w2.grow k3 g1.F (fun _ h=>h) fun _ h=>.inl h
 have p3:aH g1 s₁ g1 {s₁ with heap:=h3,toks:=s₁.toks}:=p2.trans (.grow (s:={s₁ with heap:=H2,toks:=s₁.toks}) s₁.toks k3 g1.F (fun _ h=>h) fun _ h=>.inl h)
 have hown:∀a∈own (compEnvC scope (pO xc c++eZ env scope.names []) L env),H2.get? a=none\/a∈own env:=fun a ha=>by
  rcases an ha with rfl |h
  .exact .inl hCn
  .obtain ⟨q,hq,rfl⟩:=aF h
   rcases ak hq with hq |hq
   .obtain ⟨_,_,rfl⟩:=tn hq;exact .inl hcn
   .exact .inr (mem_cons_of_mem _ (be (jj scope.names [] (K.out X.env) (fun _ q=>nomatch q) q hq)))
 have hvl:=T.here _ _ _ st
 have hvol:j8 g1 (compEnvC scope (pO xc c++eZ env scope.names []) L env) (D::(vol++fx)):=fun a ha=>by
  rcases an ha with rfl |ha
  .exact ⟨nf,nz,no,fun q=>(hown a q).elim (au hD2) fun q=>(X1.env.own a q).1 hDn⟩
  .have hl:=hvl a ha
   rcases ak ha with ha |ha
   .exact ⟨(hv a ha).2.1,(hv a ha).2.2,fun q=>(X.g.O a (let ⟨i,q⟩:=q;⟨i,p1.o▸q⟩)).1 (hv a ha).1,fun q=>(hown a q).elim (fun z=>hl (p2.back a z)) fun q=>(X.env.own a q).1 (hv a ha).1⟩
   .exact ⟨(hx a ha).1,(hx a ha).2.1,(hx a ha).2.2.1,fun q=>(hown a q).elim (fun z=>hl (p2.back a z)) (hx a ha).2.2.2⟩
 have st3:=T.stay _ _ _ _ _ st (p3.k w1) fun a ha o e=>p3.keep a o e (hvol a (mem_cons_of_mem _ ha)).2.1
 refine (fun loop=>codeAny_compStart_list loop (T.self 0 g1 _ _ _ st3 loop):codeAny P.M A (.compLoop (.ListComp elt [⟨target,iter,ifs,0⟩] scope pos) 0 (.ref I) (.ref D) (compEnvC scope (pO xc c++eZ env scope.names []) L env)) (compPost P.M A E use Q (.ref D) L) {s₁ with heap:=h3,toks:=s₁.toks}->_) ?_
 have htw:=yE (xc:=xc) (c:=c) (r:=eZ env scope.names []) (scope:=scope) (L:=L) (env:=env)
 have hl':(compEnvC scope (pO xc c++eZ env scope.names []) L env).locals=L:=rfl
 generalize compEnvC scope (pO xc c++eZ env scope.names []) L env=cenv at *
 have X3:At P Bc C n A cenv g1 ρ σ₁ {s₁ with heap:=h3,toks:=s₁.toks}:=⟨X.good,X.call,X.room,envc,w3⟩
 refine u5 T hc hi hcond hel (fun q=>hvl D q hDn) ts 0 g1 σ₁ _ [] (zero_le _) rfl (by rw [length_nil,zero_add];exact hl) X3 hvol st3 ⟨_,_,k3 _ _ hD2,zero_le _,rfl⟩ hb1 fun s' g' xs σ' q1 q2 q3 q4 q5=>?_
 have fr:∀{a},H2.get? a=none->s₁.heap.get? a=none:=fun h=>p2.back _ h
 have pe:aH g s g' s':=(((p1.trans p3).toE (W:=D::(vol++kR xc cenv))).trans q2).toP (fun a ha=>by
  rcases an ha with rfl |ha
  .exact p1.back _ hDn
  .rcases ak ha with ha |ha
   .exact (hv a ha).1
   .rcases htw a ha with rfl |rfl
    .exact p1.back _ (fr hCn)
    .exact p1.back _ (fr hcn)) fun a ha=>(hv a ha).1
 obtain ⟨m,hm⟩:=q3.env.ns
 have nD:=q4 D (aA rfl)
 exact ok D L s' g' xs σ' m (ea.trans q1) pe q3.g ⟨D,rfl,p1.back _ hDn,nD.1,nD.2.1,nD.2.2.1,q5⟩ (p1.back _ (fr hCn)) (let o:=q3.env.own L (hl'▸mem_cons_self);⟨o.2.1,o.2.2.1,o.2.2.2⟩) (fun q=>au hD2 (q▸hCn)) (hl'▸hm)
theorem aH.scrap {L:Addr}(p:aH g s g' s')(hL:s.heap.get? L=none)(hs:∀b,b≠L->h'.get? b=s'.heap.get? b):aH g s g' {s' with heap:=h'}:=
 ⟨St.trans p.st ⟨h',s'.toks,rfl⟩,fun a o e z=>(hs a fun q=>au e (q▸hL)).trans (p.keep a o e z),fun a e=>by
  by_cases q:a=L
  .exact q▸hL
  .exact p.back a ((hs a q).symm.trans e),p.F,p.Fn,p.Zn,p.o,p.sp,p.sa⟩
theorem bj.scrap {L:Addr}(w:bj P g h σ)(hL:¬g.F L/\¬g.Z L/\¬g.O L)(hs:∀b,b≠L->h'.get? b=h.get? b):bj P g h' σ/\aR g h g h':=by
 have k:∀a,g.F a\/g.Z a\/g.O a->h'.get? a=h.get? a:=fun a q=>hs a fun e=>q.elim (e▸hL.1) fun q=>q.elim (e▸hL.2.1) (e▸hL.2.2)
 have kf:aR g h g h':=⟨fun a f=>⟨f,fun o e=>(k a (.inl f)).trans e⟩,rfl⟩
 exact ⟨⟨fun a o e=>⟨(w.base a o e).1,(k a (.inl (w.base a o e).1)).trans (w.base a o e).2⟩,fun a f=>by rw [k a (.inl f)];exact w.F a f,fun a z=>by rw [k a (.inr (.inl z))];exact w.Z a z,fun a z=>by rw [k a (.inr (.inr z))];exact w.O a z,w.oo,
  ⟨let ⟨t,n,e⟩:=w.spot.1;⟨t,n,(k _ (.inr (.inl w.spot.2.1))).trans e⟩,w.spot.2⟩,fun c ts e=>(w.self c ts e).mono kf (fun a z=>⟨z,fun o e=>(k a (.inr (.inl z))).trans e⟩) rfl⟩,kf⟩
theorem Am.scrap {L D:Addr}{t:T}(r:Am P h₀ g h t (.ref D))(kf:aR g h g h')(hD:D≠L)(hs:∀b,b≠L->h'.get? b=h.get? b):Am P h₀ g h' t (.ref D):=by
 obtain ⟨a,e,n,f,z,o,r⟩:=r
 cases e
 exact ⟨D,rfl,n,f,z,o,r.mono kf fun o e=>(hs D hD).trans e⟩
theorem aq.comp {pi:PL}{pc:PT}{pe:PE}(K:d5 B Bc scope i xc)(hi:C.U.any (Nat.beq i)=true)(hc:ci C i false Ci=true)(hI:fq P B C iter (yh P Bc C Ci target (bx i) (kR xc)) pi)(hcond:dI P Bc Ci ifs pc)(hel:aq P Bc Ci elt pe (RV P))(hs:∀env x,foldedSetIterable iter env x=pure x):
  aq P B C (.ListComp elt [⟨target,iter,ifs,0⟩] scope pos) (bE pi (bx i) pc pe) (RN P):=fun n A env g ρ σ s k Q E X hb hq=>by
 show wpAny P.M A (eval _ env) Q E s
 rw [eval_ListComp]
 refine lY K (jr hi) (ee hc).1 (hI n A env g ρ σ s) hcond hel hs X hb fun D L s' g' xs σ' m e p w r hL nL hDL hn=>⟨m,hn,fun h' hsb=>?_⟩
 obtain ⟨w',kf⟩:=w.scrap nL hsb.2
 exact hq _ _ g' _ σ' e (p.scrap hL hsb.2) w' (r.scrap kf hDL hsb.2)
end
section
variable {P:Pg} {B Bc:br} {C Ci C':Ct} {fr:Bool} {n:Nat} {A:Around} {env:Env} {g g':Gh} {ρ:aZ} {σ:Sg} {s s':Shared} {h h':Heap} {scope:Scope} {i j:Nat} {xc:Option Str} {elt target iter:Expr} {ifs:List Expr} {pos px spos:Pos} {y:Str}
theorem aS.scrap {L:Addr}{W:List Addr}(p:aS [] W g s g' s')(hL:s.heap.get? L=none)(hs:∀b,b≠L->h'.get? b=s'.heap.get? b):aS [] W g s g' {s' with heap:=h'}:=
 {p with
  st:=St.trans p.st ⟨h',s'.toks,rfl⟩
  keep:=fun a o e z q w=>(hs a fun q=>au e (q▸hL)).trans (p.keep a o e z q w)
  back:=fun a v e=>by
   by_cases q:a=L
   .exact q▸hL
   .exact p.back a v ((hs a q).symm.trans e)}
theorem qM {L:Addr}{m:Str->Option Value}{g2:Gh}{ρ₂:aZ}{σ':Sg}{s2:Shared}{Q:Flow->Shared->Prop}(p:aS [] (own env) g s g2 s2)(X:At P B C' n A env g2 ρ₂ σ' s2)(hn:s2.heap.Ns L m)(hL:s.heap.get? L=none)(nL:¬g2.F L/\¬g2.Z L/\¬g2.O L)(hLo:L∉own env)
  (hq:∀s',aS [] (own env) g s g2 s'->At P B C' n A env g2 ρ₂ σ' s'->Q .next s'):∃m,s2.heap.Ns L m/\∀h',Heap.SameBut L s2.heap h'->Q .next {s2 with heap:=h'}:=
 ⟨m,hn,fun h' hs=>hq _ (p.scrap hL hs.2) (dK (vol:=[L]) X (fun a ha=>by rw [aa ha];exact ⟨nL.1,nL.2.1,nL.2.2,hLo⟩) (fun a o e q=>(hs.2 a fun z=>q (z▸aA rfl)).trans e) s2.toks).2⟩
theorem aM.setCompG {pi:PL}{pc:PT}{pe:PE}(o:Bool)(ho:ci C j o C'=true)(ht:B.tab[j]?=some (some (y,.local)))(hw:vk (.ListComp elt [⟨target,iter,ifs,0⟩] scope pos) y px spos.line B.sc=true)(K:d5 B Bc scope i xc)(hi:C.U.any (Nat.beq i)=true)(hc:ci C i false Ci=true)(hI:fq P B C iter (yh P Bc C Ci target (bx i) (kR xc)) pi)(hcond:dI P Bc Ci ifs pc)(hel:aq P Bc Ci elt pe (RV P))(hs:∀env x,foldedSetIterable iter env x=pure x):
  aM P B C fr C' (.Assign [.Name y px] (.ListComp elt [⟨target,iter,ifs,0⟩] scope pos) spos) (aI j (bE pi (bx i) pc pe)):=fun n A env g ρ σ s k Q E X hb hq hr=>by
 show wpAny P.M A (exec _ env) Q E s
 rw [exec_Assign_Name_used _ _ _ _ (by rw [jv X.env.sc,hw])]
 refine wpAny_bind (wpAny_standAt (wpAny_bind ?_))
 show wpAny _ A (do let _ <-comprehension (.ListComp elt [⟨target,iter,ifs,0⟩] scope pos) scope env _ (newList []) false (eval iter env) (some (assign (.Name y px) env))) _ _ s
 refine wpAny_bind (wpAny_mono (lY (Q:=fun _ s'=>Q .next s') (E:=E) (k:=fun v σ=>k (ρ.set j (some v)) σ) (use:=some (assign (.Name y px) env)) K (jr hi) (ee hc).1 (hI n A env g ρ σ s) hcond hel hs X hb fun D L s' g' xs σ' m e p w r hL nL hDL hn=>?_) (fun _ s' hq=>wpAny_pure (wpAny_pure hq)) fun _ _ e=>e)
 have X1:=X.post p w
 have hLo:L∉own env:=fun q=>(X.env.own L q).1 hL
 show wpAny _ A (assign (.Name y px) env (.ref D)) _ _ s'
 obtain ⟨D',eD,nD,f,z,o',r⟩:=r
 cases eD
 obtain ⟨hs',hO⟩:=ee ho
 have nl:∀{s2 g2},bC [] (Aw .local y env) g2 s' g2 s2->g2.Z=g'.Z->s2.heap.Ns L m:=fun p2 ez=>hn.at fun o e=>p2.keep L o e (by rw [ez];exact nL.2.1) fun q=>hLo (c9 L q)
 cases o with
 |false=>
  have kf:aR g' s'.heap {g' with F:=fun y=>g'.F y\/y=D} s'.heap:=⟨fun b f=>⟨.inl f,fun _ e=>e⟩,rfl⟩
  have pz:aH g s {g' with F:=fun y=>g'.F y\/y=D} s':=⟨p.st,p.keep,p.back,fun b f=>.inl (p.F b f),fun b f=>f.elim (p.Fn b) fun e=>.inr (e▸nD),p.Zn,p.o,p.sp,p.sa⟩
  refine wpAny_assign_Name (gR (X.post pz (w.freeze r.live z o')) ho ht (.inl rfl) (t:=.lst xs) ((r.mono kf fun _ e=>e).rp (.inr rfl)) fun s2 p2 X2=>?_)
  exact qM (pz.toS.trans (p2.toS.weak c9)) X2 (nl p2 rfl) hL ⟨fun q=>q.elim nL.1 (Ne.symm hDL),nL.2⟩ hLo fun s' p' X'=>hq s' _ _ σ' e p' X'
 |true=>
  have ow:∀b∈own env,¬(g'.put j (some D)).O b:=fun b hb q=>(iZ q).elim (fun q=>(X.env.own b hb).1 (Option.some.inj q▸nD)) fun ⟨j,_,q⟩=>(X1.env.own b hb).2.2.2 ⟨j,q⟩
  have pa:aS [] (own env) g s (g'.put j (some D)) s':={(p.toS:aS [] (own env) g s g' s') with On:=fun b q=>(iZ q).elim (fun q=>.inr (Option.some.inj q▸nD)) fun ⟨j,_,q⟩=>.inl ⟨j,p.o▸q⟩}
  have X2:At P B C' n A env (g'.put j (some D)) (ρ.set j none) σ' s':=⟨X.good,X.call,X.room,X1.env.forget hs' (ir g' j _) ow,w.put fun b q=>Option.some.inj q▸⟨r.live,f,z,o'⟩⟩
  refine wpAny_assign_Name (iQ X2 hs'.nu ht (.inl rfl) (t:=.lst xs) (by unfold bw;rw [hO];exact ⟨D,rfl,gz ..,r.mono ((ir g' j _).k _) fun _ e=>e⟩) fun s2 p2 X3 _=>?_)
  rw [set_set] at X3
  exact qM (pa.trans (p2.toS.weak c9)) X3 (nl p2 rfl) hL ⟨nL.1,nL.2.1,fun q=>(iZ q).elim (fun q=>hDL (Option.some.inj q)) fun ⟨j,_,q⟩=>nL.2.2 ⟨j,q⟩⟩ hLo fun s' p' X'=>hq s' _ _ σ' e p' X'
end
section
variable {P:Pg} {B:br} {C:Ct}
theorem qs {k:Nat}(h:k<=lim):(k:Int) < 2 ^ 63:=Int.lt_of_le_of_lt (bJ h) (by decide)
noncomputable abbrev Bf (P:Pg)(id:Value):W1 Value:=CG P fun x=>PySem.call id [x]
theorem wK:vt P (Bf P (.builtin "len")) bF (RV P):=fun A env g σ s x t y Q E rm w q e hq=>by
 have one:∀{l:Addr} {items:Array Value} {k:Nat},s.heap.IsList l items->items.size<=lim->items.size=k->y=.int k->wpAny P.M A (PySem.call (.builtin "len") [.ref l]) Q E s:=fun hl h1 h2 h3=>Calls.call_len_list hl (qs h1) (by rw [h2];exact cE w (h3▸hq))
 unfold bF at e
 cases e1:iV t with
 |some ts=>
  rw [e1] at e
  rcases q.sq e1 with ⟨a,vs,n,rfl,h1,l,r⟩ | ⟨a,vs,n,rfl,h1,l,r⟩
  .cases e
   refine PySem.P.len_tuple h1 (by have:=qs (r.size▸l);lia -abstractProof) ?_
   rw [r.size];exact cE w hq
  .exact one ⟨_,h1,rfl,n,rfl⟩ (r.size▸l) r.size (Option.some.inj e).symm
 |none=>cases e2:CV t with
  |some ns=>
   rw [e1,e2] at e
   obtain ⟨a,items,rfl,⟨o,g1,g2⟩,b,r⟩:=q.n e2
   exact one ⟨o,(w.base _ _ g1).2,g2⟩ b ((r.rp (P:=P) (g:=g) (h:=s.heap)).size.trans (length_map ..)) (Option.some.inj e).symm
  |none=>
   rw [e1,e2] at e
   obtain ⟨z,e3,e4⟩:=az e
   obtain ⟨⟨_,h2⟩,p,rfl⟩:=q.s e3
   cases e4
   exact PySem.P.len_str (by have:=qs h2;lia -abstractProof) (cE w hq)
theorem wY {A:Around}{s:Shared}{E:Value->Shared->Prop}{a:Addr}{o:Obj}(T:BT){Q:Value->Shared->Prop}(e:s.heap.get? a=some o)(hc:o.cls=.type "list")(h:∀tk,Q (.bool (match T with |.list=>true |_=>false)) {s with toks:=tk}):wpAny P.M A (PySem.call (.builtin "isinstance") [.ref a,.type T.id]) Q E s:=by
 cases T with
 |list=>exact IsiPair.list_list e hc (h s.toks)
 |bool=>exact IsiPair.list_bool e hc (h _)
 |int=>exact IsiPair.list_int e hc (h _)
 |str=>exact IsiPair.list_str e hc (h _)
 |tuple=>exact IsiPair.list_tuple e hc (h _)
theorem uS {A:Around}{s:Shared}{E:Value->Shared->Prop}{Q:Value->Shared->Prop}(T:BT){c:Bool}(h:∀tk,Q (.bool (match T with |.bool |.int=>true |_=>false)) {s with toks:=tk}):wpAny P.M A (PySem.call (.builtin "isinstance") [(.bool c),.type T.id]) Q E s:=by
 cases T with
 |list=>exact IsiPair.bool_list (h _)
 |bool=>exact IsiPair.bool_bool (h s.toks)
 |int=>exact IsiPair.bool_int (h s.toks)
 |str=>exact IsiPair.bool_str (h _)
 |tuple=>exact IsiPair.bool_tuple (h _)
theorem wZ {A:Around}{s:Shared}{E:Value->Shared->Prop}{Q:Value->Shared->Prop}(T:BT){c:Int}{u:Tok}(h:∀tk,Q (.bool (match T with |.int=>true |_=>false)) {s with toks:=tk}):wpAny P.M A (PySem.call (.builtin "isinstance") [(.int c u),.type T.id]) Q E s:=by
 cases T with
 |list=>exact IsiPair.int_list (h _)
 |bool=>exact IsiPair.int_bool (h _)
 |int=>exact IsiPair.int_int (h s.toks)
 |str=>exact IsiPair.int_str (h _)
 |tuple=>exact IsiPair.int_tuple (h _)
theorem wX {A:Around}{s:Shared}{E:Value->Shared->Prop}{Q:Value->Shared->Prop}(T:BT){c:Str}{u:Tok}(h:∀tk,Q (.bool (match T with |.str=>true |_=>false)) {s with toks:=tk}):wpAny P.M A (PySem.call (.builtin "isinstance") [(.str c u),.type T.id]) Q E s:=by
 cases T with
 |list=>exact IsiPair.str_list (h _)
 |bool=>exact IsiPair.str_bool (h _)
 |int=>exact IsiPair.str_int (h _)
 |str=>exact IsiPair.str_str (h s.toks)
 |tuple=>exact IsiPair.str_tuple (h _)
theorem sr {A:Around}{s:Shared}{E:Value->Shared->Prop}{Q:Value->Shared->Prop}(T:BT){a:Addr}{o:Obj}(e:s.heap.get? a=some o)(hc:o.cls=.type "tuple")(h:∀tk,Q (.bool (match T with |.tuple=>true |_=>false)) {s with toks:=tk}):wpAny P.M A (PySem.call (.builtin "isinstance") [.ref a,.type T.id]) Q E s:=by
 cases T with
 |list=>exact IsiPair.tuple_list e hc (h _)
 |bool=>exact IsiPair.tuple_bool e hc (h _)
 |int=>exact IsiPair.tuple_int e hc (h _)
 |str=>exact IsiPair.tuple_str e hc (h _)
 |tuple=>exact IsiPair.tuple_tuple e hc (h s.toks)
theorem BT.mem (T:BT):T.nm∈iA/\bootBuiltins T.nm=some (.type T.id)/\(T.nm==("__debug__":Str))=false:=by cases T<;>refine ⟨by decide,by decide,by decide⟩
theorem xO {g:Gh}{σ:Sg}{s:Shared}{b:Bool}{tk:Nat}(w:bj P g s.heap σ){Q:Value->Shared->Prop}(hq:∀u s' g',aH g s g' s'->bj P g' s'.heap σ->Rp P g' s'.heap (.bool b) u->Q u s'):Q (.bool b) {s with toks:=tk}:=hq _ _ g (.toks g s tk) w rfl
theorem B6 (T:BT):vt P (CG P fun x=>PySem.call (.builtin "isinstance") [x,.type T.id]) (eO T) (RV P):=fun A env g σ s x t y Q E rm w q e hq=>by
 obtain ⟨b,e1,e2⟩:=az e
 cases e2
 have k:∀tk,Q (.bool b) {s with toks:=tk}:=fun tk=>xO w hq
 cases t with
 |bool c=>cases e1;rw [q.b rfl];exact uS T k
 |int i=>cases e1;obtain ⟨p,rfl⟩:=q.i rfl;exact wZ T k
 |str z=>cases e1;obtain ⟨_,p,rfl⟩:=q.s rfl;exact wX T k
 |tup ts=>cases e1;obtain ⟨a,rfl,_,vs,n,h1,_⟩:=q.tu rfl;exact sr T h1 rfl k
 |lst ts=>cases e1;obtain ⟨a,rfl,vs,n,h1,_⟩:=q.ls rfl;exact wY T h1 rfl k
 |_=>cases e1
theorem aq.isi {e:Expr}{p:PE}(T:BT){pn qn pos:Pos}(hx:B.sc.names.lookup (ofString "isinstance")=some .globalImplicit)(hT:B.sc.names.lookup T.nm=some .globalImplicit)
  (hn:∀env,starEach [e,.Name T.nm qn] env=[(false,eval e env),(false,eval (.Name T.nm qn) env)])(h:aq P B C e p (RX P)):aq P B C (.Call (.Name (ofString "isinstance") pn) [e,.Name T.nm qn] [] pos) (p1 (eO T) p) (RV P):=fun n A env g ρ σ s k Q E X hb hq=>by
 obtain ⟨m1,m2,m3⟩:=T.mem
 refine Call_Name rfl (X.blt hx (by decide) (by decide) (v:=.builtin "isinstance") (by decide) ?_)
 refine bf (fun _ q=>by cases q) (bA (by rw [hn env];exact fun q hq=>by cases hq with |head=>rfl |tail _ h=>cases h with |head=>rfl |tail _ h=>cases h)) (wpAny_items_cons ?_ (hn env))
 refine h.bind (N:=fun A env x Q E s=>wpAny P.M A (spliced (backTo pos (starEach [.Name T.nm qn] env))) (fun vs s₁=>wpAny P.M A (PySem.call (.builtin "isinstance") (x::vs)) Q E s₁) E s) (F:=fun _ _ k t σ=>up (eO T t) σ k) (R':=RV P) jt (fun n A env g ga ρ σ s s₁ x t k Q E p X r hb hq=>?_) n A env g ρ σ s k Q E X hb hq
 obtain ⟨y,e'⟩:=bV hb
 exact wpAny_items_cons (X.blt hT m3 m1 m2 (wpAny_items_nil (B6 T A env ga σ s₁ x t y Q E X.rm X.g (im.y r) e' fun u s' g' p w r=>hq u s' g' y σ (by rw [e'];rfl) p w r))) rfl
theorem jP {A:Around}{g:Gh}{σ:Sg}{s:Shared}{Q:Value->Shared->Prop}{E:Value->Shared->Prop}{it:Addr}{o:Obj}{K:String}{items:Array Value}{n:Nat}{ts:List T}(hT:K="list"\/K="tuple")(w:bj P g s.heap σ)(e:s.heap.get? it=some o)(hc:o.cls=.type K)(hd:o.data=.seq items n)(r:aO P g s.heap ts items.toList)(hx:ts.length<=lim)
  (hq:∀u s' g',aH g s g' s'->bj P g' s'.heap σ->Am P s.heap g' s'.heap (.lst ts) u->Q u s'):wpAny P.M A (PySem.call (.type "list") [.ref it]) Q E s:=by
 refine call_list_seq it hT e hc hd (fun h' c' hk hn=>?_) (bb (r.size▸hx))
 have p:aH g s g {s with heap:=h',toks:=s.toks}:=.grow s.toks hk g.F (fun _ h=>h) fun _ h=>.inl h
 obtain ⟨h1,h2,h3⟩:=de w
 exact hq _ _ g p (w.grow hk g.F (fun _ h=>h) fun _ h=>.inl h) ⟨_,rfl,aJ _,h1,h2,h3,_,_,hn,hx,r.mono (p.k w)⟩
theorem ze:vt P (Bf P (.type "list")) gG (RN P):=fun A env g σ s x t y Q E rm w q e hq=>by
 obtain ⟨ts,e1,e2⟩:=az e
 cases e2
 rcases q.sq e1 with ⟨a,vs,n,rfl,h1,l,r⟩ | ⟨a,vs,n,rfl,h1,l,r⟩
 .exact jP (.inr rfl) w h1 rfl rfl r l hq
 .exact jP (.inl rfl) w h1 rfl rfl r l hq
theorem fO:∀{ts:List T} {bs:List Bool},e9 ts=some bs->ts.length=bs.length/\∀(i:Nat) (t:T),ts[i]?=some t->∃b,bs[i]?=some b/\eE t=some b
 | [],bs,h=>by cases h;exact ⟨rfl,fun i v e=>nomatch e⟩
 |t::r,bs,h=>by
  obtain ⟨b,bs',h1,h2,h3⟩:=aU h
  cases h3
  obtain ⟨i1,i2⟩:=fO h2
  refine ⟨congrArg (·+1) i1,fun i u e=>?_⟩
  cases i with
  |zero=>cases e;exact ⟨b,rfl,h1⟩
  |succ i=>exact i2 i u e
theorem k8 (bs:List Bool):(List.range bs.length).map (fun i=>bs[i]?.getD false)=bs:=by
 apply ext_getElem
 .simp
 .intro i h1 h2
  simp [getElem?_eq_getElem h2]
theorem uv (bs:List Bool):(List.range bs.length).any (fun i=>bs[i]?.getD false)=bs.any _root_.id:=by
 conv=>rhs;rw [<-k8 bs]
 rw [List.any_map];rfl
theorem uw (bs:List Bool):(List.range bs.length).all (fun i=>bs[i]?.getD false)=bs.all _root_.id:=by
 conv=>rhs;rw [<-k8 bs]
 rw [List.all_map];rfl
theorem pT {g:Gh}{h:Heap}{ts:List T}{bs:List Bool}{vs:Array Value}{i:Nat}{v:Value}{A:Around}{s:Shared}{Q:Bool->Shared->Prop}{E:Value->Shared->Prop}(r:aO P g h ts vs.toList)(ht:e9 ts=some bs)(hv:vs[i]?=some v)(hq:Q (bs[i]?.getD false) s):wpAny P.M A (truthy v) Q E s:=by
 obtain ⟨t1,t2⟩:=fO ht
 have hi:i < ts.length:=by rw [<-r.size];exact (Array.getElem?_eq_some_iff.mp hv).1
 obtain ⟨b,b1,b2⟩:=t2 i ts[i] (getElem?_eq_getElem hi)
 obtain ⟨u,u1,u2⟩:=r.get (getElem?_eq_getElem hi)
 rw [Array.getElem?_toList,hv] at u1;cases u1
 rw [b1] at hq
 exact gt (.inl u2) b2 hq
theorem pQ {g:Gh}{σ:Sg}{s:Shared}{ob:Obj}{h':Heap}{tk:Nat}{b:Bool}{Q:Value->Shared->Prop}(w:bj P g s.heap σ)(hk:∀a o,a∉[s.heap.objs.size]->(s.heap.push ob).get? a=some o->h'.get? a=some o)(hq:∀u s' g',aH g s g' s'->bj P g' s'.heap σ->Rp P g' s'.heap (.bool b) u->Q u s'):Q (.bool b) {s with heap:=h',toks:=tk}:=
 have k:∀a o,s.heap.get? a=some o->h'.get? a=some o:=fun a o e=>hk a o (fun q=>au e (aa q▸aJ _)) (bO s ob a o e)
 hq _ _ g (.grow tk k g.F (fun _ h=>h) fun _ h=>.inl h) (w.grow k g.F (fun _ h=>h) fun _ h=>.inl h) rfl
theorem CC:vt P (Bf P (.builtin "any")) Ag (RV P):=fun A env g σ s x t y Q E rm w q e hq=>by
 obtain ⟨ts,e1,e2⟩:=az e
 obtain ⟨bs,ht,e3⟩:=az e2
 cases e3
 obtain ⟨l,rfl,vs,n,a1,a3,a2⟩:=q.ls e1
 refine call_any_walk (wpAny_pyIter_list ⟨_,a1,rfl,n,rfl⟩ ?_)
 refine ⟨_,_,_,_,_,_,fun i=>bs[i]?.getD false,rfl,Walks.list (A:=A.in1) rm.handled s.heap.objs.size l (fun q=>au a1 (q▸aJ _)) vs,⟨⟨_,Heap.get?_push_size _ rfl,rfl,rfl⟩,⟨_,Heap.get?_push_of_some _ a1,rfl,n,rfl⟩⟩,fun i v s' Q E hv hq=>pT a2 ht hv hq,fun h' tk hk=>?_⟩
 rw [show (List.range vs.size).any (fun i=>bs[i]?.getD false)=bs.any _root_.id by rw [a2.size,(fO ht).1];exact uv bs]
 exact pQ (s:=s) (ob:=uR "list_iterator" l) w hk hq
theorem Ah:vt P (Bf P (.builtin "all")) js (RV P):=fun A env g σ s x t y Q E rm w q e hq=>by
 obtain ⟨ts,e1,e2⟩:=az e
 obtain ⟨bs,ht,e3⟩:=az e2
 cases e3
 obtain ⟨l,rfl,vs,n,a1,a3,a2⟩:=q.ls e1
 refine call_all_walk (wpAny_pyIter_list ⟨_,a1,rfl,n,rfl⟩ ?_)
 refine ⟨_,_,_,_,_,_,fun i=>bs[i]?.getD false,rfl,Walks.list (A:=A.in1) rm.handled s.heap.objs.size l (fun q=>au a1 (q▸aJ _)) vs,⟨⟨_,Heap.get?_push_size _ rfl,rfl,rfl⟩,⟨_,Heap.get?_push_of_some _ a1,rfl,n,rfl⟩⟩,fun i v s' Q E hv hq=>pT a2 ht hv hq,fun h' tk hk=>?_⟩
 rw [show (List.range vs.size).all (fun i=>bs[i]?.getD false)=bs.all _root_.id by rw [a2.size,(fO ht).1];exact uw bs]
 exact pQ (s:=s) (ob:=uR "list_iterator" l) w hk hq
theorem B7:vt P (Bf P (.type "int")) lJ (RV P):=fun A env g σ s x t y Q E rm w q e hq=>by
 obtain ⟨b,e1,e2⟩:=az e
 cases e2;rw [q.b e1]
 exact call_int_bool (cE w hq)
theorem AT:iH P .Is zu:=fun A g σ s x x' t t' b Q E rm w q q' e k=>by
 obtain ⟨c,rfl⟩:=cC e
 cases t' with
 |none=>
  rw [show x'=_ from q'.v fun _ h=>h]
  refine is_none ?_
  rcases q with q | ⟨a,rfl,q⟩
  .cases t with
   |none=>rw [show x=_ from q];exact k s.toks
   |bool=>rw [show x=_ from q];exact k s.toks
   |int=>obtain ⟨_,rfl⟩:=q;exact k s.toks
   |str=>obtain ⟨_,_,rfl⟩:=q;exact k s.toks
   |scr=>obtain ⟨a,_,rfl⟩:=q;exact k s.toks
   |spot=>rw [show x=_ from q];exact k s.toks
   |self=>exact q.elim
   |_=>obtain ⟨a,rfl⟩:=q;exact k s.toks
  .cases t with
   |none=>exact q.elim
   |_=>exact k s.toks
 |_=>cases c
theorem qD {A:Around}{x y:Value}{s:Shared}{t:Bool}{Q:Value->Shared->Prop}{E:Value->Shared->Prop}(h:wpAny P.M A (compareOp .Is x y) (fun v s'=>v=.bool t/\Q (.bool (!t)) s') E s):wpAny P.M A (compareOp .IsNot x y) Q E s:=fun j p hΓ=>by
 have h':=h j p hΓ
 rw [show compareOp .Is x y=(do return .bool (<-isSame x y)) from rfl,Sem.wp_bind'] at h'
 rw [show compareOp .IsNot x y=(do return .bool (!(<-isSame x y))) from rfl,Sem.wp_bind']
 refine Sem.wp_mono P.M j _ (fun b p' s' q=>?_) (fun _ _ _ q=>q) p s h'
 obtain ⟨q1,q2⟩:=(show Value.bool b=.bool t/\_ from q)
 cases q1;exact q2
theorem xH:iH P .IsNot Fs:=fun A g σ s x x' t t' b Q E rm w q q' e k=>by
 obtain ⟨c,e1,rfl⟩:=av e
 exact qD (AT A g σ s x x' t t' c _ E rm w q q' e1 fun tk=>⟨rfl,k tk⟩)
noncomputable abbrev Aq (B:br)(x:String):Prop:=B.sc.names.lookup (ofString x)=some .globalImplicit
section
variable {e:Expr} {p:PE} {pn pos:Pos}
theorem aq.len (hx:Aq B "len")(hn:∀env,starEach [e] env=[(false,eval e env)])(h:aq P B C e p (RX P)):aq P B C (.Call (.Name (ofString "len") pn) [e] [] pos) (p1 bF p) (RV P):=aq.b1 jt wK (fun _ q=>by cases q) hx (by decide) (by decide) (by decide) hn h
theorem aq.listOf (hx:Aq B "list")(hn:∀env,starEach [e] env=[(false,eval e env)])(h:aq P B C e p (RX P)):aq P B C (.Call (.Name (ofString "list") pn) [e] [] pos) (p1 gG p) (RN P):=aq.b1 Cn ze (fun _ q=>by cases q) hx (by decide) (by decide) (by decide) hn h
theorem aq.anyOf (hx:Aq B "any")(hn:∀env,starEach [e] env=[(false,eval e env)])(h:aq P B C e p (RX P)):aq P B C (.Call (.Name (ofString "any") pn) [e] [] pos) (p1 Ag p) (RV P):=aq.b1 jt CC (fun _ q=>by cases q) hx (by decide) (by decide) (by decide) hn h
theorem aq.allOf (hx:Aq B "all")(hn:∀env,starEach [e] env=[(false,eval e env)])(h:aq P B C e p (RX P)):aq P B C (.Call (.Name (ofString "all") pn) [e] [] pos) (p1 js p) (RV P):=aq.b1 jt Ah (fun _ q=>by cases q) hx (by decide) (by decide) (by decide) hn h
theorem aq.intOf (hx:Aq B "int")(hn:∀env,starEach [e] env=[(false,eval e env)])(h:aq P B C e p (RX P)):aq P B C (.Call (.Name (ofString "int") pn) [e] [] pos) (p1 lJ p) (RV P):=aq.b1 jt B7 (fun _ q=>by cases q) hx (by decide) (by decide) (by decide) hn h
end
end
structure vw (K:MK) (name:Str) (id:String):Prop where
 slot:Slot K.id name id
 ty:typeOf (.builtin id)=pure (.type "method_descriptor")
theorem MK.plain (K:MK):PlainAttrs K.id:=by
 cases K
 .exact F.plainAttrs_list
 .exact F.plainAttrs_str
 .exact F.plainAttrs_tuple
noncomputable def CZ (K:MK)(s:Shared)(x:Value):Prop:=s.TypeIs x K.id/\∀a,x=.ref a->∃o,s.heap.get? a=some o/\o.dict=none
section
variable {P:Pg} {B:br} {C C':Ct} {fr:Bool} {n:Nat} {A:Around} {env:Env} {g g':Gh} {ρ:aZ} {σ:Sg} {s s':Shared} {h h':Heap} {t:T} {x:Value}
theorem su {K:MK}{a:Addr}{o:Obj}(e:s.heap.get? a=some o)(hc:o.cls=.type K.id)(hd:o.dict=none):CZ K s (.ref a):=⟨⟨o,e,hc⟩,fun b q=>⟨o,Value.ref.inj q▸e,hd⟩⟩
theorem qA {K:MK}(q:dY P g s.heap t x)(hk:kT K t=true):CZ K s x:=by
 obtain ⟨y,e⟩ | ⟨y,e⟩ | ⟨y,e⟩:(∃y,K=.list/\gr t=some y)\/(∃y,K=.str/\q8 t=some y)\/∃y,K=.tuple/\q7 t=some y:=by
  cases K with
  |list=>exact .inl (let ⟨y,e⟩:=aG hk;⟨y,rfl,e⟩)
  |str=>exact .inr (.inl (let ⟨y,e⟩:=aG hk;⟨y,rfl,e⟩))
  |tuple=>exact .inr (.inr (let ⟨y,e⟩:=aG hk;⟨y,rfl,e⟩))
 .obtain ⟨rfl,e⟩:=e;obtain ⟨a,rfl,vs,n,h1,_⟩:=q.ls e;exact su h1 rfl rfl
 .obtain ⟨rfl,e⟩:=e;obtain ⟨_,p,rfl⟩:=q.s e;exact ⟨rfl,fun a q=>by cases q⟩
 .obtain ⟨rfl,e⟩:=e;obtain ⟨a,rfl,_,vs,n,h1,_⟩:=q.tu e;exact su h1 rfl rfl
theorem lu {o e:Expr}{name:Str}{apos pos:Pos}{id:String}{K:MK}{Q:Value->Shared->Prop}{E:Value->Shared->Prop}(i:vw K name id)(hbase:∀env,attributeBase o name env (eval o env)=eval o env)(hline:(apos.endLine==pos.line)=true)(htrees:∀env,backTo pos (starEach [e] env)=[(false,eval e env)])
  (h:wpAny P.M A (eval o env) (fun x s₁=>CZ K s₁ x/\wpAny P.M A (eval e env) (fun y s2=>wpAny P.M A (PySem.call (.builtin id) [x,y]) Q E s2) E s₁) E s):wpAny P.M A (eval (.Call (.Attribute o name apos) [e] [] pos) env) Q E s:=
 wpAny_Call_method1_late (hbase env) hline (htrees env) (wpAny_mono h (fun x s₁ ⟨k,ha⟩=>⟨K.id,id,K.plain,i.slot,i.ty,k.1,k.2,bf (fun _ q=>by cases q) (fun p hp=>by rw [aa hp]) (Calls.spliced_cons (wpAny_mono ha (fun _ _ he=>Calls.spliced_nil he) fun _ _ h=>h))⟩) fun _ _ h=>h)
noncomputable abbrev C5 (P:Pg)(id:String):W2 Value:=Ak P fun x y=>PySem.call (.builtin id) [x,y]
theorem aq.m1 {o e:Expr}{name:Str}{apos pos:Pos}{po pe:PE}{id:String}{K:MK}{F:T->T->Option T}{R:RR Value T}(i:vw K name id)(hd:Dn R)(k:pK P (C5 P id) F R)(hbase:∀env,attributeBase o name env (eval o env)=eval o env)(hline:(apos.endLine==pos.line)=true)
  (htrees:∀env,backTo pos (starEach [e] env)=[(false,eval e env)])(h1:aq P B C o po (RX P))(h2:aq P B C e pe (RX P)):aq P B C (.Call (.Attribute o name apos) [e] [] pos) (uC K F po pe) R:=
 (h1.bind (N:=fun A env x Q E s=>CZ K s x/\wpAny P.M A (eval e env) (fun y s2=>wpAny P.M A (PySem.call (.builtin id) [x,y]) Q E s2) E s) (F:=fun c ρ k a σ=>gd (kT K a) (pe c ρ σ fun b σ=>up (F a b) σ k)) hd fun n A env g g1 ρ σ s s₁ x t kk Q E p X r hb hq=>by
  have hk:=jd hb
  rw [hk] at hb hq
  refine ⟨qA (im.y r) hk,h2 n A env g1 ρ σ s₁ _ _ E X hb fun x' s2 g2 t' σ₂ ea p2 w2 rb=>?_⟩
  obtain ⟨y,e'⟩:=bV fun q=>hb (ea.trans q)
  exact k A env g2 σ₂ s2 x x' t t' y Q E X.rm w2 (im.post X.g p2 r).y (im.y rb) e' fun u s' g' p w r=>hq u s' g' y σ₂ (ea.trans (by rw [e'];rfl)) (p2.trans p) w (hd _ _ _ _ _ _ p2.back r)).map fun A env Q E s h=>lu i hbase hline htrees h
theorem kh {i:Nat}{a:Addr}{y:T}(X:At P B C n A env g ρ σ s)(hv:bi C i=true)(hb:cI ρ i≠none)(ho:g.o i=some a)(hva:cZ B env s.heap i (.ref a))(hs:∀b,b≠a->h'.get? b=s.heap.get? b)(hy:aR g s.heap g h'->gP P g h' a y)(tk:Nat):
  aS [] (own env) g s g {s with heap:=h',toks:=tk}/\At P B C n A env g (ρ.set i (some y)) σ {s with heap:=h',toks:=tk}:=by
 obtain ⟨la,fa,za⟩:=X.g.O a ⟨i,ho⟩
 have kf:aR g s.heap g h':=⟨fun b f=>⟨f,fun o e=>(hs b fun q=>fa (q▸f)).trans e⟩,rfl⟩
 have ra:=hy kf
 have lv:∀b,s.heap.get? b≠none->h'.get? b≠none:=fun b l=>by
  by_cases q:b=a
  .exact q▸ra.live
  .rw [hs b q];exact l
 have zk:∀b,g.Z b->∀o,s.heap.get? b=some o->h'.get? b=some o:=fun b z o e=>(hs b fun q=>za (q▸z)).trans e
 have ok:∀b∈own env,∀o,s.heap.get? b=some o->h'.get? b=some o:=fun b m o e=>(hs b fun q=>(X.env.own b m).2.2.2 (q▸⟨i,ho⟩)).trans e
 refine ⟨⟨⟨h',tk,rfl⟩,fun b o e _ no _=>(hs b fun q=>no (q▸⟨i,ho⟩)).trans e,fun b _ e=>?_,fun _ f=>f,fun _ f=>.inl f,fun _ f=>.inl f,fun _ f=>.inl f,rfl,rfl⟩,X.good,X.call,X.room,{X.env with
   ns:=let ⟨m,nn⟩:=X.env.ns;⟨m,nn.at (ok _ mem_cons_self)⟩
   cell:=fun j z kk hj hk=>let ⟨c,u,l,o,e,d⟩:=X.env.cell j z kk hj hk;⟨c,u,l,o,ok c (mem_cons_of_mem _ (be l)) o e,d⟩
   own:=fun b m=>⟨lv b (X.env.own b m).1,(X.env.own b m).2⟩
   var:=fun j z v hj hv'=>?_
   un:=fun j hj=>dt (fun q:j=i=>hb (q▸X.env.un j hj)) (X.env.un j hj)},
  fun b o e=>⟨(X.g.base b o e).1,(kf.F b (X.g.base b o e).1).2 o (X.g.base b o e).2⟩,fun b f=>lv b (X.g.F b f),fun b z=>⟨lv b (X.g.Z b z).1,(X.g.Z b z).2⟩,fun b z=>⟨lv b (X.g.O b z).1,(X.g.O b z).2⟩,X.g.oo,
  ⟨let ⟨t,m,e⟩:=X.g.spot.1;⟨t,m,zk _ X.g.spot.2.1 _ e⟩,X.g.spot.2⟩,fun c ts e=>(X.g.self c ts e).mono kf (fun b z=>⟨z,zk b z⟩) rfl⟩
 .cases q:s.heap.get? b with
  |none=>rfl
  |some o=>exact (lv b (au q) e).elim
 .rcases gU hv' with ⟨q,e⟩ | ⟨nj,e⟩
  .subst q;cases e
   exact ⟨_,hva.move ok,by unfold bw;rw [hv];exact ⟨a,rfl,ho,ra⟩⟩
  .obtain ⟨u,v1,v2⟩:=X.env.var j z v hj e
   refine ⟨u,v1.move ok,?_⟩
   unfold bw at v2 ⊢
   cases q:bi C j with
   |true=>rw [q] at v2;exact let ⟨b,e1,e2,r⟩:=v2;⟨b,e1,e2,r.mono kf fun o e=>(hs b fun z=>nj (X.g.oo j i a (z▸e2) ho)).trans e⟩
   |false=>rw [q] at v2;exact v2.imp (·.mono kf) id
noncomputable def Mu (P:Pg)(id:String)(F:T->T->Option T)(RA:Gh->Heap->T->Value->Prop):Prop:=
 ∀A g σ s a x' t v y Q E,Rm A->bj P g s.heap σ->gP P g s.heap a t->RA g s.heap v x'->F t v=some y->
  (∀h' tk,(∀b,b≠a->h'.get? b=s.heap.get? b)->(aR g s.heap g h'->gP P g h' a y)->Q .none {s with heap:=h',toks:=tk})->wpAny P.M A (PySem.call (.builtin id) [.ref a,x']) Q E s
theorem aM.mut {e:Expr}{y name:Str}{k:NameKind}{np apos cpos pos:Pos}{pe:PE}{id:String}{i:Nat}{F:T->T->Option T}{R:RR Value T}{RA:Gh->Heap->T->Value->Prop}(m:vw .list name id)(hv:bi C i=true)(ht:B.tab[i]?=some (some (y,k)))(hR:∀h g h' t x,R h g h' t x->RA g h' t x)(o:Mu P id F RA)
  (hbase:∀env,attributeBase (.Name y np) name env (eval (.Name y np) env)=eval (.Name y np) env)(hline:(apos.endLine==cpos.line)=true)(htrees:∀env,backTo cpos (starEach [e] env)=[(false,eval e env)])(hw:∀env,swapsWith (.Call (.Attribute (.Name y np) name apos) [e] [] cpos) none pos.line env=pure false)
  (h:aq P B C e pe R):aM P B C fr C (.Expr (.Call (.Attribute (.Name y np) name apos) [e] [] cpos) pos) (iL i F pe):=fun n A env g ρ σ s k Q E X hb hq hr=>by
 show wpAny P.M A (exec _ env) Q E s
 rw [exec_Expr env _ pos (by simp [interactive,X.fn]) (hw env)]
 unfold iL at hb hq
 cases e0:cI ρ i with
 |none=>rw [e0] at hb;exact absurd rfl hb
 |some t=>
  rw [e0] at hb hq
  have hk:=jd hb
  simp only [hk,cond_true] at hb hq
  obtain ⟨u,v,q⟩:=X.env.var i _ t ht e0
  unfold bw at q
  rw [hv] at q
  obtain ⟨a,rfl,oi,r⟩:=q
  refine wpAny_bind (wpAny_standAt (wpAny_bind (lu m hbase hline htrees (bh X ht v ⟨qA (.inr ⟨a,rfl,r⟩) hk,h n A env g ρ σ s _ _ _ X hb fun x' s2 g2 t' σ₂ ea p2 w2 rb=>?_⟩))))
  obtain ⟨y',e'⟩:=bV fun q=>hb (ea.trans q)
  have X2:=X.post p2 w2
  have ka:=fun o e=>p2.keep a o e (X.g.O a ⟨i,oi⟩).2.2
  refine o A g2 σ₂ s2 a x' t t' y' _ _ X.rm w2 (r.mono (p2.k X.g) ka) (hR _ _ _ _ _ rb) e' fun h' tk hs hy=>wpAny_dropValue ?_
  obtain ⟨pS,X'⟩:=kh X2 hv (by rw [e0];exact fun q=>by cases q) (by rw [p2.o];exact oi) (v.move fun b m o e=>p2.keep b o e (X.env.own b m).2.2.1) hs hy tk
  exact hq _ _ _ σ₂ (ea.trans (by rw [e'];rfl)) (p2.toS.trans pS) X'
theorem jJ:Mu P "list.append" eV (fun g h t x=>Rp P g h t x):=fun A g σ s a x' t v y Q E rm w r rv e hq=>by
 obtain ⟨xs,e1,e2⟩:=az e
 obtain ⟨hl,rfl⟩:=fI e2
 cases eU e1
 obtain ⟨vs,n,a1,a3,a2⟩:=r
 refine eA a1 (hq _ s.toks (Heap.SameBut.update s.heap a (Obj.mapSeq fun a=>a.push x')).2 fun kf=>⟨_,_,IsL.update a1 (fun a=>a.push x'),by rw [List.length_append];exact hl,?_⟩) (bb (a2.size▸a3))
 rw [Array.toList_push]
 exact aO.append (aO.cons (rv.mono kf) aO.nil) (a2.mono kf)
theorem o5 {prog:Program}{w:World}{A:Around}{E:Value->Shared->Prop}{s:Shared}{l b:Addr}{items items2:Array Value}{n n2:Nat}{Q:Value->Shared->Prop}(hl:IsL s.heap l items n)(hb:IsL s.heap b items2 n2)
  (h:Q .none {s with heap:=s.heap.update l (Obj.mapSeq fun a=>a++items2)})(hsz:items.size+items2.size<=lim):wpAny (model prog w) A (call (.builtin "list.extend") [.ref l,.ref b]) Q E s:=by
 have hlim:lim=1000000:=rfl
 have h1:=bb (k:=items.size) (by lia -abstractProof)
 have h2:=bb hsz
 refine call_meets F.slot_list_extend ⟨_,hl,rfl⟩ F.entry_list_extend (F.args_list_extend_2 _ _) (AutoSeq1.list_extend_list_list_0 l items n b items2 n2 ?_ h1 (by lia)) ⟨hl,hb,h⟩
 have:Builtin.List.listTooLong (items.size+items2.size)=false:=by
  unfold Builtin.List.listTooLong
  simp only [decide_eq_false_iff_not]
  lia
 simp [this]
theorem uX:Mu P "list.extend" hU (fun g h t x=>im P g h t x):=fun A g σ s a x' t v y Q E rm w r rv e hq=>by
 obtain ⟨xs,ys,e1,e3,e2⟩:=aU e
 obtain ⟨hl,rfl⟩:=fI e2
 cases eU e1
 obtain ⟨vs,n,a1,a3,a2⟩:=r
 obtain ⟨b,rfl,vs',n',b1,b3,b2⟩:=(im.y rv).ls e3
 refine o5 a1 b1 (hq _ s.toks (Heap.SameBut.update s.heap a (Obj.mapSeq fun a=>a++vs')).2 fun kf=>⟨_,_,IsL.update a1 (fun a=>a++vs'),by rw [List.length_append];exact hl,?_⟩) (by rw [a2.size,b2.size];exact hl)
 rw [Array.toList_append]
 exact aO.append (b2.mono kf) (a2.mono kf)
theorem lW {A:Around}{a b:Nat}(rm:Rm A)(h:a<=cf):A.units+2+min a b < cLine:=by
 have:=rm.units
 have:min a b<=50:=le_trans (min_le_left _ _) h
 lia -abstractProof
theorem w7:pK P (C5 P "list.index") fj (RV P):=fun A env g σ s x x' t t' y Q E rm w q q' e hq=>by
 obtain ⟨xs,e1,e2⟩:=az e
 obtain ⟨d,ds,h1,h2,e3⟩:=aU e2
 obtain ⟨j,h3,e4⟩:=az e3
 cases e4
 obtain ⟨l,rfl,vs,n,a1,a3,a2⟩:=q.ls e1
 obtain ⟨⟨as,r1⟩,c1,l1⟩:=bH cf t' x' d h1 q'
 obtain ⟨⟨bs,r2⟩,c2,l2⟩:=dF (fun t x d e r=>bH cf t x d e (.inl r)) xs _ ds h2 a2
 have hmap:=readsAll_map ds vs.toList bs c2 r2
 obtain ⟨hj,hj1,hj2⟩:=List.findIdx?_eq_some_iff_getElem.mp h3
 have hlen:ds.length=vs.size:=by rw [<-hmap,length_map];rfl
 have at':∀(k:Nat) (h:k < vs.size) (h':k < ds.length),readOf s.heap vs[k]=ds[k]:=fun k h h'=>by
  have:ds[k]=(vs.toList.map (readOf s.heap))[k]'(by rw [length_map];exact h):=by simp only [hmap]
  rw [this,getElem_map];rfl
 refine call_meets F.slot_list_index ⟨_,a1,rfl⟩ F.entry_list_index (F.args_list_index_2 _ _)
  (list_indexAt l vs n Option.none #[] x' (fun v=>PyData.eqv (readOf s.heap v) d) j (hlen▸hj) (by have:=a2.size;have:lim=1000000:=rfl;lia -abstractProof) (by rw [at' j (hlen▸hj) hj];exact hj1) fun k hk hkj=>?_)
  ⟨a1,items_eqAt r2 r1 c2 c1 (lt_of_le_of_lt (by lia -abstractProof) (lW (b:=d.depth) rm l2)),?_⟩
 .rw [at' k hk (hlen▸hk)]
  simpa using hj2 k hkj
 .exact cE w hq
theorem m9:∀{ts:List T} {vs:List Value} {xs:List Str},aO P g h ts vs->vK ts=some xs->∃l:List (Str×Tok),vs=strValues l/\l.map (·.1)=xs
 | [],_,_,r,hs=>by cases r;cases hs;exact ⟨[],rfl,rfl⟩
 |t::ts,_,xs,⟨v,vs,e,r,rs⟩,hs=>by
  obtain ⟨y,ys,h1,h2,h3⟩:=aU hs
  cases h3;cases xU h1
  obtain ⟨_,p,rfl⟩:=r
  obtain ⟨l,e1,e2⟩:=m9 rs h2
  exact ⟨(y,p)::l,by rw [e,e1];rfl,by rw [<-e2];rfl⟩
theorem wW:pK P (C5 P "str.join") tH (RV P):=fun A env g σ s x x' t t' y Q E rm w q q' e hq=>by
 obtain ⟨sep,ts,e1,e2,e3⟩:=aU e
 obtain ⟨xs,e4,e5⟩:=az e3
 obtain ⟨c,rfl⟩:=cC e5
 obtain ⟨c12,c3⟩:=af c
 obtain ⟨c1,c2⟩:=af c12
 obtain ⟨_,p,rfl⟩:=q.s e1
 obtain ⟨l,rfl,vs,n,a1,a3,a2⟩:=q'.ls e2
 obtain ⟨lt,q1,rfl⟩:=m9 a2 e4
 have c1':Builtin.Str.tooLong ((lt.map (·.1)).toArray.foldl (·+·.length+sep.length) 0)=false:=by
  unfold JoinOk at c1
  rw [not_eq_true'] at c1;exact c1
 refine call_meets F.slot_str_join (typeIs_str _ _ _) F.entry_str_join (F.args_str_join_2 _ _) (meets_str_join_list sep p l lt c1') ⟨⟨_,a1,rfl,n,by rw [<-q1]⟩,post_join lt ⟨joinFit_length c1',fun t' k=>?_⟩⟩
 exact hq _ _ g (.toks g s k) w ⟨⟨c2,fT c3⟩,_,rfl⟩
theorem pU:∀(l:List (Str×Tok)),(∀p∈l,PyData.strOk p.1=true/\p.1.length<=lim)->aO P g h ((l.map (·.1)).map T.str) (strValues l)
 | [],_=>rfl
 | (x,t)::r,hl=>⟨_,_,rfl,⟨hl (x,t) mem_cons_self,t,rfl⟩,pU r fun p hp=>hl p (mem_cons_of_mem _ hp)⟩
theorem uq:pK P (C5 P "str.split") od (RV P):=fun A env g σ s x x' t t' y Q E rm w q q' e hq=>by
 obtain ⟨z,z',e1,e2,e3⟩:=aU e
 obtain ⟨c,rfl⟩:=cC e3
 obtain ⟨c12,c3⟩:=af c
 obtain ⟨c1,c2⟩:=af c12
 obtain ⟨⟨h1,h2⟩,p,rfl⟩:=q.s e1
 obtain ⟨_,u,rfl⟩:=q'.s e2
 have c1:(z'.length==0)=false:=by rw [not_eq_true'] at c1;exact c1
 have c2:=fT c2
 have fin:∀(lt:List (Str×Tok)) (tk:Nat),lt.map (·.1)=Txt.split z z'->Q (.ref s.heap.objs.size) {s with heap:=s.heap.push (bm (strValues lt).toArray 0),toks:=tk}:=fun lt tk hlt=>by
  rw [<-hlt] at c2 c3 hq
  refine jb w (pU lt fun p hp=>?_) (by rw [length_map];exact c2) hq
  have:=af (aB c3 p.1 (List.mem_map_of_mem hp))
  exact ⟨this.1,of_decide_eq_true this.2⟩
 have hx:z.length<=sizeLine:=bb h2
 cases q1:(decide (z.length < z'.length)||decide (Builtin.Str.strKind z < Builtin.Str.strKind z'))
 .cases hf:(Builtin.Str.occurrences z z' 0 z.length (z.length+1)).isEmpty
  .have hsp:Txt.split z z'=Builtin.Str.partsBetween z (Builtin.Str.occurrences z z' 0 z.length (z.length+1)) z'.length:=(if_neg (ne_true_of_eq_false q1)).trans (if_neg (ne_true_of_eq_false hf))
   refine call_meets F.slot_str_split (typeIs_str _ _ _) F.entry_str_split (F.args_str_split_2 _ _) (meets_str_split_sep z z' p u q1 c1 hf hx (by rw [<-hsp];exact bb c2)) ?_
   show wants _ _ _ {s with toks:=_,heap:=s.heap.push {cls:=.type "list",data:=.seq (strsFrom s.toks (Builtin.Str.partsBetween z (Builtin.Str.occurrences z z' 0 z.length (z.length+1)) z'.length)).toArray}}
   rw [strsFrom_eq]
   exact fin _ _ ((numbered_texts _ _).trans hsp.symm)
  .exact call_meets F.slot_str_split (typeIs_str _ _ _) F.entry_str_split (F.args_str_split_2 _ _) (meets_str_split_not_found z z' p u q1 c1 hf) (fin [(z,p)] s.toks ((if_neg (ne_true_of_eq_false q1)).trans (if_pos hf)).symm)
 .exact call_meets F.slot_str_split (typeIs_str _ _ _) F.entry_str_split (F.args_str_split_2 _ _) (meets_str_split_cannot_occur z z' p u q1) (fin [(z,p)] s.toks (if_pos q1).symm)
theorem lM:vw .list (ofString "append") "list.append":=⟨F.slot_list_append,F.type_list_append⟩
theorem Ca:vw .str (ofString "join") "str.join":=⟨F.slot_str_join,F.type_str_join⟩
theorem zy:vw .str (ofString "split") "str.split":=⟨F.slot_str_split,F.type_str_split⟩
theorem xb:vw .list (ofString "extend") "list.extend":=⟨F.slot_list_extend,F.type_list_extend⟩
theorem tM:vw .list (ofString "index") "list.index":=⟨F.slot_list_index,F.type_list_index⟩
end
end
end Mine
namespace Mine
noncomputable section
open PySem PySem.W PyProof.Rows PySem.SeqAt
noncomputable abbrev f8:=Ky×Addr×Value
section
variable {P:Pg} {B:br} {C:Ct} {fr:Bool} {g g':Gh} {h h':Heap} {t:T} {x:Value}
theorem AL {f:T->Option Ky}{n:Nat}(hf:∀t κ x,f t=some κ->Rp P g h t x->An h n κ x):∀(ts:List T) (κs:List Ky) (xs:List Value),iJ.go f ts=some κs->aO P g h ts xs->CJ h n κs xs
 | [],κs,xs,e,r=>by cases r;cases e;exact ⟨[],rfl,rfl⟩
 |t::ts,κs,xs,e,⟨v,vs,e',q,r⟩=>by
  subst e'
  obtain ⟨κ,κs',e1,e2,e3⟩:=aU e
  cases e3
  obtain ⟨d,g1,h1⟩:=hf t κ _ e1 q
  obtain ⟨ds,g2,h2⟩:=AL hf ts κs' _ e2 r
  exact ⟨d::ds,by rw [Kx.norms,g1,g2],⟨_,_,rfl,h1,h2⟩⟩
theorem DM:∀(n:Nat) (t:T) (κ:Ky) (x:Value),iJ n t=some κ->Rp P g h t x->An h n κ x:=by
 have base:∀n t κ x,(match t with |.tup _=>False |_=>True)->iJ n t=some κ->Rp P g h t x->An h n κ x:=fun n t κ x ht e r=>by
  cases t with
  |bool b=>cases n<;>cases e<;>exact ⟨.bool _,rfl,r⟩
  |int i=>cases n<;>cases e<;>exact ⟨.int _,rfl,r⟩
  |str s=>cases n<;>cases e<;>exact ⟨.str _,rfl,r.1.1,r.2⟩
  |tup=>exact ht.elim
  |_=>cases n<;>cases e
 intro n
 induction n with
 |zero=>
  intro t κ x e r
  cases t with
  |tup=>cases e
  |_=>exact base 0 _ κ x trivial e r
 |succ n ih=>
  intro t κ x e r
  cases t with
  |tup ts=>
   obtain ⟨κs,e1,e2⟩:=az (show o1 (iJ.go (iJ n) ts) (fun ks=>some (Ky.tup ks))=some κ from e)
   cases e2
   obtain ⟨a,rfl,_,vs,m,hg,_,r⟩:=r
   obtain ⟨ds,g1,h1⟩:=AL ih ts κs _ e1 r
   exact ⟨.tup ds,congrArg Ky.tup g1,_,_,_,n,rfl,rfl,hg,h1⟩
  |_=>exact base (n+1) _ κ x trivial e r
theorem lE {κ:Ky}(e:vp t=some κ)(r:dY P g h t x):∃a,x=.ref a/\(aN P.prog P.w).is h κ a/\Rp P g h t x:=by
 obtain ⟨ts,e1,e2⟩:=az e
 cases jI e1
 have r:=r.v fun _ h=>h
 have k:=DM 6 _ κ _ e2 r
 obtain ⟨a,rfl,_⟩:=id r
 exact ⟨a,rfl,k,r⟩
theorem o6:∀(es:List DictEntry) (us:List T) (κs:List Ky),aO P g h us (es.map (·.key))->eY us=some κs->es.map (·.hash)=κs.map (Ky.hash P.w)->
  ∃xs:List f8,es=xs.map (entryOfKey (aN P.prog P.w))/\xs.map (·.1)=κs/\(∀x∈xs,(aN P.prog P.w).is h x.1 x.2.1)
 | [],us,κs,r,e,hh=>by
  obtain rfl:us=[]:=length_eq_zero_iff.mp r.length.symm
  cases e;exact ⟨[],rfl,rfl,fun _ h=>nomatch h⟩
 |en::es,us,κs,r,e,hh=>by
  cases us with
  |nil=>cases r
  |cons u us=>
   obtain ⟨_,_,e0,q,r⟩:=r
   cases e0
   obtain ⟨κ,κs',e1,e2,e3⟩:=aU (show o2 (vp u) (eY us) _=some κs from e)
   cases e3
   obtain ⟨a,ha,hk,_⟩:=lE e1 (.inl q)
   rw [map_cons,map_cons] at hh
   obtain ⟨hh1,hh2⟩:=List.cons.inj hh
   obtain ⟨xs,h1,h2,h3⟩:=o6 es us κs' r e2 hh2
   refine ⟨(κ,a,en.val)::xs,?_,by rw [map_cons,h2],fun x hx=>?_⟩
   .rw [map_cons,<-h1]
    congr 1
    cases en
    simp only at ha hh1
    rw [ha,hh1];rfl
   .rcases an hx with rfl |hx
    .exact hk
    .exact h3 x hx
inductive C0 (P:Pg) (g:Gh) (h:Heap) (us ts:List T) (a:Addr):Prop
 |mk (xs:List f8) (n:(a==sysModules)=false) (d:h.DictOfH (aN P.prog P.w) a xs) (k:eY us=some (xs.map (·.1))) (r:aO P g h us (xs.map fun y=>Value.ref y.2.1)) (r':aO P g h ts (xs.map (·.2.2))) (l:us.length<=lim)
theorem yy.is {us ts:List T}{a:Addr}(q:yy P h us (aO P g h us) (aO P g h ts) a):C0 P g h us ts a:=by
 obtain ⟨n,o,es,e,q,r1,r2⟩:=q
 obtain ⟨κ,k1,k2,k3⟩:=q.k
 obtain ⟨ep,d⟩:=q.d
 obtain ⟨xs,h1,h2,h3⟩:=o6 es us κ r1 k1 k2
 refine ⟨xs,n,⟨o,_,ep,e,q.x,d,h1,h3,by rw [h2];exact k3⟩,by rw [h2];exact k1,?_,?_,q.l⟩
 .rw [h1,map_map] at r1;exact r1
 .rw [h1,map_map] at r2;exact r2
theorem C0.back {us ts:List T}{a:Addr}{xs:List f8}(n:(a==sysModules)=false)(d:h.DictOfH (aN P.prog P.w) a xs)(k:eY us=some (xs.map (·.1)))(r:aO P g h us (xs.map fun y=>Value.ref y.2.1))(r':aO P g h ts (xs.map (·.2.2)))(l:us.length<=lim):gP P g h a (.dct us ts):=by
 obtain ⟨o,es,ep,e,x,d,h1,h3,h4⟩:=d
 refine ⟨n,o,es.toList,e,⟨x,⟨ep,d⟩,⟨_,k,?_,h4⟩,l⟩,?_,?_⟩
 .rw [h1,map_map,map_map];rfl
 .rw [h1,map_map];exact r
 .rw [h1,map_map];exact r'
theorem xW {p:List T×List T}(e:CW t=some p):t=.dct p.1 p.2:=by cases t<;>cases e;rfl
theorem dY.d {p:List T×List T}(q:dY P g h t x)(e:CW t=some p):∃a,x=.ref a/\C0 P g h p.1 p.2 a:=by cases xW e;exact q.elim (fun r=>let ⟨a,e,_,o⟩:=r;⟨a,e,o.is⟩) fun ⟨a,e,o⟩=>⟨a,e,yy.is o⟩
theorem mj (κ:Ky):∀(xs:List f8),atKey xs κ=(oS (xs.map (·.1)) κ).bind fun i=>(xs[i]?).map (·.2)
 | []=>rfl
 |x::xs=>by
  have ih:=mj κ xs
  unfold atKey oS at ih ⊢
  rw [map_cons,findIdx?_cons,List.find?_cons]
  cases decide (x.1=κ) with
  |true=>rfl
  |false=>
   simp only [false_eq_true,if_false]
   rw [ih]
   cases List.findIdx? (fun y=>decide (y=κ)) (xs.map (·.1)) with
   |none=>rfl
   |some i=>rfl
theorem tC {κs:List Ky}{κ:Ky}{i:Nat}(e:oS κs κ=some i):κs[i]?=some κ:=by
 obtain ⟨h1,h2,_⟩:=List.findIdx?_eq_some_iff_getElem.mp e
 rw [getElem?_eq_getElem h1,of_decide_eq_true h2]
theorem s9 {A:Around}(hu:A.units+200 < cLine):(aN P.prog P.w).room A.in1:=by
 show A.in1.units+6 < cLine
 rw [Around.in1_units];lia -abstractProof
theorem wv {A:Around}{x y:Value}{s:Shared}{t:Bool}{Q:Value->Shared->Prop}{E:Value->Shared->Prop}(h:wpAny P.M A (compareOp .In x y) (fun v s'=>v=.bool t/\Q (.bool (!t)) s') E s):wpAny P.M A (compareOp .NotIn x y) Q E s:=fun Z p hΓ=>by
 have h':=h Z p hΓ
 rw [show compareOp .In x y=(do return .bool (<-contains y x)) from rfl,Sem.wp_bind'] at h'
 rw [show compareOp .NotIn x y=(do return .bool (!(<-contains y x))) from rfl,Sem.wp_bind']
 refine Sem.wp_mono P.M Z _ (fun b p' s' q=>?_) (fun _ _ _ q=>q) p s h'
 obtain ⟨q1,q2⟩:=(show Value.bool b=.bool t/\_ from q)
 cases q1;exact q2
theorem td {κ:Ky}{z:Value}:∀{xs:List f8} {j:Nat},(xs.map (·.1)).Nodup->(∃x,xs[j]?=some x/\x.1=κ)->(xs.map (putAt κ z)).map (·.2.2)=(xs.map (·.2.2)).set j z/\(xs.map (putAt κ z)).map (fun y=>Value.ref y.2.1)=xs.map (fun y=>Value.ref y.2.1)
 | [],j,_,⟨_,h,_⟩=>by cases h
 |x::xs,0,nd,⟨y,h,h'⟩=>by
  cases h
  have:xs.map (putAt κ z)=xs:=map_putAt_of_not_mem xs κ z (by rw [<-h'];exact (aK nd).1)
  rewrite [map_cons,this]
  simp [putAt,h']
 |x::xs,j+1,nd,⟨y,h,h'⟩=>by
  have nd':=aK nd
  obtain ⟨h1,h2⟩:=td (κ:=κ) (z:=z) (xs:=xs) (j:=j) nd'.2 ⟨y,h,h'⟩
  have hx:x.1≠κ:=fun q=>nd'.1 (by show x.1∈_;rw [q,<-h'];exact List.mem_map_of_mem (mem_of_getElem? (i:=j) h))
  have e:putAt κ z x=x:=by unfold putAt;rw [if_neg hx]
  rewrite [map_cons,e]
  exact ⟨congrArg (x.2.2::·) h1,congrArg (Value.ref x.2.1::·) h2⟩
theorem jp {xs:List f8}{us:List T}{k:T}{κ:Ky}{i:Option Nat}(hk:eY us=some (xs.map (·.1)))(e:j6 us k=some i)(e':vp k=some κ):oS (xs.map (·.1)) κ=i:=by
 unfold j6 at e
 rw [hk,e'] at e
 exact Option.some.inj e
theorem kM {xs:List f8}{κ:Ky}{j:Nat}(e:oS (xs.map (·.1)) κ=some j):∃x,xs[j]?=some x/\x.1=κ:=by
 have:=tC e
 rw [getElem?_map] at this
 cases hx:xs[j]? with
 |none=>rw [hx] at this;cases this
 |some x=>rw [hx] at this;exact ⟨x,rfl,Option.some.inj this⟩
theorem jC {us:List T}{i:Option Nat}(e:j6 us t=some i):∃κ,vp t=some κ:=let ⟨_,κ,_,e2,_⟩:=aU e;⟨κ,e2⟩
theorem xJ:iH P .In B9:=fun A g σ s x x' t t' b Q E rm w q q' e k=>by
 obtain ⟨p,e1,e2⟩:=az e
 obtain ⟨i,e3,e4⟩:=az e2
 cases e4
 obtain ⟨κ,hk⟩:=jC e3
 obtain ⟨d,rfl,xs,n,dd,kk,r,r',_⟩:=q'.d e1
 obtain ⟨ad,rfl,hi,_⟩:=lE hk q
 have f:=jp kk e3 hk
 refine wpAny_in_heap (s9 rm.units) hi n dd ?_
 rw [show (atKey xs κ).isSome=i.isSome by
  rw [mj,f]
  cases i with
  |none=>rfl
  |some j=>obtain ⟨x,hx,_⟩:=kM f;rw [bind_some,hx];rfl]
 exact k _
theorem u6:iH P .NotIn ig:=fun A g σ s x x' t t' b Q E rm w q q' e k=>by
 obtain ⟨c,e1,rfl⟩:=av e
 exact wv (xJ A g σ s x x' t t' c _ E rm w q q' e1 fun tk=>⟨rfl,k tk⟩)
theorem wl {value slice:Expr}(hs:∀x y,subscripted slice false x y=operate [x,y] (getItem x y)):pK P (yc P value slice) idxD (RV P):=fun A env g σ s x x' t t' y Q E rm w q q' e hq=>by
 obtain ⟨p,e1,e2⟩:=az e
 obtain ⟨i,e3,e4⟩:=az e2
 obtain ⟨j,rfl,hv⟩:=az e4
 obtain ⟨κ,hk⟩:=jC e3
 obtain ⟨d,rfl,xs,n,dd,kk,r,r',_⟩:=q.d e1
 obtain ⟨ad,rfl,hi,_⟩:=lE hk q'
 have f:=jp kk e3 hk
 obtain ⟨z,hz,hz'⟩:=kM f
 obtain ⟨u,hu',hr⟩:=r'.get hv
 rw [getElem?_map,hz] at hu'
 cases hu'
 refine tail_any dd.typeIs slot_dict_getitem.lookup (wpAny_getItem_heap (s9 rm.units) hi dd (p:=z.2) ?_ (hq _ _ g (.toks g s _) w hr)) (hs _ _)
 rw [mj,f,bind_some,hz];rfl
theorem aq.idxD {a i:Expr}{pa pi:PE}{pos:Pos}(hs:∀x y,subscripted i false x y=operate [x,y] (getItem x y))(ha:aq P B C a pa (RX P))(hi:aq P B C i pi (RX P)):aq P B C (.Subscript a i pos) (p2 idxD pa pi) (RV P):=
 (ha.op2 hi.xy jt (wl hs)).map fun _ _ _ _ _=>Subscript_
theorem sx {f:T->Option Ky}:∀{ts:List T} {κs:List Ky} {t:T} {κ:Ky},iJ.go f ts=some κs->f t=some κ->iJ.go f (ts++[t])=some (κs++[κ])
 | [],_,t,κ,e,e'=>by cases e;rw [List.nil_append,mQ,e'];rfl
 |x::ts,κs,t,κ,e,e'=>by
  obtain ⟨k,ks,e1,e2,e3⟩:=aU (show o2 (f x) (iJ.go f ts) _=some κs from e)
  cases e3
  rw [cons_append,mQ,e1,sx e2 e'];rfl
theorem jM {xs:List f8}{us ts:List T}{k v:T}{κ:Ky}{i:Option Nat}{ad:Addr}{z:Value}(hk:eY us=some (xs.map (·.1)))(nd:(xs.map (·.1)).Nodup)(hd:j6 us k=some i)(hky:vp k=some κ)(r:aO P g h us (xs.map fun y=>Value.ref y.2.1))(r':aO P g h ts (xs.map (·.2.2)))(q:Rp P g h k (.ref ad))(q':Rp P g h v z):
  eY (lh i k v us ts).1=some ((storedH xs κ ad z).map (·.1))/\aO P g h (lh i k v us ts).1 ((storedH xs κ ad z).map fun y=>Value.ref y.2.1)/\aO P g h (lh i k v us ts).2 ((storedH xs κ ad z).map (·.2.2)):=by
 have f:=jp hk hd hky
 have a:=mj κ xs
 rw [f] at a
 cases i with
 |none=>
  rw [storedH_new a,map_append,map_append,map_append]
  exact ⟨sx hk hky,aO.append (aO.cons q aO.nil) r,aO.append (aO.cons q' aO.nil) r'⟩
 |some j=>
  obtain ⟨x,hx,hx'⟩:=kM f
  rw [bind_some,hx] at a
  rw [storedH_old a,keys_map_putAt]
  obtain ⟨h1,h2⟩:=td (z:=z) nd ⟨x,hx,hx'⟩
  exact ⟨hk,by rw [h2];exact r,by rw [h1];exact r'.set q' j⟩
theorem wd {α:Type}{i:Option Nat}{k v:α}{ks vs:List α}(h:ks.length+1<=lim):(lh i k v ks vs).1.length<=lim:=by
 cases i with
 |none=>rw [lh,List.length_append];exact h
 |some j=>exact Nat.le_of_succ_le h
noncomputable def Pu (P:Pg)(F:T->T->T->Option T):Prop:=
 ∀A g σ s a xk xv t κ v y Q E,Rm A->bj P g s.heap σ->gP P g s.heap a t->dY P g s.heap κ xk->Rp P g s.heap v xv->F t κ v=some y->
  (∀h' tk,(∀b,b≠a->h'.get? b=s.heap.get? b)->(aR g s.heap g h'->gP P g h' a y)->Q () {s with heap:=h',toks:=tk})->wpAny P.M A (setItem (.ref a) xk xv) Q E s
theorem te:Pu P i0:=fun A g σ s a xk xv t κ v y Q E rm w r rk rv e hq=>by
 obtain ⟨p,e1,e2⟩:=az e
 obtain ⟨i,e3,e4⟩:=az e2
 obtain ⟨hl,rfl⟩:=fI e4
 cases xW e1
 obtain ⟨ky,hk⟩:=jC e3
 obtain ⟨xs,n,dd,kk,r1,r2,_⟩:=yy.is r
 obtain ⟨ad,rfl,hi,rk⟩:=lE hk rk
 have nd:(xs.map (·.1)).Nodup:=let ⟨_,_,_,_,_,_,_,_,nd⟩:=dd;nd
 have hxl:xs.length<=sizeLine:=bb (by have:=r1.length;rw [length_map] at this;lia -abstractProof)
 refine wpAny_setItem_heap (s9 rm.units) hi dd (fun h' dd' hs=>hq h' _ hs.2 fun kf=>?_) hxl
 obtain ⟨g1,g2,g3⟩:=jM (v:=v) (z:=xv) kk nd e3 hk r1 r2 rk rv
 exact C0.back n dd' g1 (g2.mono kf) (g3.mono kf) (wd hl)
theorem mJ {prog:Program}{w:World}{A:Around}{E:Value->Shared->Prop}{s:Shared}{l:Addr}{items:Array Value}{n:Nat}{k:Int}{t:Tok}{v:Value}{Q:Unit->Shared->Prop}(hl:IsL s.heap l items n)(h0:0<=k)(hj:k < items.size)(hfit:k < 2 ^ 63)
  (hQ:Q () {s with heap:=s.heap.update l (Obj.mapSeq (·.setIfInBounds k.toNat v))}):wpAny (model prog w) A (setItem (.ref l) (.int k t) v) Q E s:=by
 have hT:s.TypeIs (.ref l) "list":=⟨_,hl,rfl⟩
 unfold setItem
 try with_reducible refine wpAny_holding ?_
 first |refine wpAny_bind (wpAny_pure ?_) |skip
 refine wpAny_bind (wpAny_sequenceKey hT (by decide) ?_)
 refine wpAny_bind (wpAny_callSpecial?_slot (name:=ofString "__setitem__") hT slot_list_setitem (wpAny_call_entry slot_list_setitem hT entry_list_setitem ?_ (args_list_setitem _ _ _)))
 show wpAny _ _ (Builtin.List.listSubscript? (.int k t) >>=_) _ _ s
 refine wpAny_bind (wpAny_listSubscript_int (fitsIndex_of h0 hfit) ?_)
 clear hfit
 obtain ⟨j,rfl⟩:=Int.eq_ofNat_of_zero_le h0
 have hj:j < items.size:=by lia -abstractProof
 show wpAny _ _ ((seqItemAt l j >>=fun r=>pure (r.map (j,·))) >>=_) _ _ s
 refine wpAny_bind (wpAny_bind (wpAny_seqItemAt hl rfl (wpAny_pure ?_)))
 rw [Array.getElem?_eq_getElem hj]
 show wpAny _ _ (setSeqItemAt l j v >>=_) _ _ s
 refine wpAny_bind (wpAny_setSeqItemAt hl rfl ?_)
 first
  |exact wpAny_bind (wpAny_pure (wpAny_pure ⟨.none,rfl,wpAny_pure hQ⟩))
  |exact wpAny_pure ⟨.none,rfl,wpAny_pure hQ⟩
theorem wc:Pu P Ds:=fun A g σ s a xk xv t κ v y Q E rm w r rk rv e hq=>by
 obtain ⟨xs,i,e1,e2,e3⟩:=aU e
 obtain ⟨c,rfl⟩:=cC e3
 obtain ⟨c1,c2⟩:=af c
 have c1:=of_decide_eq_true c1
 have c2:=of_decide_eq_true c2
 cases eU e1
 obtain ⟨vs,n,a1,a3,a2⟩:=r
 obtain ⟨p,rfl⟩:=rk.i e2
 have hz:=a2.size
 refine mJ a1 c1 (by rw [hz];exact c2) (Int.lt_trans c2 (qs a3)) (hq _ s.toks (Heap.SameBut.update s.heap a (Obj.mapSeq (·.setIfInBounds i.toNat xv))).2 fun kf=>⟨_,_,IsL.update a1 (·.setIfInBounds i.toNat xv),by rw [length_set];exact a3,?_⟩)
 rw [Array.toList_setIfInBounds]
 exact (a2.mono kf).set (rv.mono kf) i.toNat
theorem aM.put {i e:Expr}{y:Str}{k:NameKind}{np p pos:Pos}{pi pe:PE}{j:Nat}{F:T->T->T->Option T}(o:Pu P F)(hv:bi C j=true)(ht:B.tab[j]?=some (some (y,k)))(hw:∀env,swapsWith e (some (.Subscript (.Name y np) i p)) pos.line env=pure false)(h2:aq P B C i pi (RX P))(h3:aq P B C e pe (RV P)):
  aM P B C fr C (.Assign [.Subscript (.Name y np) i p] e pos) (C6 j F pi pe):=fun n A env g ρ σ s kk Q E X hb hq hr=>by
 refine wpAny_Assign_Subscript (h3 n A env g ρ σ s _ _ E X hb fun z s₁ ga v σ₁ ea p1 w1 ra=>?_) (hw env)
 have X1:=X.post p1 w1
 have ea:C6 j F pi pe (P.cx n) ρ σ kk=(match cI ρ j with |some x=>pi (P.cx n) ρ σ₁ fun κ σ=>up (F x κ v) σ fun y σ=>kk (ρ.set j (some y)) σ |none=>.bad):=ea
 cases e0:cI ρ j with
 |none=>rw [e0] at ea;exact absurd ea hb
 |some t=>
  rw [e0] at ea
  have hb1:=fun q=>hb (ea.trans q)
  obtain ⟨u,va,q⟩:=X1.env.var j _ t ht e0
  unfold bw at q
  rw [hv] at q
  obtain ⟨a,rfl,oi,r⟩:=q
  refine bh X1 ht va (h2 n A env ga ρ σ₁ s₁ _ _ E X1 hb1 fun xk s2 gb κ σ₂ eb pb w2 rb=>?_)
  obtain ⟨y',e'⟩:=bV fun q=>hb1 (eb.trans q)
  have X2:=X1.post pb w2
  refine o A gb σ₂ s2 a xk z t κ v y' _ _ X.rm w2 (r.mono (pb.k w1) fun o e=>pb.keep a o e (X1.g.O a ⟨j,oi⟩).2.2) (im.y rb) (Rp.mono (pb.k w1) ra) e' fun h' tk hs hy=>?_
  obtain ⟨pS,X'⟩:=kh X2 hv (by rw [e0];exact fun q=>by cases q) (by rw [pb.o];exact oi) (va.move fun b m o e=>pb.keep b o e (X1.env.own b m).2.2.1) hs hy tk
  exact hq _ _ _ σ₂ (ea.trans (eb.trans (by rw [e'];rfl))) ((p1.trans pb).toS.trans pS) X'
theorem ke {g:Gh}{σ:Sg}{s:Shared}(G:pL P)(w:bj P g s.heap σ):(s.heap.objs.size==sysModules)=false:=by
 obtain ⟨o,_,_,e,_⟩:=G.g
 have:=Heap.lt_size (w.base _ _ e).2
 exact beq_eq_false_iff_ne.mpr fun q=>by rw [q] at this;exact absurd this (by decide)
theorem aq.dic {pos:Pos}:aq P B C (.Dict [] [] pos) yW (RN P):=fun n A env g ρ σ s k Q E X hb hq=>by
 refine wpAny_Dict_empty (hq _ _ g _ σ rfl (.push _ s.toks) (X.g.push _) ?_)
 obtain ⟨h1,h2,h3⟩:=de X.g
 exact ⟨_,rfl,aJ _,h1,h2,h3,ke X.good X.g,_,[],bD _,⟨⟨rfl,rfl,rfl⟩,⟨_,rfl⟩,⟨[],rfl,rfl,.nil⟩,zero_le _⟩,rfl,rfl⟩
end
end
end Mine
namespace Mine
noncomputable section
open PySem PyProof.Rows PySem.SeqAt
inductive bo (P:Pg) (c:Nat) (ms:List (Str×Nat)):Prop
 |mk (N:Addr) (mN:Str->Option Value) (K:ClsAt P.h₀ (P.cls c) N mN) (g1:mN "__getattribute__"=none) (g2:mN "__getattr__"=none) (g3:mN "__setattr__"=none) (g4:∀x∈bU c,mN x=none/\typeLookup (.type "object") x=pure none)
  (g5:∀p∈ms,mN p.1=some (.ref (P.fnA p.2))/\(∃y,typeLookup (.type "object") p.1=pure y)/\∃o,P.h₀.get? (P.fnA p.2)=some o/\o.cls=.type "function")
noncomputable abbrev CK (P:Pg)(h:Heap):Prop:=∀a o,P.h₀.get? a=some o->h.get? a=some o
section
variable {P:Pg} {B:br} {C C':Ct} {fr:Bool} {n c i f:Nat} {A:Around} {env:Env} {g g':Gh} {ρ:aZ} {σ:Sg} {s s':Shared} {h h':Heap} {t:T} {x:Value} {ms:List (Str×Nat)} {name:Str} {m:Str->Option Value} {dx a:Addr} {us:List Value} {E:Value->Shared->Prop}
theorem bj.bs (w:bj P g h σ):CK P h:=fun a o e=>(w.base a o e).2
theorem d9.inst (i:d9 P h c m dx a):h.Inst a (P.cls c) m:=let ⟨o,e,k,n,ne⟩:=i;⟨o,e,k.cls,k.no,.inr ⟨dx,k.dict,ne,n⟩⟩
theorem jH {u:Value}{Q:Value->Shared->Prop}(O:bo P c ms)(hn:name∈bU c)(bs:CK P s.heap)(i:d9 P s.heap c m dx a)(hm:m name=some u)(hu:handedOut u=pure u)(hq:Q u {s with toks:=s.toks+1}):wpAny P.M A (getAttr (.ref a) name true) Q E s:=by
 obtain ⟨N,mN,K,g1,g2,g3,g4,g5⟩:=O
 obtain ⟨nm,q,bs',sn,sub,col,dd,k0,k1,k2,k3,k5,hC⟩:=(K.keeps bs).obj
 exact load_attr (h:=s.heap) hC (K.keeps bs).ns g1 (g4 name hn).1 (g4 name hn).2 i.inst hm hu hq
theorem wy {pl:Sem Bool}{Q:Value×List Value->Shared->Prop}(O:bo P c ms)(hm:(name,f)∈ms)(hn:name∉bU c)(bs:CK P s.heap)(i:d9 P s.heap c m dx a)(k:rj c m us)(hq:Q (.ref (P.fnA f),[.ref a]) s):wpAny P.M A (getMethod (.ref a) name pl) Q E s:=by
 obtain ⟨N,mN,K,g1,g2,g3,g4,g5⟩:=O
 obtain ⟨i1,⟨y,hy⟩,oI,i2,i3⟩:=g5 _ hm
 obtain ⟨nm,q,bs',sn,sub,col,dd,k0,k1,k2,k3,k5,hC⟩:=(K.keeps bs).obj
 exact method_of (h:=s.heap) hC (K.keeps bs).ns g1 g2 i1 (bs _ _ i2) i3 hy i.inst (k.no name hn) hq
theorem Rp.handed (r:Rp P g h t x):handedOut x=pure x:=by
 have k:∀{y:Value},x=y->handedOut y=pure y->handedOut x=pure x:=fun e h=>e▸h
 cases t with
 |none=>exact k r rfl
 |bool=>exact k r rfl
 |int=>exact let ⟨_,e⟩:=r;k e rfl
 |str=>exact let ⟨_,_,e⟩:=r;k e rfl
 |scr=>exact let ⟨_,_,e,_,_,_⟩:=r;k e rfl
 |spot=>exact k r rfl
 |self=>exact (show False from r).elim
 |_=>exact let ⟨_,e,_,_⟩:=r;k e rfl
theorem pI {α:Type}{c:Bool}{o:Option α}{y:α}(h:(bif c then o else none)=some y):c=true/\o=some y:=by
 cases c with
 |true=>exact ⟨rfl,h⟩
 |false=>cases h
theorem xV {ts:List T}(e:ES c t=some ts):t=.obj c ts:=by
 cases t with
 |obj c' us=>obtain ⟨h,rfl⟩:=cC e;rw [eq_of_beq_eq_true h]
 |_=>cases e
theorem t8 (O:bo P c ms)(hn:(bU c)[i]?=some name):vt P (CG P fun x=>getAttr x name true) (iB c i) (RV P):=fun A env g σ s x t y Q E rm w q e hq=>by
 obtain ⟨ts,e1,e2⟩:=az e
 cases xV e1
 obtain ⟨a,rfl,f,dx,m,us,fd,ih,k,r⟩:=q.v fun _ h=>h
 obtain ⟨u,hu,hr⟩:=r.get e2
 exact jH O (mem_of_getElem? hn) w.bs ih (k.at_ i name u hu hn) hr.handed (hq u _ g (.toks g s _) w hr)
theorem sP {M:Model}{o:Expr}{attr:Str}{pos:Pos}{Q:Value->Shared->Prop}(hbase:attributeBase o attr env (eval o env)=eval o env)(hlet:∀x r,letTemporaryGo o x r=pure ())
  (h:wpAny M A (eval o env) (fun o s₁=>wpAny M A (getAttr o attr true) Q E s₁) E s):wpAny M A (eval (.Attribute o attr pos) env) Q E s:=by
 rw [arm_eval_Attribute,hbase]
 refine wpAny_bind (wpAny_mono h (fun o s₁ ha=>wpAny_bind (wpAny_standAt (wpAny_bind (wpAny_holding (wpAny_mono ha (fun r s2 hc=>?_) fun _ _ y=>y))))) fun _ _ y=>y)
 rw [hlet]
 exact wpAny_bind (wpAny_pure (wpAny_pure hc))
theorem aq.attr {o:Expr}{pos:Pos}{p:PE}(O:bo P c ms)(hn:(bU c)[i]?=some name)(hbase:∀env,attributeBase o name env (eval o env)=eval o env)(hlet:∀x r,letTemporaryGo o x r=pure ())(h:aq P B C o p (RV P)):aq P B C (.Attribute o name pos) (p1 (iB c i) p) (RV P):=
 (h.vx.xy.op1 jt (t8 O hn)).map fun _ env _ _ _=>sP (hbase env) hlet
theorem bw.self {i:Nat}{u:Value}(q:bw P C g h i .self u):u=.ref g.sa:=by
 unfold bw at q
 cases e:bi C i with
 |true=>rw [e] at q;exact let ⟨_,_,_,r⟩:=q;(show False from r).elim
 |false=>rw [e] at q;exact q.elim (fun r=>(show False from r).elim) (·.2.2.2)
theorem aq.rat {y:Str}{k:NameKind}{np pos:Pos}(O:bo P c ms)(hn:(bU c)[i]?=some name)(ho:bi C 0=false)(ht:B.tab[0]?=some (some (y,k))):aq P B C (.Attribute (.Name y np) name pos) (fh c i) (RV P):=fun n A env g ρ σ s kk Q E X hb hq=>by
 obtain ⟨u,e⟩:=bV hb
 obtain ⟨t,e0,e1⟩:=az e
 obtain ⟨v,va,q⟩:=X.env.var 0 _ t ht e0
 unfold bw at q
 rw [ho] at q
 have ek:fh c i (P.cx n) ρ σ kk=kk u σ:=by unfold fh;rw [e];rfl
 refine sP rfl (fun _ _=>rfl) (bh X ht va ?_)
 rcases q with r | ⟨_,_,rfl,rfl⟩
 .exact t8 O hn A env g σ s v t u Q E X.rm X.g (.inl r) (by cases t<;>first |exact e1 |exact (show False from r).elim) fun x s' g' p w r=>hq x s' g' u σ ek p w r
 .obtain ⟨p,e2,e3⟩:=az e1
  obtain ⟨b,e4⟩:=pI e3
  obtain ⟨b1,b2⟩:=af b
  obtain ⟨dx,m,us,ih,z,z',ne,k,l,sh,_,_⟩:=X.g.self p.1 p.2 e2
  obtain rfl:=eq_of_beq_eq_true b1
  have hi:i < us.length:=by rw [l];exact (aj e4).1
  have r:=sh i _ u (getElem?_eq_getElem hi) e4 ((not_eq_true' _).mp b2)
  exact jH O (mem_of_getElem? hn) X.g.bs ih (k.at_ i name _ (getElem?_eq_getElem hi) hn) r.handed (hq _ _ g u σ ek (.toks g s _) X.g r)
theorem ro {M:Model}{o:Expr}{apos pos:Pos}{args:List Expr}{Q:Value->Shared->Prop}(hbase:attributeBase o name env (eval o env)=eval o env)
  (hfew:methodCallForm (args.length+([]:List Keyword).length) (backTo pos (starEach args env)) (backToKw pos (keywordEach [] env))=true)(hline:(apos.endLine==pos.line)=true)
  (h:wpAny M A (eval o env) (fun ov s₁=>∀pl,wpAny M A (getMethod ov name pl) (fun fv s2=>wpAny M A (callWith pos fv.1 fv.2 (backTo pos (starEach args env)) []) Q E s2) E s₁) E s):
  wpAny M A (eval (.Call (.Attribute o name apos) args [] pos) env) Q E s:=by
 rw [arm_eval_Call,hbase]
 refine wpAny_bind (wpAny_mono h (fun ov s₁ ha=>?_) fun _ _ e=>e)
 refine wpAny_bind (wpAny_standAt ?_)
 have hpos:methodCallPos true o env apos pos=pure pos:=by unfold methodCallPos;simp [hline]
 unfold methodCall
 rw [hfew]
 refine wpAny_bind (wpAny_holding ?_)
 exact wpAny_mono (ha _) (fun fv s2 hc=>wpAny_bind (wpAny_of_eq hpos hc)) fun _ _ e=>e
noncomputable def EH (c f:Nat)(name:Str)(apos pos:Pos)(k:Nat):Bool:=!(bU c).contains name&&(rA f&&(!j4 f&&((apos.endLine==pos.line)&&Nat.ble k 20)))
structure Ez (c f:Nat) (name:Str) (apos pos:Pos) (k:Nat):Prop where
 n:name∉bU c
 m:rA f=true
 f:j4 f=false
 l:(apos.endLine==pos.line)=true
 k:k<=20
theorem wG {apos pos:Pos}{k:Nat}(h:EH c f name apos pos k=true):Ez c f name apos pos k:=by
 obtain ⟨h1,h⟩:=af h
 obtain ⟨h2,h⟩:=af h
 obtain ⟨h3,h⟩:=af h
 obtain ⟨h4,h⟩:=af h
 exact ⟨(fun q=>by rw [List.contains_iff_mem.mpr q] at h1;cases h1),h2,(not_eq_true' _).mp h3,h4,le_of_ble_eq_true h⟩
theorem few {es:List Expr}{pos:Pos}(hp:∀q∈starEach es env,q.1=false)(hl:es.length<=20):methodCallForm (es.length+([]:List Keyword).length) (backTo pos (starEach es env)) (backToKw pos (keywordEach [] env))=true:=by
 have h1:(backTo pos (starEach es env)).all (fun x=>!x.1)=true:=all_eq_true.mpr fun p hp'=>by rw [bA hp p hp'];rfl
 unfold methodCallForm
 rw [h1]
 show (true&&true&&decide (es.length+0+0 < 30))=true
 simp;lia -abstractProof
theorem ny {es:List Expr}{ps:PL}{apos pos:Pos}{F:gj}{k:PK T}{Q:Value->Shared->Prop}(O:bo P c ms)(hm:(name,f)∈ms)(hf:P.Ψ f=some F)(me:Ez c f name apos pos es.length)(h':gp P B C es ps)(X:At P B C n A env g ρ σ s)(i:d9 P s.heap c m dx a)(kf:rj c m us)(hr:Rp P g s.heap t (.ref a)\/(t=.self/\a=g.sa))
  (hb:(ps (P.cx n) ρ σ fun ts σ=>ti ((P.cx n).call f (t::ts) σ) k)≠.bad)(hq:∀x s' g' u σ',(ps (P.cx n) ρ σ fun ts σ=>ti ((P.cx n).call f (t::ts) σ) k)=k u σ'->aH g s g' s'->bj P g' s'.heap σ'->Rp P g' s'.heap u x->Q x s')(pl:Sem Bool):
  wpAny P.M A (getMethod (.ref a) name pl) (fun fv s2=>wpAny P.M A (callWith pos fv.1 fv.2 (backTo pos (starEach es env)) []) Q E s2) E s:=by
 obtain ⟨o,w1,w2,_⟩:=X.good.fn f F hf
 refine wy O hm me.n X.base i kf (Calls.callWith_function (fd:=P.fd f) (o:=o) (gK (bA (h'.pl env)) (h'.sim pos n A env g ρ σ s _ _ E X hb fun xs s₁ ga ts σ₁ e p w r=>⟨⟨(w.base _ _ w1).2,w2⟩,?_⟩)))
 obtain ⟨u,σ₂,ec⟩:=wo fun q=>hb (e.trans q)
 refine qN (X.post p w) (ts:=t::ts) (by rw [me.m];exact ⟨_,_,_,_,rfl,rfl,hr.imp (·.mono (p.k X.g)) (fun ⟨a,b⟩=>⟨a,by rw [p.sa,b]⟩),r⟩) ec fun x s' g' p' w' r'=>hq x s' g' u σ₂ (e.trans (by rw [ec,AF])) (p.trans p') w' (by rw [me.f] at r';exact r')
theorem aq.meth {o:Expr}{es:List Expr}{p:PE}{ps:PL}{apos pos:Pos}{F:gj}(O:bo P c ms)(hm:(name,f)∈ms)(hf:P.Ψ f=some F)(me:EH c f name apos pos es.length=true)(hbase:∀env,attributeBase o name env (eval o env)=eval o env)(h:aq P B C o p (RV P))(h':gp P B C es ps):
  aq P B C (.Call (.Attribute o name apos) es [] pos) (mI c f p ps) (RV P):=
 have me:=wG me
 (h.bind (N:=fun A env x Q E s=>∀pl,wpAny P.M A (getMethod x name pl) (fun fv s2=>wpAny P.M A (callWith pos fv.1 fv.2 (backTo pos (starEach es env)) []) Q E s2) E s) (F:=fun cx ρ k t σ=>gd (ES c t).isSome (ps cx ρ σ fun ts σ=>ti (cx.call f (t::ts) σ) k)) jt fun n A env g ga ρ σ s s₁ x t k Q E p X r hb hq=>by
  have hk:=jd hb
  rw [hk] at hb hq
  obtain ⟨ts,e⟩:=aG hk
  cases xV e
  obtain ⟨a,rfl,_,dx,m,us,_,ih,kf,_⟩:=id r
  exact ny O hm hf me h' X ih kf (.inl r) hb hq).map fun A env Q E s h=>ro (hbase env) (few (h'.pl env) me.k) me.l h
theorem oW (h:uT c ρ σ=true):cI ρ 0=some .self/\∃ts,σ.self=some (c,ts):=by
 unfold uT at h
 cases e:cI ρ 0 with
 |none=>rw [e] at h;cases h
 |some t=>
  rw [e] at h
  cases t with
  |self=>
   refine ⟨rfl,?_⟩
   cases e':σ.self with
   |none=>simp only [e'] at h;cases h
   |some p=>simp only [e'] at h;exact ⟨p.2,by rw [<-eq_of_beq_eq_true h]⟩
  |_=>cases h
theorem aq.rmeth {y:Str}{kd:NameKind}{np apos pos:Pos}{es:List Expr}{ps:PL}{F:gj}(O:bo P c ms)(hm:(name,f)∈ms)(hf:P.Ψ f=some F)(me:EH c f name apos pos es.length=true)(ht:B.tab[0]?=some (some (y,kd)))(h':gp P B C es ps):
  aq P B C (.Call (.Attribute (.Name y np) name apos) es [] pos) (rU c f ps) (RV P):=fun n A env g ρ σ s k Q E X hb hq=>by
 have me:=wG me
 unfold rU at hb hq
 have hs:=jd hb
 rw [hs] at hb hq
 obtain ⟨e0,ts,e1⟩:=oW hs
 obtain ⟨v,va,q⟩:=X.env.var 0 _ _ ht e0
 cases q.self
 obtain ⟨dx,m,us,ih,_,_,_,kf,_⟩:=X.g.self c ts e1
 exact ro rfl (few (h'.pl env) me.k) me.l (bh X ht va (ny O hm hf me h' X ih kf (.inr ⟨rfl,rfl⟩) hb hq))
end
section
variable {P:Pg} {B:br} {C C':Ct} {fr:Bool} {n c i f:Nat} {A:Around} {env:Env} {g g' g2:Gh} {ρ:aZ} {σ σ' σ₂:Sg} {s s' s2:Shared} {h h':Heap} {t:T} {x:Value} {ms:List (Str×Nat)} {name:Str} {m:Str->Option Value} {dx a:Addr} {us:List Value} {E:Value->Shared->Prop} {ts:List T}
theorem ch (k:∀a o,h.get? a=some o->h'.get? a=some o)(a:Addr)(e:h'.get? a=none):h.get? a=none:=by
 cases q:h.get? a with
 |none=>rfl
 |some o=>exact (au (k a o q) e).elim
theorem aO.of:∀{us:List Value} {ts:List T},us.length=ts.length->(∀(i:Nat) (v:Value) (t:T),us[i]?=some v->ts[i]?=some t->Rp P g h t v)->aO P g h ts us
 | [],[],_,_=>rfl
 |v::us,t::ts,l,k=>⟨v,us,rfl,k 0 v t rfl rfl,aO.of (Nat.succ.inj l) fun i=>k (i+1)⟩
theorem bj.make {x:Addr}(w:bj P g h σ)(m:Heap.MadeObj h h' x dx (P.cls c)):bj P {g with Z:=fun y=>g.Z y\/y=x\/y=dx,sa:=x} h' ⟨σ.spot,some (c,[])⟩:=by
 obtain ⟨o,hx,hc,hnc,hd⟩:=m.inst
 have hdd:=m.dict o hx
 obtain ⟨ns,ne⟩:h'.Ns1 dx (fun _=>none)/\dx≠x:=by
  rcases hd with ⟨q,_⟩ | ⟨d',q,hne,hns⟩
  .rw [q] at hdd;cases hdd
  .rw [q] at hdd;cases hdd;exact ⟨hns,hne⟩
 have lv:∀a,h.get? a≠none->h'.get? a≠none:=fun a l e=>l (ch m.keeps a e)
 have nn:∀a,h.get? a≠none->a≠x/\a≠dx:=fun a l=>⟨fun q=>l (q▸m.newX),fun q=>l (q▸m.newD)⟩
 have ld:h'.get? dx≠none:=let ⟨_,_,_,e,_⟩:=ns;au e
 have sp:=nn _ (w.Z _ w.spot.2.1).1
 exact ⟨fun a o e=>⟨(w.base a o e).1,m.keeps a o (w.base a o e).2⟩,fun a f=>lv a (w.F a f),
  fun a z=>z.elim (fun z=>⟨lv a (w.Z a z).1,(w.Z a z).2⟩) fun z=>z.elim (fun e=>by rw [e];exact ⟨au hx,fun f=>w.F _ f m.newX⟩) fun e=>by rw [e];exact ⟨ld,fun f=>w.F _ f m.newD⟩,
  fun a q=>⟨lv a (w.O a q).1,(w.O a q).2.1,fun z=>z.elim (w.O a q).2.2 fun z=>z.elim (nn a (w.O a q).1).1 (nn a (w.O a q).1).2⟩,
  w.oo,⟨let ⟨t,n,e⟩:=w.spot.1;⟨t,n,m.keeps _ _ e⟩,.inl w.spot.2.1,fun q=>nomatch q⟩,
  fun c' ts e=>by cases e;exact ⟨dx,_,[],⟨o,hx,⟨hc,hdd,hnc⟩,ns,ne⟩,.inr (.inl rfl),.inr (.inr rfl),⟨fun q=>sp.2 q.symm,fun q=>sp.1 q.symm⟩,⟨fun _ _=>rfl,fun _ _ _ q=>nomatch q⟩,rfl,(fun _ _ _ q=>nomatch q),(fun _ _ _ q=>nomatch q),fun _ _ _ q=>nomatch q⟩⟩
theorem yX {x:Addr}(w:bj P g s.heap σ)(hσ:σ.self=none)(m:Heap.MadeObj s.heap h' x dx (P.cls c))(p2:aH {g with Z:=fun y=>g.Z y\/y=x\/y=dx,sa:=x} {s with heap:=h'} g2 s2)(w2:bj P g2 s2.heap σ₂)(hs:σ₂.self=some (c,ts)):
  ∃g',aH g s g' s2/\bj P g' s2.heap ⟨σ₂.spot,none⟩/\Rp P g' s2.heap (.obj c ts) (.ref x):=by
 have mb:=ch m.keeps
 have b:∀a,s2.heap.get? a=none->s.heap.get? a=none:=fun a e=>mb a (p2.back a e)
 have fn:∀a,g2.F a->g.F a\/s.heap.get? a=none:=fun a f=>(p2.Fn a f).imp_right (mb a)
 have zn:∀a,g2.Z a->a=g.sp\/s.heap.get? a=none:=fun a z=>(p2.Zn a z).elim (fun z=>z.elim (fun z=>.inl (w.spot.2.2 hσ a z)) fun z=>.inr (z.elim (fun e=>e▸m.newX) fun e=>e▸m.newD)) fun e=>.inr (mb a e)
 have hsp:g2.sp=g.sp:=p2.sp
 refine ⟨⟨fun y=>g2.F y\/(g2.Z y/\s.heap.get? y=none),g.Z,g.o,g.sp,g.sa⟩,⟨St.trans ⟨h',s.toks,rfl⟩ p2.st,fun a o e z=>p2.keep a o (m.keeps a o e) fun q=>q.elim z fun q=>q.elim (fun q=>au e (q▸m.newX)) fun q=>au e (q▸m.newD),b,fun a f=>.inl (p2.F a f),fun a f=>f.elim (fn a) fun q=>.inr q.2,fun a z=>.inl z,rfl,rfl,rfl⟩,
  ⟨fun a o e=>⟨.inl (w2.base a o e).1,(w2.base a o e).2⟩,fun a f=>f.elim (w2.F a) fun q=>(w2.Z a q.1).1,fun a z=>⟨fun e=>(w.Z a z).1 (b a e),fun f=>f.elim (fun f=>(fn a f).elim (w.Z a z).2 (w.Z a z).1) fun q=>(w.Z a z).1 q.2⟩,
   fun a q=>⟨fun e=>(w.O a q).1 (b a e),fun f=>f.elim (fun f=>(fn a f).elim (w.O a q).2.1 (w.O a q).1) fun z=>(w.O a q).1 z.2,(w.O a q).2.2⟩,w.oo,⟨let ⟨t,n,e⟩:=w2.spot.1;⟨t,n,hsp▸e⟩,w.spot.2.1,fun _=>w.spot.2.2 hσ⟩,fun _ _ q=>nomatch q⟩,?_⟩
 obtain ⟨dx',m',us,ih,z,z',ne,k,l,sh,ow,_⟩:=w2.self c ts hs
 have sa:g2.sa=x:=p2.sa
 have nw:∀a,g2.Z a->a≠g2.sp->s.heap.get? a=none:=fun a z q=>(zn a z).resolve_left (hsp▸q)
 refine ⟨x,rfl,.inr (sa▸⟨z,nw _ z ne.2⟩),dx',m',us,.inr ⟨z',nw _ z' ne.1⟩,sa▸ih,k,aO.of l fun i v t h1 h2=>?_⟩
 have kf:aR g2 s2.heap ⟨fun y=>g2.F y\/(g2.Z y/\s.heap.get? y=none),g.Z,g.o,g.sp,g.sa⟩ s2.heap:=⟨fun a f=>⟨.inl f,fun _ e=>e⟩,hsp.symm⟩
 cases ho:gD c i with
 |false=>exact (sh i v t h1 h2 ho).mono kf
 |true=>
  obtain ⟨a,rfl,za,na,ra⟩:=ow i v t h1 h2 ho
  exact (ra.mono kf fun _ e=>e).rp (.inr ⟨za,nw a za na.2.2⟩)
theorem yY {o:c7}{k:PK T}(hb:uF c o k≠.bad):∃σ ts,o=.ret .none σ/\σ.self=some (c,ts)/\uF c o k=k (.obj c ts) ⟨σ.spot,none⟩:=by
 cases o with
 |ret t σ=>
  unfold uF at hb ⊢
  have h1:=jG hb
  obtain rfl:t=.none:=by cases t<;>first |rfl |cases h1
  cases e:σ.self with
  |none=>simp only [e] at hb;exact absurd rfl hb
  |some p=>
   simp only [e,h1,cond_true] at hb ⊢
   have h2:=jG hb
   obtain rfl:=eq_of_beq_eq_true h2
   exact ⟨σ,p.2,rfl,e,by rw [h2];rfl⟩
 |_=>exact absurd (by with_unfolding_all rfl) hb
theorem aq.new {y:Str}{e:Expr}{es:List Expr}{ps:PL}{p pos:Pos}(O:bo P c ms)(hi:(ofString "__init__",f)∈ms)(hf:(rA f&&!j4 f)=true)(hg:P.mg y=some (.ref (P.cls c)))(hx:B.sc.names.lookup y=some .globalImplicit)(hd:(y==("__debug__":Str))=false)
  (hs:∀env,starEach (e::es) env=(false,eval e env)::starEach es env)(h:gp P B C (e::es) ps):aq P B C (.Call (.Name y p) (e::es) [] pos) (oq c f ps) (RV P):=fun n A env g ρ σ s k Q E X hb hq=>by
 obtain ⟨N,mN,K,_,_,_,_,g5⟩:=O
 obtain ⟨i1,_,oI,i2,i3⟩:=g5 _ hi
 refine Call_Name rfl (X.glob hx hd hg (callWith_cls (e:=e) (rest:=es) K (h.sim pos n A env g ρ σ s _ _ E X hb fun xs s₁ g1 ts σ₁ ea p1 w1 r1=>⟨w1.bs,?_⟩) (hs env) ?_))
 .have hb1:=fun q=>hb (ea.trans q)
  cases hσ:σ₁.self with
  |some q=>simp only [hσ] at hb1;exact (hb1 trivial).elim
  |none=>
   simp only [hσ] at hb1 ea
   obtain ⟨σ₂,ts',ec,h2,h3⟩:=yY hb1
   obtain ⟨nm,q,bs,sn,sub,col,dd,k0,k1,k2,k3,k5,hC⟩:=(K.keeps w1.bs).obj
   refine wpAny_call_obj_init (h:=s₁.heap) PySem.F.objNew hC (K.keeps w1.bs).ns i1 (w1.bs _ _ i2) i3 fun h' x dx m=>?_
   obtain ⟨f1,f2⟩:=af hf
   have f2:=(not_eq_true' _).mp f2
   refine wpAny_call (codeAny_mono (X.call n (le_refl n) f (A.under (.builtin "type.__call__" ⟨.ref (P.cls c)::xs,[]⟩)) (.self::ts) (.ref x::xs) _ _ {s₁ with heap:=h'} .none σ₂ (fun r s'=>r=.none/\Q (.ref x) s') E ?_ (w1.make m) ?_ ec fun u s' g' p' w' r'=>?_) fun r s' q=>?_)
   .exact ⟨by have:=X.room.1;show A.depth+1+2 * n+9 < _;lia -abstractProof,by have:=X.room.2.1;show A.units+1+20 * n+190 < _;lia -abstractProof,X.room.2.2⟩
   .rw [f1];exact ⟨_,_,_,_,rfl,rfl,.inr ⟨rfl,rfl⟩,aO.mono (g:=g1) (g':={g1 with Z:=fun y=>g1.Z y\/y=x\/y=dx,sa:=x}) (h:=s₁.heap) (h':=h') ⟨fun a f=>⟨f,m.keeps a⟩,rfl⟩ r1⟩
   .rw [f2] at r'
    obtain ⟨g2,p2,w2,r2⟩:=yX w1 hσ m p' w' h2
    exact ⟨r',hq _ _ g2 _ _ (ea.trans h3) (p1.trans p2) w2 r2⟩
   .match r,q with
    |.ok (.ret u),q=>exact q
    |.ok .next,q=>exact q.elim
    |.ok .brk,q=>exact q.elim
    |.ok .cont,q=>exact q.elim
    |.error u,q=>exact q
 .refine List.any_eq_false.mpr fun q hq'=>?_
  rw [bA (fun q hq=>h.pl env q (by rw [hs];exact mem_cons_of_mem _ hq)) q hq'];decide
inductive dZ (P:Pg) (g:Gh) (h:Heap) (c:Nat) (name:Str) (t:T) (a:Addr):Prop
 |mk (dx:Addr) (m:Str->Option Value) (ih:d9 P h c m dx g.sa) (e:m name=some (.ref a)) (z:g.Z a) (ne:a≠g.sp) (z1:g.Z g.sa/\g.sa≠g.sp) (z2:g.Z dx/\dx≠g.sp) (r:gP P g h a t)
theorem dZ.keep (o:dZ P g h c name t a)(kf:aR g h g' h')(hs:g'.sa=g.sa)(z:∀a,a≠g.sp->g.Z a->g'.Z a/\∀o,h.get? a=some o->h'.get? a=some o):dZ P g' h' c name t a:=by
 obtain ⟨dx,m,ih,e,za,ne,⟨z1,n1⟩,⟨z2,n2⟩,r⟩:=o
 have a1:=z _ n1 z1
 have a2:=z _ n2 z2
 have a3:=z _ ne za
 have sp:=kf.sp
 exact ⟨dx,m,hs▸ih.mono a1.2 a2.2,e,a3.1,sp▸ne,hs▸sp▸⟨a1.1,n1⟩,sp▸⟨a2.1,n2⟩,r.mono kf a3.2⟩
theorem dZ.o (o:dZ P g h c name t a):gP P g h a t:=let ⟨_,_,_,_,_,_,_,_,r⟩:=o;r
theorem dZ.y (o:dZ P g h c name t a):dY P g h t (.ref a):=.inr ⟨a,rfl,o.o⟩
theorem kZ (hs:d7 c i ρ σ=some t):cI ρ 0=some .self/\gD c i=true/\∃ts,σ.self=some (c,ts)/\ts[i]?=some t:=by
 obtain ⟨b,e⟩:=pI hs
 obtain ⟨b1,b2⟩:=af b
 obtain ⟨e0,ts,e1⟩:=oW b1
 rw [e1] at e
 exact ⟨e0,b2,ts,e1,e⟩
theorem kY (e:σ'.self=σ.self)(hs:d7 c i ρ σ=some t):d7 c i ρ σ'=some t:=by
 unfold d7 uT at *
 rw [e];exact hs
theorem vZ (w:bj P g h σ)(hn:(bU c)[i]?=some name)(hs:d7 c i ρ σ=some t):∃a,dZ P g h c name t a:=by
 obtain ⟨e0,ho,ts,e1,e2⟩:=kZ hs
 obtain ⟨dx,m,us,ih,z,z',ne,k,l,_,ow,_⟩:=w.self c ts e1
 have hi:i < us.length:=by rw [l];exact (aj e2).1
 obtain ⟨a,e,za,na,r⟩:=ow i _ t (getElem?_eq_getElem hi) e2 ho
 exact ⟨a,dx,m,ih,(k.at_ i name _ (getElem?_eq_getElem hi) hn).trans (by rw [e]),za,na.2.2,⟨z,ne.2⟩,⟨z',ne.1⟩,r⟩
theorem d9.uniq {m':Str->Option Value}{dx':Addr}(i:d9 P h c m dx a)(i':d9 P h c m' dx' a)(y:Str):m y=m' y:=by
 obtain ⟨o,e,k,n,_⟩:=i
 obtain ⟨o',e',k',n',_⟩:=i'
 rw [e] at e';cases e'
 obtain rfl:dx=dx':=Option.some.inj (k.dict.symm.trans k'.dict)
 exact tj n.ns n'.ns
theorem tQ {y:T}(w:bj P g s.heap σ)(hs:d7 c i ρ σ=some t)(hn:(bU c)[i]?=some name)(o:dZ P g s.heap c name t a)(hh:∀b,b≠a->h'.get? b=s.heap.get? b)(hy:aR g s.heap g h'->gP P g h' a y)(tk:Nat):aH g s g {s with heap:=h',toks:=tk}/\bj P g h' (σ.fld i y):=by
 obtain ⟨e0,ho,ts,e1,e2⟩:=kZ hs
 obtain ⟨dx,m,us,ih,z,z',ne,k,l,sh,ow,nn⟩:=w.self c ts e1
 obtain ⟨dx1,m1,ih1,e,za,na,_,_,_⟩:=o
 have hi:i < us.length:=by rw [l];exact (aj e2).1
 have hu:us[i]?=some (.ref a):=by
  have:=k.at_ i name _ (getElem?_eq_getElem hi) hn
  rw [ih.uniq ih1,e] at this
  rw [getElem?_eq_getElem hi];exact this.symm
 obtain ⟨a',q,_,nb,_⟩:=ow i _ t hu e2 ho
 cases q
 have kf:aR g s.heap g h':=⟨fun b f=>⟨f,fun o e=>(hh b fun q=>(w.Z a za).2 (q▸f)).trans e⟩,rfl⟩
 have r:=hy kf
 have lv:∀b,s.heap.get? b≠none->h'.get? b≠none:=fun b l=>by
  by_cases q:b=a
  .exact q▸r.live
  .rw [hh b q];exact l
 have kp:∀b,b≠a->∀o,s.heap.get? b=some o->h'.get? b=some o:=fun b q o e=>(hh b q).trans e
 refine ⟨⟨⟨h',tk,rfl⟩,fun b o e z=>kp b (fun q=>z (q▸za)) o e,fun b e=>?_,fun _ f=>f,fun _ f=>.inl f,fun _ f=>.inl f,rfl,rfl,rfl⟩,fun b o e=>⟨(w.base b o e).1,(kf.F b (w.base b o e).1).2 o (w.base b o e).2⟩,fun b f=>lv b (w.F b f),fun b z=>⟨lv b (w.Z b z).1,(w.Z b z).2⟩,fun b z=>⟨lv b (w.O b z).1,(w.O b z).2⟩,w.oo,
  ⟨let ⟨t,m,e⟩:=w.spot.1;⟨t,m,kp _ (Ne.symm na) _ e⟩,w.spot.2.1,fun q=>?_⟩,fun c' ts' e'=>?_⟩
 .by_cases q:s.heap.get? b=none
  .exact q
  .exact (lv b q e).elim
 .rw [Sg.fld,e1] at q;cases q
 .rw [Sg.fld,e1] at e'
  cases e'
  have set_:∀{j:Nat} {u:T},(ts.set i y)[j]?=some u->(j=i/\u=y)\/(j≠i/\ts[j]?=some u):=fun {j u} q=>by
   by_cases ji:j=i
   .subst ji
    rw [List.getElem?_set_self (aj e2).1] at q
    exact .inl ⟨rfl,(Option.some.inj q).symm⟩
   .rw [List.getElem?_set_ne (Ne.symm ji)] at q;exact .inr ⟨ji,q⟩
  refine ⟨dx,m,us,ih.mono (kp _ (Ne.symm nb.2.1)) (kp _ (Ne.symm nb.1)),z,z',ne,k,by rw [length_set];exact l,fun j u t' h1 h2 h3=>?_,fun j u t' h1 h2 h3=>?_,nn⟩
  .rcases set_ h2 with ⟨rfl,_⟩ | ⟨_,h2⟩
   .rw [ho] at h3;cases h3
   .exact (sh j u t' h1 h2 h3).mono kf
  .rcases set_ h2 with ⟨rfl,rfl⟩ | ⟨ji,h2⟩
   .rw [hu] at h1;cases h1
    exact ⟨a,rfl,za,nb,r⟩
   .obtain ⟨b,rfl,zb,nb',rb⟩:=ow j u t' h1 h2 h3
    exact ⟨b,rfl,zb,nb',rb.mono kf (kp b fun q=>ji (nn j i a (q▸h1) hu h3 ho))⟩
end
section
variable {P:Pg} {B Bc:br} {C C' Ci:Ct} {fr:Bool} {n c i j:Nat} {A:Around} {env:Env} {g g' g2:Gh} {ρ:aZ} {σ σ' σ₂:Sg} {s s' s2:Shared} {h h':Heap} {t:T} {x:Value} {ms:List (Str×Nat)} {name y:Str} {kd:NameKind} {m:Str->Option Value} {dx a:Addr} {us:List Value} {E:Value->Shared->Prop} {ts:List T} {np apos pos:Pos}
noncomputable def Gh.bor (g:Gh):Gh:={g with Z:=fun a=>a=g.sp}
theorem AY (g:Gh)(h:Heap):aR g h g.bor h:=⟨fun _ f=>⟨f,fun _ e=>e⟩,rfl⟩
theorem At.bor (X:At P B C n A env g ρ σ s):At P B C n A env g.bor ρ ⟨σ.spot,none⟩ s:=
 have hz:∀a,g.bor.Z a->g.Z a:=fun a q=>by rw [show a=g.sp from q];exact X.g.spot.2.1
 ⟨X.good,X.call,X.room,X.env.move (AY g _) rfl rfl (fun _ _ _ e=>e) fun a ha=>⟨(X.env.own a ha).1,(X.env.own a ha).2.1,fun q=>(X.env.own a ha).2.2.1 (hz a q)⟩,
  X.g.base,X.g.F,fun a z=>X.g.Z a (hz a z),fun a q=>⟨(X.g.O a q).1,(X.g.O a q).2.1,fun z=>(X.g.O a q).2.2 (hz a z)⟩,X.g.oo,⟨X.g.spot.1,rfl,fun _ _ q=>q⟩,fun _ _ q=>nomatch q⟩
theorem qV (w:bj P g s.heap σ)(p:aH g.bor s g' s')(w':bj P g' s'.heap σ'):aH g s {g' with Z:=g.Z} s'/\bj P {g' with Z:=g.Z} s'.heap ⟨σ'.spot,σ.self⟩:=by
 have sp:g'.sp=g.sp:=p.sp
 have so:g'.o=g.o:=p.o
 have q:aH g s {g' with Z:=g.Z} s':=⟨p.st,fun a o e z=>p.keep a o e fun q=>z (by rw [show a=g.sp from q];exact w.spot.2.1),p.back,p.F,p.Fn,fun _ z=>.inl z,p.o,p.sp,p.sa⟩
 have lv:∀a,s.heap.get? a≠none->s'.heap.get? a≠none:=fun a l e=>l (p.back a e)
 have nf:∀a,s.heap.get? a≠none->¬g.F a->¬g'.F a:=fun a l f q=>(p.Fn a q).elim f l
 have oo:∀a,({g' with Z:=g.Z}:Gh).O a->g.O a:=fun a ⟨i,q⟩=>⟨i,so▸q⟩
 exact ⟨q,w'.base,w'.F,fun a z=>⟨lv a (w.Z a z).1,nf a (w.Z a z).1 (w.Z a z).2⟩,fun a o=>have o:=w.O a (oo a o);⟨lv a o.1,nf a o.1 o.2.1,o.2.2⟩,fun i j a h1 h2=>w.oo i j a (so▸h1) (so▸h2),⟨w'.spot.1,by rw [show ({g' with Z:=g.Z}:Gh).sp=g.sp from sp];exact w.spot.2.1,fun e a z=>(w.spot.2.2 e a z).trans sp.symm⟩,
  fun c ts e=>(w.self c ts e).mono' (q.k w) (fun a n z=>⟨z,fun o e=>p.keep a o e n⟩) p.sa⟩
theorem Cb {e:Expr}{pq:PE}{K:PK T}{Q:Value->Shared->Prop}(h:aq P B C e pq (RV P))(X:At P B C n A env g ρ σ s)(of:dZ P g s.heap c name t a)(hb:pq (P.cx n) ρ ⟨σ.spot,none⟩ (fun v σ'=>K v ⟨σ'.spot,σ.self⟩)≠.bad)
  (hq:∀x s' g' v σ',pq (P.cx n) ρ ⟨σ.spot,none⟩ (fun v σ'=>K v ⟨σ'.spot,σ.self⟩)=K v σ'->aH g s g' s'->bj P g' s'.heap σ'->σ'.self=σ.self->dZ P g' s'.heap c name t a->Rp P g' s'.heap v x->Q x s'):wpAny P.M A (eval e env) Q E s:=
 h n A env g.bor ρ ⟨σ.spot,none⟩ s _ Q E X.bor hb fun x s' g' v σ' e p w r=>
  have ⟨p',w'⟩:=qV X.g p w
  hq x s' {g' with Z:=g.Z} v ⟨σ'.spot,σ.self⟩ e p' w' rfl (of.keep (p'.k X.g) p'.sa fun a n z=>⟨z,fun o e=>p.keep a o e n⟩) (Rp.mono (g:=g') (h:=s'.heap) (g':={g' with Z:=g.Z}) ⟨fun _ f=>⟨f,fun _ e=>e⟩,rfl⟩ r)
theorem lP {Q:Value->Shared->Prop}(O:bo P c ms)(hn:(bU c)[i]?=some name)(ht:B.tab[0]?=some (some (y,kd)))(X:At P B C n A env g ρ σ s)(hs:d7 c i ρ σ=some t)(hq:∀a,dZ P g s.heap c name t a->Q (.ref a) {s with toks:=s.toks+1}):wpAny P.M A (eval (.Attribute (.Name y np) name pos) env) Q E s:=by
 obtain ⟨v,va,q⟩:=X.env.var 0 _ _ ht (kZ hs).1
 cases q.self
 obtain ⟨a,o⟩:=vZ X.g hn hs
 obtain ⟨dx,m,ih,e,_⟩:=id o
 exact sP rfl (fun _ _=>rfl) (bh X ht va (jH O (mem_of_getElem? hn) X.g.bs ih e rfl (hq a o)))
theorem aq.fld (O:bo P c ms)(hn:(bU c)[i]?=some name)(ht:B.tab[0]?=some (some (y,kd))):aq P B C (.Attribute (.Name y np) name pos) (ou c i) (RY P):=fun n A env g ρ σ s k Q E X hb hq=>by
 obtain ⟨t,e⟩:=bV hb
 exact lP O hn ht X e fun a o=>hq _ _ g t σ (by rw [ou,e];rfl) (.toks g s _) X.g o.y
theorem aq.f2 {ie:Expr}{pq:PE}{F:T->T->Option T}(O:bo P c ms)(hn:(bU c)[i]?=some name)(ht:B.tab[0]?=some (some (y,kd)))(o:pK P (yc P (.Attribute (.Name y np) name apos) ie) F (RV P))(h:aq P B C ie pq (RV P)):aq P B C (.Subscript (.Attribute (.Name y np) name apos) ie pos) (By c i F pq) (RV P):=fun n A env g ρ σ s k Q E X hb hq=>by
 unfold By at hb hq
 cases e0:d7 c i ρ σ with
 |none=>rw [e0] at hb;exact absurd rfl hb
 |some t=>
  rw [e0] at hb hq
  refine Subscript_ (lP O hn ht X e0 fun a of=>Cb (K:=fun v σ=>up (F t v) σ k) h (X.post (.toks g s _) X.g) of hb fun x s' g' v σ' e p w hσ of' r=>?_)
  obtain ⟨u,e'⟩:=bV fun q=>hb (e.trans q)
  exact o A env g' σ' s' _ x t v u Q E X.rm w of'.y (.inl r) e' fun z s'' g'' p' w' r'=>hq z s'' g'' u σ' (e.trans (by rw [e'];rfl)) ((aH.toks g s _).trans (p.trans p')) w' r'
theorem aM.fap {e:Expr}{ap' cpos:Pos}{pe:PE}(O:bo P c ms)(hn:(bU c)[i]?=some name)(ht:B.tab[0]?=some (some (y,kd)))(hbase:∀env,attributeBase (.Attribute (.Name y np) name ap') (ofString "append") env (eval (.Attribute (.Name y np) name ap') env)=eval (.Attribute (.Name y np) name ap') env)(hline:(apos.endLine==cpos.line)=true)
  (htrees:∀env,backTo cpos (starEach [e] env)=[(false,eval e env)])(hw:∀env,swapsWith (.Call (.Attribute (.Attribute (.Name y np) name ap') (ofString "append") apos) [e] [] cpos) none pos.line env=pure false)(h:aq P B C e pe (RV P)):
  aM P B C fr C (.Expr (.Call (.Attribute (.Attribute (.Name y np) name ap') (ofString "append") apos) [e] [] cpos) pos) (ql c i pe):=fun n A env g ρ σ s k Q E X hb hq hr=>by
 show wpAny P.M A (exec _ env) Q E s
 rw [exec_Expr env _ pos (by simp [interactive,X.fn]) (hw env)]
 unfold ql at hb hq
 cases e0:d7 c i ρ σ with
 |none=>rw [e0] at hb;exact absurd rfl hb
 |some t=>
  rw [e0] at hb hq
  have hk:=jd hb
  simp only [hk,cond_true] at hb hq
  refine wpAny_bind (wpAny_standAt (wpAny_bind (lu lM hbase hline htrees (lP O hn ht X e0 fun a of=>⟨qA of.y hk,Cb (K:=fun v σ=>up (eV t v) σ fun y σ=>k ρ (σ.fld i y)) h (X.post (.toks g s _) X.g) of hb fun x s' g' v σ' e p w hσ of' r=>?_⟩))))
  obtain ⟨u,e'⟩:=bV fun q=>hb (e.trans q)
  refine jJ A g' σ' s' a x t v u _ _ X.rm w of'.o r e' fun h' tk hs hy=>wpAny_dropValue ?_
  obtain ⟨pS,wS⟩:=tQ w (kY hσ e0) hn of' hs hy tk
  have pA:=(aH.toks g s _).trans (p.trans pS)
  exact hq _ _ ρ _ (e.trans (by rw [e'];rfl)) pA.toS (X.post pA wS)
theorem aM.fput {ie e:Expr}{ps:Pos}{pq pe:PE}(O:bo P c ms)(hn:(bU c)[i]?=some name)(ht:B.tab[0]?=some (some (y,kd)))(hw:∀env,swapsWith e (some (.Subscript (.Attribute (.Name y np) name apos) ie ps)) pos.line env=pure false)(h2:aq P B C ie pq (RV P))(h3:aq P B C e pe (RV P)):
  aM P B C fr C (.Assign [.Subscript (.Attribute (.Name y np) name apos) ie ps] e pos) (qk c i pq pe):=fun n A env g ρ σ s k Q E X hb hq hr=>by
 refine wpAny_Assign_Subscript (h3 n A env g ρ σ s _ _ E X hb fun z s₁ g1 v σ₁ e1 p1 w1 r1=>?_) (hw env)
 have X1:=X.post p1 w1
 have hb1:=fun q=>hb (e1.trans q)
 have e1:qk c i pq pe (P.cx n) ρ σ k=_:=e1
 cases e0:d7 c i ρ σ₁ with
 |none=>simp only [e0] at hb1;exact (hb1 trivial).elim
 |some t=>
  simp only [e0] at hb1 e1
  refine lP O hn ht X1 e0 fun a of=>Cb (K:=fun κ σ=>up (i0 t κ v) σ fun y σ=>k ρ (σ.fld i y)) h2 (X1.post (.toks g1 s₁ _) w1) of hb1 fun x s' g' κ σ' e p w hσ of' r=>?_
  obtain ⟨u,e'⟩:=bV fun q=>hb1 (e.trans q)
  have p2:=(aH.toks g1 s₁ _).trans p
  refine te A g' σ' s' a x z t κ v u _ _ X.rm w of'.o (.inl r) (Rp.mono (p2.k w1) r1) e' fun h' tk hs hy=>?_
  obtain ⟨pS,wS⟩:=tQ w (kY hσ e0) hn of' hs hy tk
  have pA:=p1.trans (p2.trans pS)
  exact hq _ _ ρ _ (e1.trans (e.trans (by rw [e'];rfl))) pA.toS (X.post pA wS)
end
section
variable {P:Pg} {B Bc:br} {C C' Ci:Ct} {fr:Bool} {n c i j:Nat} {A:Around} {env:Env} {g g' gb:Gh} {ρ:aZ} {σ σ' σ₂:Sg} {s s' s2:Shared} {h h':Heap} {t:T} {x:Value} {ms:List (Str×Nat)} {name y:Str} {kd:NameKind} {m:Str->Option Value} {dx a:Addr} {us:List Value} {E:Value->Shared->Prop} {ts:List T} {np apos pos:Pos}
theorem sO {Q:Unit->Shared->Prop}(O:bo P c ms)(hn:name∈bU c)(w:bj P g s.heap σ)(z:g.Z a)(ih:d9 P s.heap c m dx a)(k:rj c m us)(hq:∀h' tk,d9 P h' c (fun y=>if y=name then some x else m y) dx a->(∀b o,b≠dx->s.heap.get? b=some o->h'.get? b=some o)->Q () {s with heap:=h',toks:=tk}):wpAny P.M A (setAttr (.ref a) name x) Q E s:=by
 obtain ⟨N,mN,K,g1,g2,g3,g4,g5⟩:=O
 obtain ⟨nm,q,bs',sn,sub,col,dd,k0,k1,k2,k3,k5,hC⟩:=K.obj
 have hxC:a≠P.cls c:=fun q=>(w.Z a z).2 (q▸(w.base _ _ hC).1)
 obtain ⟨o,e,ko,nn,ne⟩:=id ih
 refine store_attr (h:=s.heap) (ns:=bU c) PySem.F.store_object (w.bs _ _ hC) (K.keeps w.bs).ns g3 (g4 name hn).1 (g4 name hn).2 hxC ih.inst (fun h3 tk' I' hk hsame=>?_) (fun y hy=>?_) ?_
 .obtain ⟨oa,z1,z2,z3,z4,z5⟩:=hsame o e
  have hd:=z5 dx ko.dict
  have:oa=o:=by
   have kd:=ko.dict
   obtain ⟨c1,c2,c3,c4⟩:=oa
   obtain ⟨d1,d2,d3,d4⟩:=o
   simp only at z2 z3 z4 hd kd
   rw [z2,z3,z4,hd,kd]
  subst this
  obtain ⟨o',y1,_,_,y4⟩:=I'
  rw [z1] at y1;cases y1
  rcases y4 with ⟨q,_⟩ | ⟨dz,q,_,n'⟩
  .rw [hd] at q;cases q
  .rw [hd] at q;cases q
   refine hq h3 tk' ⟨oa,z1,ko,n',ne⟩ fun b o' nb e'=>?_
   by_cases hba:b=a
   .subst hba;rw [e] at e';cases e';exact z1
   .exact hk b o' hba (fun o0 d0 eb ed=>by rw [e] at eb;cases eb;rw [hd] at ed;cases ed;exact nb) e'
 .by_cases q:y∈bU c
  .exact q
  .exact (hy (k.no y q)).elim
 .unfold bU;split<;>decide
theorem Ae (c:Nat):(bU c).Nodup:=by unfold bU;split<;>decide
theorem pX {α Y:Type}{us:List α}{ts:List Y}{x u:α}{t v:Y}{j:Nat}(l:us.length=ts.length)(h1:(us++[x])[j]?=some u)(h2:(ts++[t])[j]?=some v):(us[j]?=some u/\ts[j]?=some v)\/(j=ts.length/\u=x/\v=t):=by
 by_cases q:j < us.length
 .rw [getElem?_append_left q] at h1
  rw [getElem?_append_left (l▸q)] at h2
  exact .inl ⟨h1,h2⟩
 .have q:=cH q
  rw [getElem?_append_right q] at h1
  rw [getElem?_append_right (l▸q)] at h2
  have e:j - us.length=0:=by
   have:=(aj h1).1
   rw [length_singleton] at this;lia -abstractProof
  rw [e] at h1;rw [<-l,e] at h2
  cases h1;cases h2
  exact .inr ⟨by lia -abstractProof,rfl,rfl⟩
theorem rM {Z':Addr->Prop}{Q:Unit->Shared->Prop}(O:bo P c ms)(hn:(bU c)[i]?=some name)(w:bj P g s.heap σ)(es:σ.self=some (c,ts))(hl:ts.length=i)(hZ:∀a,g.Z a->Z' a)(hZ':∀a,Z' a->g.Z a\/(s.heap.get? a≠none/\¬g.F a/\¬g.Z a/\¬g.O a))
  (h0:gD c i=false->Rp P g s.heap t x)(h1:gD c i=true->∃a,x=.ref a/\Z' a/\¬g.Z a/\gP P g s.heap a t)
  (hq:∀h' tk,(∀b o,¬g.Z b->s.heap.get? b=some o->h'.get? b=some o)->(∀b,h'.get? b=none->s.heap.get? b=none)->bj P {g with Z:=Z'} h' (σ.push t)->Q () {s with heap:=h',toks:=tk}):wpAny P.M A (setAttr (.ref g.sa) name x) Q E s:=by
 obtain ⟨dx,m,us,ih,z,z',ne,k,l,sh,ow,nn⟩:=w.self c ts es
 refine sO O (mem_of_getElem? hn) w z ih k fun h' tk ih' kp=>?_
 have ld:h'.get? dx≠none:=let ⟨_,_,_,n,_⟩:=ih';let ⟨_,_,_,e,_⟩:=n;au e
 have bk:∀b,h'.get? b=none->s.heap.get? b=none:=fun b e=>by
  cases q:s.heap.get? b with
  |none=>rfl
  |some o=>
   by_cases hb:b=dx
   .exact (ld (hb▸e)).elim
   .exact (au (kp b o hb q) e).elim
 have lv:∀b,s.heap.get? b≠none->h'.get? b≠none:=fun b l e=>l (bk b e)
 have kz:∀b,¬g.Z b->∀o,s.heap.get? b=some o->h'.get? b=some o:=fun b q o e=>kp b o (fun e=>q (e▸z')) e
 have kf:aR g s.heap {g with Z:=Z'} h':=⟨fun b f=>⟨f,kz b fun q=>(w.Z b q).2 f⟩,rfl⟩
 refine hq h' tk (fun b o q e=>kz b q o e) bk ⟨fun b o e=>⟨(w.base b o e).1,(kf.F b (w.base b o e).1).2 o (w.base b o e).2⟩,fun b f=>lv b (w.F b f),fun b q=>(hZ' b q).elim (fun q=>⟨lv b (w.Z b q).1,(w.Z b q).2⟩) fun q=>⟨lv b q.1,q.2.1⟩,fun b q=>⟨lv b (w.O b q).1,(w.O b q).2.1,fun q'=>(hZ' b q').elim (w.O b q).2.2 fun e=>e.2.2.2 q⟩,w.oo,
  ⟨let ⟨t,n,e⟩:=w.spot.1;⟨t,n,kp _ _ (Ne.symm ne.1) e⟩,hZ _ w.spot.2.1,fun q=>?_⟩,fun c' ts' e'=>?_⟩
 .rw [Sg.push,es] at q;cases q
 .rw [Sg.push,es] at e'
  cases e'
  have new:∀a,x=.ref a->gP P g s.heap a t->¬g.Z a->a≠dx/\a≠g.sa/\a≠g.sp:=fun a _ _ q=>⟨fun e=>q (e▸z'),fun e=>q (e▸z),fun e=>q (e▸w.spot.2.1)⟩
  refine ⟨dx,_,us++[x],ih',hZ _ z,hZ _ z',ne,⟨fun y hy=>?_,fun j y u q1 q2=>?_⟩,by rw [List.length_append,List.length_append,l];rfl,fun j u v q1 q2 q3=>?_,fun j u v q1 q2 q3=>?_,fun i' j a q1 q2 q3 q4=>?_⟩
  .rw [if_neg fun e:y=name=>hy (e▸mem_of_getElem? hn)];exact k.no y hy
  .have q:j < us.length\/(j=us.length/\u=x):=by
    by_cases q:j < us.length
    .exact .inl q
    .rw [getElem?_append_right (cH q)] at q1
     have:=(aj q1).1
     rw [length_singleton] at this
     rw [show j - us.length=0 by lia -abstractProof] at q1
     exact .inr ⟨by lia -abstractProof,(Option.some.inj q1).symm⟩
   rcases q with q | ⟨q,rfl⟩
   .rewrite [if_neg fun e:y=name=>?_]
    .rw [getElem?_append_left q] at q1;exact k.at_ j y u q1 q2
    .subst e
     have:=(List.getElem?_inj (aj q2).1 (Ae c)).mp (q2.trans hn.symm)
     lia -abstractProof
   .rw [show j=i by lia,hn] at q2
    cases q2;exact if_pos rfl
  .rcases pX l q1 q2 with ⟨q1,q2⟩ | ⟨q,rfl,rfl⟩
   .exact (sh j u v q1 q2 q3).mono kf
   .rw [q,hl] at q3;exact (h0 q3).mono kf
  .rcases pX l q1 q2 with ⟨q1,q2⟩ | ⟨q,rfl,rfl⟩
   .obtain ⟨a,e,za,na,r⟩:=ow j u v q1 q2 q3
    exact ⟨a,e,hZ a za,na,r.mono kf fun o e=>kp a o na.1 e⟩
   .rw [q,hl] at q3
    obtain ⟨a,e,za,na,r⟩:=h1 q3
    have nb:=new a e r na
    exact ⟨a,e,za,nb,r.mono kf fun o e=>kp a o nb.1 e⟩
  .have get:∀{j:Nat} {u:Value},(us++[x])[j]?=some u->∃v,(ts++[t])[j]?=some v:=fun {j u} q=>by
    have:=(aj q).1
    rw [List.length_append,l] at this
    exact ⟨_,getElem?_eq_getElem (l:=ts++[t]) (by rw [List.length_append];exact this)⟩
   obtain ⟨v1,r1⟩:=get q1
   obtain ⟨v2,r2⟩:=get q2
   rcases pX l q1 r1 with ⟨p1,p2⟩ | ⟨p1,p2,p3⟩
   .rcases pX l q2 r2 with ⟨p3,p4⟩ | ⟨p3,p4,p5⟩
    .exact nn i' j a p1 p3 q3 q4
    .rw [p3,hl] at q4
     obtain ⟨b,e,_,nb,_⟩:=h1 q4
     rw [e] at p4;cases p4
     obtain ⟨b',e',zb,_,_⟩:=ow i' _ v1 p1 p2 q3
     cases e';exact (nb zb).elim
   .rcases pX l q2 r2 with ⟨p4,p5⟩ | ⟨p4,p5,p6⟩
    .rw [p1,hl] at q3
     obtain ⟨b,e,_,nb,_⟩:=h1 q3
     rw [e] at p2;cases p2
     obtain ⟨b',e',zb,_,_⟩:=ow j _ v2 p4 p5 q4
     cases e';exact (nb zb).elim
    .rw [p1,p4]
theorem xT (h:A1 c i ρ σ=true):cI ρ 0=some .self/\∃ts,σ.self=some (c,ts)/\ts.length=i:=by
 obtain ⟨h1,h2⟩:=af h
 obtain ⟨e0,ts,e1⟩:=oW h1
 rw [e1] at h2
 exact ⟨e0,ts,e1,eq_of_beq_eq_true h2⟩
theorem aM.saG {e:Expr}{pe:PE}{R:RR Value T}(O:bo P c ms)(hn:(bU c)[i]?=some name)(ht:B.tab[0]?=some (some (y,kd)))(hw:∀env,swapsWith e (some (.Attribute (.Name y np) name apos)) pos.line env=pure false)(h:aq P B C e pe R)
  (hR:∀h g h' t x,R h g h' t x->(∀b,g.Z b->True)->∃N:Addr->Prop,(∀a,N a->h.get? a=none/\h'.get? a≠none/\¬g.F a/\¬g.Z a/\¬g.O a)/\(gD c i=false->Rp P g h' t x)/\(gD c i=true->∃a,x=.ref a/\N a/\gP P g h' a t)):
  aM P B C fr C (.Assign [.Attribute (.Name y np) name apos] e pos) (rT c i pe):=fun n A env g ρ σ s k Q E X hb hq hr=>by
 refine plainObj_wpAny_Assign_Attribute (h n A env g ρ σ s _ _ E X hb fun x s₁ ga t σ₁ ec pa w1 rb=>?_) (hw env)
 have X1:=X.post pa w1
 have ha:=jd fun q=>hb (ec.trans q)
 obtain ⟨e0,ts,e2,e3⟩:=xT ha
 obtain ⟨v,va,q⟩:=X1.env.var 0 _ _ ht e0
 cases q.self
 obtain ⟨N,n1,n2,n3⟩:=hR _ _ _ _ _ rb fun _ _=>trivial
 refine bh X1 ht va (rM (Z':=fun b=>ga.Z b\/N b) O hn w1 e2 e3 (fun _=>.inl) (fun b z=>z.imp_right fun q=>(n1 b q).2) n2 (fun q=>let ⟨a,e,na,r⟩:=n3 q;⟨a,e,.inr na,(n1 a na).2.2.2.1,r⟩) fun h' tk kp bk w'=>?_)
 have pb:aH g s {ga with Z:=fun b=>ga.Z b\/N b} {s₁ with heap:=h',toks:=tk}:=⟨St.trans pa.st ⟨h',tk,rfl⟩,fun b o e z=>kp b o (fun q=>(pa.Zn b q).elim z (au e)) (pa.keep b o e z),fun b e=>pa.back b (bk b e),pa.F,pa.Fn,fun b z=>z.elim (pa.Zn b) fun q=>.inr (n1 b q).1,pa.o,pa.sp,pa.sa⟩
 exact hq _ _ ρ _ (ec.trans (by rw [ha])) pb.toS (X.post pb w')
theorem aM.sa {e:Expr}{pe:PE}(O:bo P c ms)(hn:(bU c)[i]?=some name)(ho:gD c i=false)(ht:B.tab[0]?=some (some (y,kd)))(hw:∀env,swapsWith e (some (.Attribute (.Name y np) name apos)) pos.line env=pure false)(h:aq P B C e pe (RV P)):
  aM P B C fr C (.Assign [.Attribute (.Name y np) name apos] e pos) (rT c i pe):=
 .saG O hn ht hw h fun _ _ _ _ _ r _=>⟨fun _=>False,fun _ q=>q.elim,fun _=>r,fun q=>by rw [ho] at q;cases q⟩
theorem aM.saN {e:Expr}{pe:PE}(O:bo P c ms)(hn:(bU c)[i]?=some name)(ho:gD c i=true)(ht:B.tab[0]?=some (some (y,kd)))(hw:∀env,swapsWith e (some (.Attribute (.Name y np) name apos)) pos.line env=pure false)(h:aq P B C e pe (RN P)):
  aM P B C fr C (.Assign [.Attribute (.Name y np) name apos] e pos) (rT c i pe):=
 .saG O hn ht hw h fun _ _ _ _ _ r _=>let ⟨a,e,n,f,z,o,r⟩:=r;⟨fun b=>b=a,fun b q=>by rw [q];exact ⟨n,r.live,f,z,o⟩,(fun q=>by rw [ho] at q;cases q),fun _=>⟨a,e,rfl,r⟩⟩
theorem my.own (hh:A.handled=none){I l:Addr}{vs:Array Value}{m:Nat}:my P A I ts [I] [l] (fun i g h=>h.IsListIter I l i/\h.get? l=some (bm vs m)/\aO P g h ts vs.toList) where
 self i g s Q E st:=wpAny_pyIter_listiter st.1
 stay i g h g' h' st k ki:=by
  obtain ⟨⟨o,e,r⟩,e',q⟩:=st
  exact ⟨⟨o,ki I mem_cons_self o e,r⟩,ki l (mem_cons_of_mem _ mem_cons_self) _ e',q.mono k⟩
 here i g h st a ha:=by
  obtain ⟨⟨o,e,_⟩,e',_⟩:=st
  rcases an ha with rfl |ha
  .exact au e
  .rw [aa ha];exact au e'
 item i t g s Q E hi st hF hq:=by
  obtain ⟨it,e',q⟩:=st
  obtain ⟨u,hu,r⟩:=q.get hi
  have nl:l≠I:=fun q=>by
   obtain ⟨o,e,r,_⟩:=it
   rw [<-q,e'] at e;cases e;exact absurd (Value.type.inj r) (by decide)
  refine wpAny_pyNext_list_item it ⟨_,e',rfl,m,rfl⟩ (by rw [<-Array.getElem?_toList];exact hu) fun h' it' hs=>?_
  have kf:=sg hs.2 (hF I (aA rfl))
  exact hq u h' s.toks (gH hs.2) (r.mono kf) ⟨it',(hs.2 l nl).trans e',q.mono kf⟩
 done g s Q E st hq:=by
  obtain ⟨it,e',q⟩:=st
  exact wpAny_pyNext_list_end hh it ⟨_,e',rfl,m,rfl⟩ (Array.getElem?_eq_none (le_of_eq q.size)) fun h' hs=>hq h' s.toks fun b o e hb=>hs b o (fun q=>hb (aA q)) e
theorem aq.compF {elt target:Expr}{scope:Scope}{xc:Option Str}{pe:PE}(O:bo P c ms)(hn:(bU c)[j]?=some name)(ht:B.tab[0]?=some (some (y,kd)))(K:d5 B Bc scope i xc)(hi:C.U.any (Nat.beq i)=true)(hc:ci C i false Ci=true)(hb:iI P (yh P Bc C Ci target (bx i) (kR xc)))(hel:aq P Bc Ci elt pe (RV P))(hs:∀env x,foldedSetIterable (.Attribute (.Name y np) name apos) env x=pure x):
  aq P B C (.ListComp elt [⟨target,.Attribute (.Name y np) name apos,[],0⟩] scope pos) (ox c j (bx i) pe) (RN P):=fun n A env g ρ σ s k Q E X hbad hq=>by
 unfold ox at hbad hq
 cases e0:o1 (d7 c j ρ σ) gr with
 |none=>rw [e0] at hbad;exact absurd rfl hbad
 |some xs=>
  rw [e0] at hbad hq
  obtain ⟨t,e1,e2⟩:=az e0
  cases eU e2
  show wpAny P.M A (eval _ env) Q E s
  rw [eval_ListComp]
  refine lY (pi:=fun _ _ σ k=>k xs σ) (g:=g.bor) (σ:=⟨σ.spot,Option.none⟩) (k:=fun v σ'=>k v ⟨σ'.spot,σ.self⟩) K (jr hi) (ee hc).1 (fun k' Q' E' Xb _ hq'=>?_) dI.nil hel hs X.bor hbad fun D L s' g' ys σ' m e p w r hL nL hDL hn=>⟨m,hn,fun h' hsb=>?_⟩
  .refine lP O hn ht X e1 fun a of=>?_
   obtain ⟨vs,n',ea,la,ra⟩:=of.o
   refine wpAny_pyIter_list (s:={s with toks:=s.toks+1}) ⟨_,ea,rfl,n',rfl⟩ ?_
   obtain ⟨p',w',v⟩:=oH (X:=uR "list_iterator" a) (tk:=s.toks+1) (s₁:={s with toks:=s.toks+1}) Xb.g (.toks g.bor s _)
   obtain ⟨_,_,_,_,za,na,_,_,_⟩:=of
   exact hq' _ g.bor xs _ _ _ [a] _ rfl p' w' (hb.make (my.own X.room.2.2)) ⟨⟨_,bD _,rfl,rfl⟩,bO s _ _ _ ea,(ra.mono (AY g _)).mono ((aH.push (uR "list_iterator" a) 0).k Xb.g)⟩ v (fun b hb=>by rw [aa hb];exact ⟨(X.g.Z a za).2,na,fun q=>(X.g.O a q).2.2 za,fun q=>(X.env.own a q).2.2.1 za⟩) la
  .obtain ⟨p',w'⟩:=qV X.g p w
   have nz:∀{b},s.heap.get? b=Option.none->¬g.Z b:=fun e z=>(X.g.Z _ z).1 e
   obtain ⟨w'',kf⟩:=w'.scrap ⟨nL.1,nz hL,nL.2.2⟩ hsb.2
   obtain ⟨D',eD,nD,fD,zD,oD,rD⟩:=r
   exact hq _ _ _ _ ⟨σ'.spot,σ.self⟩ e (p'.scrap hL hsb.2) w'' (Am.scrap (g:={g' with Z:=g.Z}) ⟨D',eD,nD,fD,nz nD,oD,gP.mono (g:=g') (h:=s'.heap) (g':={g' with Z:=g.Z}) ⟨fun _ f=>⟨f,fun _ e=>e⟩,rfl⟩ (fun _ e=>e) rD⟩ kf hDL hsb.2)
theorem vO (w:bj P g h σ):gP P g h g.sp (.lst [.int σ.spot]):=let ⟨t,n,e⟩:=w.spot.1;⟨_,n,e,(show 1<=lim by decide),_,_,rfl,⟨t,rfl⟩,rfl⟩
theorem nF (h:oV ρ i=true):cI ρ i=some .spot:=by
 unfold oV at h
 cases e:cI ρ i with
 |none=>rw [e] at h;cases h
 |some t=>
  rw [e] at h
  cases t<;>first |rfl |cases h
theorem aq.spot {kk:Nat}{cp:Pos}(hv:iO C i=true)(ht:B.tab[i]?=some (some (y,kd))):aq P B C (.Subscript (.Name y np) (.Constant (.int 0) kk cp) pos) (nq i) (RV P):=fun n A env g ρ σ s k Q E X hb hq=>by
 have h1:=jd hb
 obtain ⟨u,va,q⟩:=X.env.var i _ _ ht (nF h1)
 obtain rfl:u=.ref g.sp:=iN hv q
 refine Subscript_ (bh X ht va (wpAny_Constant_int (wm (fun _ _=>rfl) A env g σ _ _ _ (.lst [.int σ.spot]) (.int 0) (.int σ.spot) Q E X.rm X.g (.inr ⟨_,rfl,vO X.g⟩) (.inl ⟨_,rfl⟩) rfl fun x s' g' p w r=>hq x s' g' _ σ (by unfold nq;rw [h1]) ((aH.toks g s _).trans p) w r)))
theorem vN {v:Int}(w:bj P g s.heap σ)(hs:∀b,b≠g.sp->h'.get? b=s.heap.get? b)(hy:aR g s.heap g h'->gP P g h' g.sp (.lst [.int v]))(tk:Nat):aH g s g {s with heap:=h',toks:=tk}/\bj P g h' ⟨v,σ.self⟩:=by
 have zs:=w.spot.2.1
 have kf:aR g s.heap g h':=⟨fun b f=>⟨f,fun o e=>(hs b fun q=>(w.Z _ zs).2 (q▸f)).trans e⟩,rfl⟩
 obtain ⟨vs,n,e,_,_,_,e1,⟨t,rfl⟩,e2⟩:=hy kf
 obtain rfl:vs=#[.int v t]:=by rw [<-Array.toArray_toList (xs:=vs),e1,e2]
 have lv:∀b,s.heap.get? b≠none->h'.get? b≠none:=fun b l=>by
  by_cases q:b=g.sp
  .exact q▸au e
  .rw [hs b q];exact l
 refine ⟨⟨⟨h',tk,rfl⟩,fun b o e z=>(hs b fun q=>z (q▸zs)).trans e,fun b e=>?_,fun _ f=>f,fun _ f=>.inl f,fun _ f=>.inl f,rfl,rfl,rfl⟩,fun b o e=>⟨(w.base b o e).1,(kf.F b (w.base b o e).1).2 o (w.base b o e).2⟩,fun b f=>lv b (w.F b f),fun b z=>⟨lv b (w.Z b z).1,(w.Z b z).2⟩,fun b z=>⟨lv b (w.O b z).1,(w.O b z).2⟩,w.oo,⟨⟨t,n,e⟩,w.spot.2⟩,
  fun c ts e=>(w.self c ts e).mono' kf (fun b n z=>⟨z,fun o e=>(hs b n).trans e⟩) rfl⟩
 by_cases q:s.heap.get? b=none
 .exact q
 .exact (lv b q e).elim
theorem aM.spot {e:Expr}{kk:Nat}{cp ps:Pos}{pe:PE}(hv:iO C i=true)(ht:B.tab[i]?=some (some (y,kd)))(hw:∀env,swapsWith e (some (.Subscript (.Name y np) (.Constant (.int 0) kk cp) ps)) pos.line env=pure false)(h:aq P B C e pe (RV P)):aM P B C fr C (.Assign [.Subscript (.Name y np) (.Constant (.int 0) kk cp) ps] e pos) (i5 i pe):=fun n A env g ρ σ s k Q E X hb hq hr=>by
 refine wpAny_Assign_Subscript (h n A env g ρ σ s _ _ E X hb fun z s₁ ga v σ₁ ec pa w1 rb=>?_) (hw env)
 have X1:=X.post pa w1
 have hb1:=fun q=>hb (ec.trans q)
 have h1:=jd hb1
 obtain ⟨u,va,q⟩:=X1.env.var i _ _ ht (nF h1)
 obtain rfl:u=.ref ga.sp:=iN hv q
 cases ev:iD v with
 |none=>simp only [h1,ev,cond_true] at hb1;exact (hb1 trivial).elim
 |some m=>
  cases mo ev
  refine bh X1 ht va (wpAny_Constant_int (wc A ga σ₁ _ ga.sp _ z (.lst [.int σ₁.spot]) (.int 0) (.int m) (.lst [.int m]) _ _ X.rm w1 (vO w1) (.inl ⟨_,rfl⟩) rb rfl fun h' tk hs hy=>?_))
  obtain ⟨pS,wS⟩:=vN (s:=s₁) w1 hs hy tk
  exact hq _ _ ρ _ (ec.trans (by rw [h1];rfl)) (pa.trans pS).toS (X1.post pS wS)
end
section
variable {P:Pg} {B:br} {C:Ct}
theorem yj {M:Model}{A:Around}{E:Value->Shared->Prop}{s:Shared}{env:Env}{l m r:Expr}{o1 o2:CmpOp}{pos:Pos}{Q:Value->Shared->Prop}(hm:markedEach [o1,o2] [m,r] (evalEach [m,r] env)=[eval m env,eval r env])
  (h:wpAny M A (eval l env) (fun a s₁=>wpAny M A (eval m env) (fun b s2=>wpAny M A (compareOp o1 a b) (fun c s3=>∃t:Bool,c=.bool t/\(t=true->wpAny M A (eval r env) (fun d s4=>wpAny M A (compareOp o2 b d) Q E s4) E s3)/\(t=false->Q (.bool false) s3)) E s2) E s₁) E s):
  wpAny M A (eval (.Compare l [o1,o2] [m,r] pos) env) Q E s:=by
 rw [arm_eval_Compare,hm]
 refine wpAny_bind (wpAny_mono h (fun a s₁ hc=>?_) fun _ _ q=>q)
 show wpAny M A (do
  let rv <-holding [a] (eval m env)
  standAt pos
  let c <-holding [a,rv] (compareOp o1 a rv)
  release [a,rv] [c]
  if <-holding [c,rv] (truthy c) then compareChain pos rv [o2] [eval r env] else pure c) Q E s₁
 refine wpAny_bind (wpAny_holding (wpAny_mono hc (fun b s2 hd=>wpAny_bind (wpAny_standAt (wpAny_bind (wpAny_holding (wpAny_mono hd (fun c s3 he=>?_) fun _ _ q=>q))))) fun _ _ q=>q))
 obtain ⟨t,rfl,h4,h5⟩:=he
 refine wpAny_bind (wpAny_release (wpAny_bind (wpAny_holding (wpAny_truthy_bool ?_))))
 cases t with
 |true=>
  rw [if_pos rfl]
  show wpAny M A (do
   let rv <-holding [b] (eval r env)
   standAt pos
   operate [b,rv] (compareOp o2 b rv)) Q E s3
  exact wpAny_bind (wpAny_holding (wpAny_mono (h4 rfl) (fun d s4 h6=>wpAny_bind (wpAny_standAt (wpAny_operate' h6))) fun _ _ q=>q))
 |false=>rw [if_neg (by simp)];exact wpAny_pure (h5 rfl)
theorem jZ {M:Model}{A:Around}{E:Value->Shared->Prop}{s:Shared}{env:Env}{l m r:Expr}{o1 o2:CmpOp}{pos:Pos}{whole:Sem Value}{Q:Bool->Shared->Prop}(hm:markedEach [o1,o2] [m,r] (evalEach [m,r] env)=[eval m env,eval r env])
  (h:wpAny M A (eval l env) (fun a s₁=>wpAny M A (eval m env) (fun b s2=>wpAny M A (compareOp o1 a b) (fun c s3=>∃t:Bool,c=.bool t/\(t=true->wpAny M A (eval r env) (fun d s4=>wpAny M A (compareOp o2 b d) (fun c s5=>wpAny M A (truthy c) Q E s5) E s4) E s3)/\(t=false->Q false s3)) E s2) E s₁) E s):
  wpAny M A (isTrue (.Compare l [o1,o2] [m,r] pos) env whole) Q E s:=by
 show wpAny M A (do testChain pos (<-eval l env) [o1,o2] (markedEach [o1,o2] [m,r] (evalEach [m,r] env))) Q E s
 rw [hm]
 refine wpAny_bind (wpAny_mono h (fun a s₁ hc=>?_) fun _ _ q=>q)
 show wpAny M A (do
  let rv <-holding [a] (eval m env)
  standAt pos
  let c <-holding [a,rv] (compareOp o1 a rv)
  release [a,rv] [c]
  if <-holding [c,rv] (truthy c) then testChain pos rv [o2] [eval r env] else pure false) Q E s₁
 refine wpAny_bind (wpAny_holding (wpAny_mono hc (fun b s2 hd=>wpAny_bind (wpAny_standAt (wpAny_bind (wpAny_holding (wpAny_mono hd (fun c s3 he=>?_) fun _ _ q=>q))))) fun _ _ q=>q))
 obtain ⟨t,rfl,h4,h5⟩:=he
 refine wpAny_bind (wpAny_release (wpAny_bind (wpAny_holding (wpAny_truthy_bool ?_))))
 cases t with
 |true=>
  rw [if_pos rfl]
  show wpAny M A (do
   let rv <-holding [b] (eval r env)
   standAt pos
   let c <-operate [b,rv] (compareOp o2 b rv)
   holding [c] (truthy c)) Q E s3
  exact wpAny_bind (wpAny_holding (wpAny_mono (h4 rfl) (fun d s4 h6=>wpAny_bind (wpAny_standAt (wpAny_bind (wpAny_operate' (wpAny_mono h6 (fun c s5 h7=>wpAny_holding h7) fun _ _ q=>q))))) fun _ _ q=>q))
 |false=>rw [if_neg (by simp)];exact wpAny_pure (h5 rfl)
noncomputable abbrev CH (P:Pg)(l m r:Expr)(o1 o2:CmpOp):WP Bool:=fun A env Q E s=>wpAny P.M A (eval l env) (fun a s₁=>wpAny P.M A (eval m env) (fun b s2=>wpAny P.M A (compareOp o1 a b) (fun c s3=>∃t:Bool,c=.bool t/\(t=true->wpAny P.M A (eval r env) (fun d s4=>wpAny P.M A (compareOp o2 b d) (fun v s5=>∃u:Bool,v=.bool u/\Q u s5) E s4) E s3)/\(t=false->Q false s3)) E s2) E s₁) E s
theorem chain {l m r:Expr}{o1 o2:CmpOp}{pl pm pr:PE}{F G:T->T->Option Bool}(k1:iH P o1 F)(k2:iH P o2 G)(hl:aq P B C l pl (RX P))(hm:aq P B C m pm (RX P))(hr:aq P B C r pr (RX P)):dB P B C (CH P l m r o1 o2) (lk F G pl pm pr) RQ:=
 hl.bind (N:=fun A env a Q E s₁=>wpAny P.M A (eval m env) (fun b s2=>wpAny P.M A (compareOp o1 a b) (fun c s3=>∃t:Bool,c=.bool t/\(t=true->wpAny P.M A (eval r env) (fun d s4=>wpAny P.M A (compareOp o2 b d) (fun v s5=>∃u:Bool,v=.bool u/\Q u s5) E s4) E s3)/\(t=false->Q false s3)) E s2) E s₁)
  (F:=fun c ρ k a σ=>pm c ρ σ fun b σ=>match F a b with |some true=>pr c ρ σ fun x σ=>up (G b x) σ k |some false=>k false σ |none=>.bad) CU fun n A env g ga ρ σ s s₁ x t k Q E p X r1 hb hq=>hm n A env ga ρ σ s₁ _ _ E X hb fun y s2 gb u σ₂ ec p2 wb r2=>by
  have hb2:=fun q=>hb (ec.trans q)
  have rx:=im.post X.g p2 r1
  cases ht:F t u with
  |none=>simp only [ht] at hb2;exact (hb2 trivial).elim
  |some c=>
   refine k1 A gb σ₂ s2 x y t u c _ _ X.rm wb rx.y (im.y r2) ht fun tk=>⟨c,rfl,fun q=>?_,fun q=>?_⟩
   .subst q
    simp only [ht] at hb2 ec
    have pt:=aH.toks gb s2 tk
    refine hr n A env gb ρ σ₂ {s2 with toks:=tk} _ _ E ((X.post p2 wb).post pt wb) hb2 fun z s3 g3 v σ₃ ed p3 w3 r3=>?_
    obtain ⟨b,e'⟩:=bV fun q=>hb2 (ed.trans q)
    exact k2 A g3 σ₃ s3 y z u v b _ _ X.rm w3 (im.post (s:={s2 with toks:=tk}) wb p3 r2).y (im.y r3) e' fun tk'=>⟨b,rfl,hq b _ g3 b σ₃ (ec.trans (ed.trans (by rw [e'];rfl))) ((p2.trans pt).trans (p3.trans (.toks _ _ _))) w3 rfl⟩
   .subst q
    simp only [ht] at ec
    exact hq false _ gb false σ₂ ec (p2.trans (.toks _ _ _)) wb rfl
theorem cn.cmp2 {l m r:Expr}{o1 o2:CmpOp}{pos:Pos}{pl pm pr:PE}{F G:T->T->Option Bool}(k1:iH P o1 F)(k2:iH P o2 G)(hM:∀env,markedEach [o1,o2] [m,r] (evalEach [m,r] env)=[eval m env,eval r env])(hl:aq P B C l pl (RX P))(hm:aq P B C m pm (RX P))(hr:aq P B C r pr (RX P)):cn P B C (.Compare l [o1,o2] [m,r] pos) (lk F G pl pm pr):=
 (chain k1 k2 hl hm hr).map fun A env Q E s h=>jZ (hM env) (wpAny_mono h (fun a s₁ h=>wpAny_mono h (fun b s2 h=>wpAny_mono h (fun c s3 ⟨t,e,h1,h2⟩=>⟨t,e,fun q=>wpAny_mono (h1 q) (fun d s4 h=>wpAny_mono h (fun v s5 ⟨u,e,h⟩=>by rw [e];exact wpAny_truthy_bool h) fun _ _ q=>q) fun _ _ q=>q,h2⟩) fun _ _ q=>q) fun _ _ q=>q) fun _ _ q=>q)
theorem aq.cmp2 {l m r:Expr}{o1 o2:CmpOp}{pos:Pos}{pl pm pr:PE}{F G:T->T->Option Bool}(k1:iH P o1 F)(k2:iH P o2 G)(hM:∀env,markedEach [o1,o2] [m,r] (evalEach [m,r] env)=[eval m env,eval r env])(hl:aq P B C l pl (RX P))(hm:aq P B C m pm (RX P))(hr:aq P B C r pr (RX P)):aq P B C (.Compare l [o1,o2] [m,r] pos) (pB (lk F G pl pm pr)) (RV P):=
 ((chain k1 k2 hl hm hr).bind (N:=fun A env b Q E s=>Q (.bool b) s) (F:=fun _ _ k b σ=>k (.bool b) σ) jt fun n A env g ga ρ σ s s₁ x t k Q E p X r hb hq=>hq _ s₁ ga _ σ rfl (.refl _ _) X.g (by cases r;rfl)).map fun A env Q E s h=>yj (hM env) (wpAny_mono h (fun a s₁ h=>wpAny_mono h (fun b s2 h=>wpAny_mono h (fun c s3 ⟨t,e,h1,h2⟩=>⟨t,e,fun q=>wpAny_mono (h1 q) (fun d s4 h=>wpAny_mono h (fun v s5 ⟨u,e,h⟩=>by rw [e];exact h) fun _ _ q=>q) fun _ _ q=>q,h2⟩) fun _ _ q=>q) fun _ _ q=>q) fun _ _ q=>q)
end
structure g8 where
 i:Nat
 x:Str
 k:NameKind
 p:Pos
noncomputable def g8.e (z:g8):Expr:=.Name z.x z.p
noncomputable def AI (B:br)(C:Ct)(zs:List g8):Bool:=zs.all fun z=>(B.tab[z.i]?==some (some (z.x,z.k)))&&((z.k==.local||z.k==.cell)&&ci C z.i false C)
structure g8.ok (B:br) (C:Ct) (z:g8):Prop where
 t:B.tab[z.i]?=some (some (z.x,z.k))
 k:z.k=.local\/z.k=.cell
 s:ci C z.i false C=true
theorem BE {B:br}{C:Ct}{zs:List g8}(h:AI B C zs=true)(z:g8)(hz:z∈zs):z.ok B C:=by
 obtain ⟨h1,h2⟩:=af (aB h z hz)
 obtain ⟨h2,h3⟩:=af h2
 exact ⟨eq_of_beq h1,(Bool.or_eq_true_iff.mp h2).imp eq_of_beq eq_of_beq,h3⟩
theorem fJ (env:Env):∀zs:List g8,(assignEach (zs.map g8.e) env).map (·.2)=zs.map (fun z=>assign z.e env)/\(assignEach (zs.map g8.e) env).length=zs.length/\(assignEach (zs.map g8.e) env).findIdx? (·.1)=none
 | []=>⟨rfl,rfl,rfl⟩
 |z::zs=>by
  obtain ⟨h1,h2,h3⟩:=fJ env zs
  have e:assignEach ((z::zs).map g8.e) env=(false,assign z.e env)::assignEach (zs.map g8.e) env:=rfl
  rw [e]
  refine ⟨by rw [map_cons,map_cons,h1],by rw [length_cons,h2];rfl,?_⟩
  rw [findIdx?_cons,h3];rfl
theorem jN:∀{is:List Nat} {ts:List T} {ρ ρ':aZ},fQ is ts ρ=some ρ'->is.length=ts.length
 | [],[],_,_,_=>rfl
 | [],_::_,_,_,e=>by cases e
 |_::_,[],_,_,e=>by cases e
 |_::is,_::ts,_,_,e=>congrArg (·+1) (jN (is:=is) (ts:=ts) e)
section
variable {P:Pg} {B:br} {C C':Ct} {fr:Bool} {n:Nat} {A:Around} {env:Env} {g g':Gh} {ρ ρ':aZ} {σ:Sg} {s s':Shared} {h h':Heap} {E:Value->Shared->Prop}
theorem jq {Q:Unit->Shared->Prop}:∀(zs:List g8) (ts:List T) (us:List Value) (ρ:aZ) (s:Shared),fQ (zs.map (·.i)) ts ρ=some ρ'->(∀z∈zs,z.ok B C)->At P B C n A env g ρ σ s->aO P g s.heap ts us->(∀s',bC [] (own env) g s g s'->At P B C n A env g ρ' σ s'->Q () s')->wpAny P.M A (assignInOrder (zs.map (fun z=>assign z.e env)) us) Q E s
 | [],[],us,ρ,s,e,hz,X,r,h=>by
  cases r;cases e
  exact assignInOrder_nil (h s (aH.refl g s).toE X)
 | [],_::_,us,ρ,s,e,hz,X,r,h=>by cases e
 |z::zs,[],us,ρ,s,e,hz,X,r,h=>by cases e
 |z::zs,t::ts,us,ρ,s,e,hz,X,r,h=>by
  obtain ⟨v,vs,rfl,r,rs⟩:=r
  have o:=hz z mem_cons_self
  refine assignInOrder_cons (wpAny_assign_Name (gR X o.s o.t o.k r fun s' p X'=>?_))
  have p:bC [] (own env) g s g s':=p.weak (fun _ h=>h) c9
  exact jq zs ts vs (ρ.set z.i (some t)) s' e (fun w hw=>hz w (mem_cons_of_mem _ hw)) X' (rs.mono (p.toS.k X.g fun a ha=>(X.env.own a ha).2.1)) fun s'' p' X''=>h s'' (p.trans p') X''
theorem iC {Q:Unit->Shared->Prop}{zs:List g8}{ts:List T}{us:Array Value}{a:Addr}{m kt:Nat}{pt:Pos}(hz:AI B C zs=true)(e:fQ (zs.map (·.i)) ts ρ=some ρ')(X:At P B C n A env g ρ σ s)(ea:s.heap.get? a=some (eW us m))(rs:aO P g s.heap ts us.toList)
  (h:∀s',bC [] (own env) g s g s'->At P B C n A env g ρ' σ s'->Q () s'):wpAny P.M A (assign (.Tuple (zs.map g8.e) kt pt) env (.ref a)) Q E s:=by
 obtain ⟨h1,h2,h3⟩:=fJ env zs
 refine wpAny_assign_Tuple X.room.2.2 ⟨_,ea,rfl,m,rfl⟩ (by rw [h2,<-length_map (f:=(·.i)),jN e,<-rs.length];rfl) h3 fun h' hk=>?_
 have k:∀b o,s.heap.get? b=some o->h'.get? b=some o:=fun b o e=>hk b o (fun q=>au e (q▸aJ _)) e
 have pa:aH g s g {s with heap:=h',toks:=s.toks}:=.grow s.toks k g.F (fun _ f=>f) fun _ f=>.inl f
 rw [h1]
 exact jq zs ts _ ρ _ e (BE hz) (X.post pa (X.g.grow k g.F (fun _ f=>f) fun _ f=>.inl f)) (rs.mono (pa.k X.g)) fun s' p' X'=>h s' (pa.toE.trans p') X'
theorem nM:∀(xs:List T) (k i:Nat),(gL k xs)[i]?=(xs[i]?).map fun v=>T.tup [.int ((k+i:Nat):Int),v]
 | [],_,_=>rfl
 |x::xs,k,0=>rfl
 |x::xs,k,i+1=>by
  have:=nM xs (k+1) i
  rw [Nat.add_right_comm] at this
  exact this
theorem fV:∀(xs:List T) (k:Nat),(gL k xs).length=xs.length
 | [],_=>rfl
 |_::xs,k=>congrArg (·+1) (fV xs (k+1))
noncomputable def yi (P:Pg)(ts:List T)(e it l:Addr)(vs:Array Value)(m k:Nat)(g:Gh)(h:Heap):Prop:=(∃old,IsEnum h e it k old)/\h.IsListIter it l k/\g.F l/\h.get? l=some (bm vs m)/\aO P g h ts vs.toList
theorem yi.stay {ts:List T}{e it l:Addr}{vs:Array Value}{m k:Nat}(st:yi P ts e it l vs m k g h)(kf:aR g h g' h')(ki:∀a∈[e,it],∀o,h.get? a=some o->h'.get? a=some o):yi P ts e it l vs m k g' h':=by
 obtain ⟨⟨old,h1⟩,⟨o,h2,h3⟩,f,e',q⟩:=st
 exact ⟨⟨old,ki e mem_cons_self _ h1⟩,⟨o,ki it (mem_cons_of_mem _ mem_cons_self) o h2,h3⟩,(kf.F l f).1,(kf.F l f).2 _ e',q.mono kf⟩
theorem jU.enum (hh:A.handled=none){e it l:Addr}{vs:Array Value}{m:Nat}{ts:List T}{z1 z2:g8}{kt:Nat}{pt:Pos}(hz:AI B C [z1,z2]=true)(hei:e≠it):
  jU P A B C C (.Tuple [z1.e,z2.e] kt pt) (yB z1.i z2.i) own e (gL 0 ts) [e,it] [] (yi P ts e it l vs m) where
 sub:=fun _ _ h=>h
 stay:=fun k g h g' h' st kf ki=>st.stay kf ki
 here:=fun k g h st b hb=>by
  obtain ⟨⟨old,g1⟩,⟨o,g2,_⟩,_⟩:=st
  rcases an hb with rfl |hb
  .exact au g1
  .rw [aa hb];exact au g2
 self:=fun k g s Q E st h=>by
  obtain ⟨⟨old,g1⟩,_⟩:=st
  exact wpAny_pyIter_enum g1 h
 item:=fun k v n env g ρ ρ' σ s Q E hj X hv st hρ hq=>by
  obtain ⟨⟨old,g1⟩,g2,f,b1,b2⟩:=id st
  rw [nM] at hj
  obtain ⟨x,hx,rfl⟩:=av hj
  obtain ⟨u,hu,r⟩:=b2.get hx
  refine wpAny_pyNext_enum_item g1 g2 ⟨_,b1,rfl,m,rfl⟩ (by rw [<-Array.getElem?_toList];exact hu) hei fun h' ho hit' ht hsz hk=>?_
  refine wpAny_letOwnedTupleGo_enum ho fun hd he2 hs2=>?_
  have hel:s.heap.objs.size≠e:=fun q=>au g1 (q▸aJ _)
  have hk2:∀b o,s.heap.get? b=some o->b∉[e,it]->hd.get? b=some o:=fun b o e' hb=>(hs2.2 b fun q=>hb (q▸mem_cons_self)).trans (hk b o (fun q=>hb (q▸mem_cons_self)) (fun q=>hb (q▸mem_cons_of_mem _ mem_cons_self)) e')
  obtain ⟨pV,X1⟩:=dK X hv hk2 (s.toks+1)
  have lve:hd.get? e≠none:=au he2
  have lvi:hd.IsListIter it l (k+1):=let ⟨o,w1,w2⟩:=hit';⟨o,(hs2.2 it (Ne.symm hei)).trans w1,w2⟩
  have kf:aR g s.heap g hd:=⟨fun b f=>⟨f,fun o e=>hk2 b o e fun q=>(hv b q).1 f⟩,rfl⟩
  have pV:=eC pV fun b hb=>by
   rcases an hb with rfl |hb
   .exact lve
   .rw [aa hb];exact let ⟨_,e,_⟩:=lvi;au e
  have st':yi P ts e it l vs m (k+1) g hd:=⟨⟨_,he2⟩,lvi,f,(kf.F l f).2 _ b1,b2.mono kf⟩
  refine iC (zs:=[z1,z2]) (ts:=[.int ((0+k:Nat):Int),x]) hz hρ X1 ((hs2.2 _ hel).trans ht) ⟨_,_,rfl,⟨s.toks,by rw [zero_add]⟩,_,_,rfl,r.mono kf,rfl⟩ fun s' p' X'=>?_
  exact hq s' ((pV.weak (fun _ h=>h) fun a=>mem_append_left _).trans (p'.weak (fun _ h=>h) fun a=>mem_append_right _)) X' (st'.stay (p'.toS.k X1.g fun a ha=>(X1.env.own a ha).2.1) fun a ha o e=>p'.keep a o e (hv a ha).2.1 (hv a ha).2.2.2)
 done:=fun n env g ρ σ s Q E X hv st hq=>by
  obtain ⟨⟨old,g1⟩,g2,f,b1,b2⟩:=id st
  rw [fV] at g1 g2
  refine wpAny_pyNext_enum_end hh g1 g2 ⟨_,b1,rfl,m,rfl⟩ (Array.getElem?_eq_none (le_of_eq b2.size)) fun h' hk=>?_
  obtain ⟨pV,X1⟩:=dK (h':=h') X hv (fun b o e' hb=>hk b o (fun q=>hb (q▸mem_cons_of_mem _ mem_cons_self)) e') s.toks
  exact hq _ pV X1
theorem fq.enum {x:Expr}{d:PE}{z1 z2:g8}{kt:Nat}{pt p pos:Pos}(hz:AI B C [z1,z2]=true)(hx:B.sc.names.lookup (ofString "enumerate")=some .globalImplicit)(hn:∀env,starEach [x] env=[(false,eval x env)])(h:aq P B C x d (RV P)):
  fq P B C (.Call (.Name (ofString "enumerate") p) [x] [] pos) (yh P B C C (.Tuple [z1.e,z2.e] kt pt) (yB z1.i z2.i) own) (qB d):=fun n A env g ρ σ s k Q E X hb hq=>by
 refine Call_Name rfl (X.blt hx (by decide) (by decide) (v:=.type "enumerate") (by decide) (bf (fun _ q=>by cases q) (bA (by rw [hn env];exact fun q hq=>by cases hq with |head=>rfl |tail _ h=>cases h)) (wpAny_items_cons (h n A env g ρ σ s _ _ E X hb fun x s₁ ga t σ₁ eb pa wa r1=>wpAny_items_nil ?_) (hn env))))
 obtain ⟨ts',e'⟩:=bV fun q=>hb (eb.trans q)
 obtain ⟨ts,e2,e3⟩:=az e'
 cases eU e2
 obtain ⟨l,rfl,f,vs,m,b1,b3,b2⟩:=r1
 refine call_enumerate_1 b1 fun h' ge gi _ hk=>wpAny_pyIter_enum ge ?_
 have hne:s₁.heap.get? (s₁.heap.objs.size+1)=none:=Heap.get?_none_of_le (le_succ _)
 have p2:aH ga s₁ ga {s₁ with heap:=h',toks:=s₁.toks}:=.grow s₁.toks hk ga.F (fun _ f=>f) fun _ f=>.inl f
 cases e3
 refine hq _ ga _ σ₁ _ [_,s₁.heap.objs.size] [] _ (eb.trans (by rw [e'];rfl)) (pa.trans p2) (wa.grow hk ga.F (fun _ f=>f) fun _ f=>.inl f) (jU.enum (l:=l) X.room.2.2 hz (Nat.ne_of_gt (Nat.lt_succ_self _))) ⟨⟨_,ge⟩,gi,f,hk _ _ b1,b2.mono (p2.k wa)⟩ (fun b hb=>?_) (fun _ q=>nomatch q) (by rw [fV];exact b3)
 have:s₁.heap.get? b=none:=by
  rcases an hb with rfl |hb
  .exact hne
  .rw [aa hb];exact aJ _
 exact ⟨pa.back b this,fun q=>wa.F b q this,fun q=>(wa.Z b q).1 this⟩
theorem my.str (hh:A.handled=none){I:Addr}{x:Str}{t:Tok}(ha:x.cps.all (· < 128)=true):my P A I (x.cps.toList.map fun c=>T.str ⟨#[c]⟩) [I] [] (fun i _ h=>h.IsStrIter I "str_ascii_iterator" x t i) where
 self i g s Q E st:=wpAny_pyIter_striter_ascii st
 stay i g h g' h' st k ki:=let ⟨o,e,r⟩:=st;⟨o,ki I (aA rfl) o e,r⟩
 here i g h st a ha:=by
  obtain ⟨o,e,_⟩:=st
  rw [aa ha];exact au e
 item i t g s Q E hi st hF hq:=by
  rw [getElem?_map] at hi
  obtain ⟨c,hc',rfl⟩:=av hi
  have hcx:x.cps[i]?=some c:=by rw [<-Array.getElem?_toList];exact hc'
  refine wpAny_pyNext_ascii_item st hcx fun h' hit hs=>?_
  refine hq _ h' _ (gH hs.2) ⟨⟨?_,(show 1<=lim by decide)⟩,_,rfl⟩ hit
  have hlt:c < 128:=by
   have:=Array.all_eq_true_iff_forall_mem.mp ha c (Array.mem_of_getElem? hcx)
   simpa using this
  simp [PyData.strOk]
  lia -abstractProof
 done g s Q E st hq:=wpAny_pyNext_ascii_end hh st (by rw [length_map];exact Array.getElem?_eq_none (le_refl _)) fun h' hs=>hq h' s.toks fun b o e hb=>hs b o (fun q=>hb (aA q)) e
theorem fq.str {e:Expr}{p:PE}{mk:Around->Addr->List T->List Addr->List Addr->(Nat->Gh->Heap->Prop)->Prop}(hb:iI P mk)(h:aq P B C e p (RV P)):fq P B C e mk (p1 zX p):=fun n A env g ρ σ s k Q E X hbad hq=>
 h n A env g ρ σ s (fun t σ=>up (zX t) σ k) _ E X hbad fun x s₁ ga t σ₁ e p w r=>by
  obtain ⟨ts,e'⟩:=bV fun q=>hbad (e.trans q)
  obtain ⟨y,e1,e2⟩:=az e'
  obtain ⟨ha,e2⟩:=cC e2
  obtain ⟨⟨_,l⟩,u,rfl⟩:=dY.s (.inl r) e1
  refine wpAny_pyIter_ascii ha ?_
  obtain ⟨p',w',v⟩:=oH (X:={cls:=.type "str_ascii_iterator",data:=.fields #[.str y u,.int 0 0]}) (tk:=s₁.toks) w p
  exact hq _ ga ts σ₁ _ _ [] _ (e.trans (by rw [e'];rfl)) p' w' (e2▸hb.make (my.str X.room.2.2 ha)) ⟨_,bD _,rfl,rfl⟩ v (fun _ q=>nomatch q) (by rw [<-e2,length_map];exact l)
theorem Cq:iH P .In EO:=fun A g σ s x x' t t' b Q E rm w q q' e k=>by
 obtain ⟨y,z,e1,e2,e3⟩:=aU e
 cases e3
 obtain ⟨_,u,rfl⟩:=q.s e1
 obtain ⟨_,v,rfl⟩:=q'.s e2
 exact PySem.P.in_str (k s.toks)
end
end
end Mine
namespace Mine
noncomputable section
open PySem PySem.W PyProof.Rows PySem.SeqAt
theorem gf:entryFor table "dict.update.loop"=some Builtin.«dict.update.loop»:=entryFor_of_tree (by kernel_rfl)
theorem cT:plainId "dict.update.loop"=true:=by decide+kernel
theorem uJ:typeLookup (.type "list") "keys"=pure none:=by rw [typeLookup_type,builtinLookup_eq_fast];kernel_rfl
section
variable {prog:Program} {w:World} {A:Around} {E:Value->Shared->Prop} {s:Shared}
set_option maxRecDepth 100000 in
theorem uP {a:Addr}{xs:Array Value}{k:Nat}{Q:Option Value->Shared->Prop}(hx:s.heap.get? a=some {cls:=.type "list",dict:=none,data:=.seq xs k,slots:=#[]})(hA:A.handled=none)
  (h:∀h' tk,(∀b o,s.heap.get? b=some o->h'.get? b=some o)->Q none {s with heap:=h',toks:=tk}):wpAny (model prog w) A (getAttr? (.ref a) "keys") Q E s:=by
 obtain ⟨hp,g,d,tk,os⟩:=s
 have hT:∀tk',(⟨hp,g,d,tk',os⟩:Shared).TypeIs (.ref a) "list":=fun _=>⟨_,hx,rfl⟩
 have f1:=sub_AttributeError
 have f3:=F.slot_list_getattribute.lookup
 have f4:=F.slot_list_getattribute.bind (.ref a)
 have f5:=am_list_getattr_none
 unfold getAttr? getAttrBy? getAttrBy
 repeat (any_goals (first |assumption |exact hT _ | ((with_reducible show wpAny _ _ (call (Value.builtin "list.__getattribute__") _ _) _ _ _);refine call_meets F.slot_list_getattribute (hT _) am_entry_list_getattribute (F.args_list_getattribute_2 _ _) (meets_getattribute_miss_list a xs k #[] "keys" _ uJ (by decide) (by size_fits)) ⟨hx,hA,fun h' tk' e hx'=>?_⟩) |wp_step))
 obtain ⟨t',u',he⟩:=hx'.there
 show wpAny _ _ (getattributeRaised _ _ _ _ _ _ _) _ _ _
 unfold getattributeRaised
 repeat (any_goals (first |assumption |wp_step))
 exact h _ _ hx'.keeps
theorem rS {a:Addr}{vs:Array Value}{n:Nat}{Q:List Value->Shared->Prop}(hx:s.heap.get? a=some {cls:=.type "tuple",dict:=none,data:=.seq vs n,slots:=#[]})(h:Q vs.toList s):wpAny (model prog w) A (Builtin.Dict.pairItems (.ref a)) Q E s:=by
 have hT:s.TypeIs (.ref a) "tuple":=⟨_,hx,rfl⟩
 unfold Builtin.Dict.pairItems
 refine wpAny_bind (wpAny_typeOf hT ?_)
 rw [if_pos (by decide)]
 refine wpAny_bind (wpAny_seqItems hx rfl (wpAny_pure ?_))
 exact h
end
noncomputable abbrev lU (es:List f8)(xs:List f8):List f8:=es.foldl (fun xs e=>storedH xs e.1 e.2.1 e.2.2) xs
section
variable {prog:Program} {w:World} {A:Around} {s:Shared} {knd:HeapKind prog w Ky}
theorem pW (xs:List f8)(κ:Ky)(a:Addr)(v:Value):(storedH xs κ a v).length<=xs.length+1:=by
 unfold storedH;split
 .rw [length_map];lia -abstractProof
 .rw [List.length_append];exact le_refl _
theorem kA {h h':Heap}{κ:Ky}{a:Addr}(k:∀b o,h.get? b=some o->h'.get? b=some o)(i:(aN prog w).is h κ a):(aN prog w).is h' κ a:=let ⟨d,e,x⟩:=i;⟨d,e,dC.keeps (fun _ _ _ e=>k _ _ e) d 6 _ x⟩
theorem rL {xs:List f8}{e x:f8}{p:Ky->Addr->Prop}(h:∀x∈xs,p x.1 x.2.1)(he:p e.1 e.2.1)(hx:x∈storedH xs e.1 e.2.1 e.2.2):p x.1 x.2.1:=by
 unfold storedH at hx
 split at hx
 .obtain ⟨y,hy,rfl⟩:=aF hx
  unfold putAt;split<;>exact h y hy
 .rcases ak hx with hx |hx
  .exact h x hx
  .rw [aa hx];exact he
theorem sW {n i k:Nat}(h:n - i=k+1):n - (i+1)=k:=by rw [Nat.sub_add_eq,h];rfl
inductive F1 (prog:Program) (w:World) (h:Heap) (o:Option f8) (v:Value):Prop
 |mk (a:Addr) (e:f8) (us:Array Value) (m:Nat) (hv:v=.ref a) (he:o=some e) (hg:h.get? a=some ⟨.type "tuple",none,.seq us m,#[]⟩) (hu:us.toList=[.ref e.2.1,e.2.2]) (hk:(aN prog w).is h e.1 e.2.1)
theorem uY {R:Result->Shared->Prop}{I:Addr}{fp wr:List Addr}{G:Array GenState->Array GenState->Prop}{n:Nat}{Pp:Nat->Value->Prop}{St:Nat->Shared->Prop}(hu:A.units+50 < cLine)(W:WalksS prog w A.in1 I fp wr G n Pp St)(S:Addr)(hSf:S∉fp)(h₀:Heap)(es:List f8)(hn:es.length=n)(hnl:n<=lim)
  (hval:∀i v,Pp i v->F1 prog w h₀ es[i]? v)(hS0:h₀.get? S=none)(hw0:∀b∈wr,h₀.get? b=none):
  ∀(k i:Nat) (s:Shared) (xs:List f8),n - i=k->i<=n->xs.length<=i->St i s->s.heap.DictOfH (aN prog w) S xs->(∀x∈xs,(aN prog w).is h₀ x.1 x.2.1)->(∀b o,h₀.get? b=some o->s.heap.get? b=some o)->
   (∀s',Moved (S::wr) G s s'->s'.heap.DictOfH (aN prog w) S (lU (es.drop i) xs)->R (.ok (.ret .none)) s')->
   codeAny (model prog w) A (.builtin "dict.update.loop" ⟨[.ref S,.ref I,rawInt i,.none],[]⟩) R s:=by
 have hSw:S∉wr:=fun h=>hSf (W.sub _ h)
 have hsub:∀b∈wr,b∈S::wr:=fun b hb=>mem_cons_of_mem _ hb
 have kp:∀{s s':Shared},Moved wr G s s'->(∀b o,h₀.get? b=some o->s.heap.get? b=some o)->∀b o,h₀.get? b=some o->s'.heap.get? b=some o:=fun hm hkp b o e=>hm.heap b o (fun hb=>by rw [hw0 b hb] at e;cases e) (hkp b o e)
 have dm:∀{xs:List f8} {s s':Shared},Moved wr G s s'->(∀b o,h₀.get? b=some o->s.heap.get? b=some o)->(∀x∈xs,(aN prog w).is h₀ x.1 x.2.1)->s.heap.DictOfH (aN prog w) S xs->s'.heap.DictOfH (aN prog w) S xs:=fun hm hkp hx d=>by
  obtain ⟨o,es,ep,h1,h2,h3,h4,h5,h6⟩:=d
  exact ⟨o,es,ep,hm.heap S _ hSw h1,h2,h3,h4,fun x hx'=>kA (kp hm hkp) (hx x hx'),h6⟩
 intro k
 induction k with
 |zero=>
  intro i s xs hk hi hxl hst hS hxs hkp hR
  obtain rfl:i=n:=le_antisymm hi (Nat.le_of_sub_eq_zero hk)
  rw [List.drop_of_length_le (by lia -abstractProof)] at hR
  refine codeAny_builtin gf ?_
  rw [Around.under_plainId cT _]
  show wpAny _ A.in1 (pyNext (.ref I) >>=_) _ _ s
  refine wpAny_bind (W.done s _ _ hst fun s' hm=>?_)
  show wpAny _ A.in1 (Builtin.Dict.addKeywords S [] >>=fun _=>ret Value.none) _ _ s'
  refine wpAny_bind (wpAny_pure ?_)
  exact wpAny_pure (hR s' (hm.mono hsub) (dm hm hkp hxs hS))
 |succ k ih=>
  intro i s xs hk hi hxl hst hS hxs hkp hR
  have hlt:i < n:=Nat.lt_of_sub_eq_succ hk
  refine codeAny_builtin gf ?_
  rw [Around.under_plainId cT _]
  show wpAny _ A.in1 (pyNext (.ref I) >>=_) _ _ s
  refine wpAny_bind (W.item i s _ _ hlt hst fun v s' hP hst' hm=>?_)
  obtain ⟨a,e,vs,m,rfl,hes,ha,hv,his⟩:=hval i v hP
  have hkp':=kp hm hkp
  have hS':=dm hm hkp hxs hS
  have hdrop:es.drop i=e::es.drop (i+1):=by
   obtain ⟨h1,h2⟩:=aj hes
   rw [List.drop_eq_getElem_cons h1,h2]
  rw [hdrop] at hR
  show wpAny _ A.in1 (holding [Value.ref a] _ >>=_) _ _ s'
  refine wpAny_bind (wpAny_holding (wpAny_bind (wpAny_tryCatch (rS (hkp' a _ ha) ?_))))
  rw [hv]
  have hl:lim<=sizeLine:=by decide
  refine wpAny_holding (wpAny_dictSet_heap (show A.in1.units+6 < cLine by rw [Around.in1_units];lia) (kA hkp' his) hS' (fun h' hS2 hsb=>?_) (by lia -abstractProof))
  refine wpAny_pure ⟨plainId_quiet cT _,?_⟩
  have e1:((i:Int)+1)=((i+1:Nat):Int):=rfl
  show codeAny _ A (.builtin "dict.update.loop" ⟨[.ref S,.ref I,rawInt ((i:Int)+1),.none],[]⟩) R _
  rw [e1]
  refine ih (i+1) _ (storedH xs e.1 e.2.1 e.2.2) (sW hk) hlt (le_trans (pW _ _ _ _) (by lia -abstractProof)) ?_ hS2 (fun x hx=>rL (p:=fun κ a=>(aN prog w).is h₀ κ a) hxs his hx) (fun b o e=>?_) fun s'' hm'' hS''=>?_
  .refine W.frame _ s' _ _ hst' (le_add_right _ _) fun b hb o e=>?_
   rw [hsb.2 b (fun h:b=S=>hSf (by rw [<-h];exact hb))];exact e
  .rw [hsb.2 b (fun h:b=S=>by rw [h,hS0] at e;cases e)];exact hkp' b o e
  .refine hR s'' (Moved.trans W.gtrans ((hm.mono hsub).then_heap (le_add_right _ _) fun b o hb e=>?_) hm'') hS''
   rw [hsb.2 b (fun h:b=S=>hb (by rw [h];exact mem_cons_self))];exact e
set_option maxRecDepth 100000 in
theorem gg {E:Value->Shared->Prop}{l:Addr}{items:Array Value}{m:Nat}{es:List f8}{Q:Value->Shared->Prop}(hu:A.units+100 < cLine)(hh:A.handled=none)(hl:s.heap.get? l=some {cls:=.type "list",dict:=none,data:=.seq items m,slots:=#[]})(hn:es.length=items.size)(hnl:items.size<=lim)
  (hval:∀(i:Nat) v,items[i]?=some v->F1 prog w s.heap es[i]? v)
  (h:∀(h':Heap) (tk:Nat),h'.DictOfH (aN prog w) s.heap.objs.size (lU es [])->(∀b o,s.heap.get? b=some o->h'.get? b=some o)->Q (.ref s.heap.objs.size) {s with heap:=h',toks:=tk}):
  wpAny (model prog w) A (call (.type "dict") [.ref l]) Q E s:=by
 refine callType_codes (Q₁:=fun obj s₁=>obj=.ref s.heap.objs.size/\s₁={s with heap:=s.heap.push {cls:=.type "dict",data:=.dict #[]}}) F.kt_called_dict (F.kt_typeCall_dict_1 _) F.entry_dict_init (kt_code_dict_new _ ⟨rfl,rfl⟩) ?_
 rintro obj s₁ ⟨rfl,rfl⟩
 have hnew:(s.heap.push {cls:=.type "dict",data:=.dict #[]}).DictOfH (aN prog w) s.heap.objs.size []:=Heap.DictOfH.new s.heap
 have hl':(s.heap.push {cls:=.type "dict",data:=.dict #[]}).get? l=some {cls:=.type "list",dict:=none,data:=.seq items m,slots:=#[]}:=Heap.get?_push_of_some _ hl
 have hlT:Shared.TypeIs {s with heap:=s.heap.push {cls:=.type "dict",data:=.dict #[]}} (.ref l) "list":=⟨_,hl',rfl⟩
 refine ⟨hnew.typeIs,F.args_dict_init_2 _ _,?_⟩
 unfold Builtin.«dict.__init__»
 refine wpAny_bind ?_
 unfold Builtin.Dict.selfAndRest
 refine wpAny_bind (wpAny_notOrdered_dict hnew.typeIs ?_)
 show wpAny _ _ (pure (s.heap.objs.size,[Value.ref l])) _ _ _
 refine wpAny_pure ?_
 show wpAny _ _ (Builtin.Dict.updateFrom "dict.__init__" s.heap.objs.size (.ref l) [] .none) _ _ _
 unfold Builtin.Dict.updateFrom
 refine wpAny_bind (wpAny_typeOf hlT ?_)
 rw [if_pos (by decide)]
 refine wpAny_bind (uP hl' (by simp [hh]) fun h1 tk1 hk1=>?_)
 simp only [Option.isNone_none,if_true]
 refine wpAny_bind (wpAny_rule ?_)
 have hl1:h1.get? l=some {cls:=.type "list",dict:=none,data:=.seq items m,slots:=#[]}:=hk1 _ _ hl'
 have isl:Heap.IsList h1 l items:=⟨_,hl1,rfl,m,rfl⟩
 refine wpAny_bind (wpAny_pyIter_list isl ?_)
 refine wpAny_pure ⟨plainId_quiet cT _,?_⟩
 have hlS:l < s.heap.objs.size:=Heap.lt_size hl
 have hD1:h1.get? s.heap.objs.size≠none:=by
  obtain ⟨o,_,_,e,_⟩:=hnew
  rw [hk1 _ _ e];exact fun q=>by cases q
 have hSs:s.heap.objs.size < h1.objs.size:=by
  cases e:h1.get? s.heap.objs.size with
  |none=>exact absurd e hD1
  |some o=>exact Heap.lt_size e
 have hS0:s.heap.get? s.heap.objs.size=none:=aJ _
 have k1:∀b o,s.heap.get? b=some o->h1.get? b=some o:=fun b o e=>hk1 b o (Heap.get?_push_of_some _ e)
 have hI0:s.heap.get? h1.objs.size=none:=by
  cases q:s.heap.get? h1.objs.size with
  |none=>rfl
  |some o=>have:=k1 _ _ q;rw [aJ] at this;cases this
 have hd1:h1.DictOfH (aN prog w) s.heap.objs.size []:=by
  obtain ⟨o,es,ep,g1,g2,g3,g4,g5,g6⟩:=hnew
  exact ⟨o,es,ep,hk1 _ _ g1,g2,g3,g4,fun x hx=>(by cases hx),g6⟩
 refine uY (by show A.units+1+50 < cLine;lia) ((Walks.list (by simp [hh]) _ l (ne_of_lt (Nat.lt_trans hlS hSs)) items).toS) s.heap.objs.size ?_ s.heap es hn hnl hval hS0 (fun b hb=>by rw [aa hb];exact hI0) (items.size - 0) 0 _ [] (by lia -abstractProof) (zero_le _) (zero_le _) ?_ ?_ (fun x hx=>by cases hx) (fun b o e=>Heap.get?_push_of_some _ (k1 b o e)) fun s' hm hS'=>?_
 .simp only [mem_cons,not_mem_nil,or_false,not_or]
  exact ⟨ne_of_lt hSs,Nat.ne_of_gt hlS⟩
 .exact ⟨⟨_,Heap.get?_push_size _ rfl,rfl,rfl⟩,(isl.push _)⟩
 .obtain ⟨o,es,ep,g1,g2,g3,g4,g5,g6⟩:=hd1
  exact ⟨o,es,ep,Heap.get?_push_of_some _ g1,g2,g3,g4,fun x hx=>(by cases hx),g6⟩
 .obtain ⟨h',g',d',tk',os'⟩:=s'
  have eg:g'=s.gens:=hm.gens
  have ed:d'=s.drawn:=hm.drawn
  have eo:os'=s.os:=hm.os
  subst eg;subst ed;subst eo
  refine ⟨rfl,h h' tk' (by simpa using hS') fun b o e=>?_⟩
  refine hm.heap b o (fun hb=>?_) (Heap.get?_push_of_some _ (k1 b o e))
  rcases an hb with rfl |hb
  .rw [hS0] at e;cases e
  .rw [aa hb,hI0] at e;cases e
end
section
variable {P:Pg} {B:br} {C:Ct} {g:Gh} {h:Heap}
theorem n9 {xs:List f8}{κ:Ky}{a:Addr}{v:Value}(nd:(xs.map (·.1)).Nodup):((storedH xs κ a v).map (·.1)).Nodup:=by
 unfold storedH
 split
 .rw [keys_map_putAt];exact nd
 .rename_i hn
  rw [map_append,nodup_append]
  refine ⟨nd,by simp,fun x hx y hy e=>hn ?_⟩
  rw [List.map_singleton,mem_singleton] at hy
  subst hy;subst e
  rw [mj]
  cases q:oS (xs.map (·.1)) x with
  |none=>
   have:=List.findIdx?_eq_none_iff.mp q x hx
   rw [decide_eq_true rfl] at this;cases this
  |some i=>
   have:=tC q
   rw [getElem?_map] at this
   cases hx':xs[i]? with
   |none=>rw [hx'] at this;cases this
   |some z=>rw [bind_some,hx'];rfl
theorem yT {α:Type}{i:Option Nat}{k v:α}{ks vs:List α}:(lh i k v ks vs).1.length<=ks.length+1:=by
 cases i with
 |none=>rw [lh,List.length_append];exact le_refl _
 |some j=>exact le_succ _
structure EF (P:Pg) (g:Gh) (h:Heap) (nv:Nat) (xs:List Value) (nk:Nat) (zs:List f8) (p:List T×List T) (es:List f8):Prop where
 len:es.length=nv
 at_:∀(i:Nat) v,xs[i]?=some v->F1 P.prog P.w h es[i]? v
 ky:eY p.1=some ((lU es zs).map (·.1))
 rk:aO P g h p.1 ((lU es zs).map fun y=>Value.ref y.2.1)
 rv:aO P g h p.2 ((lU es zs).map (·.2.2))
 le:p.1.length<=nk+nv
theorem nN:∀(vs:List T) (xs:List Value) (ks ws:List T) (zs:List f8) (p:List T×List T),aO P g h vs xs->nJ vs ks ws=some p->eY ks=some (zs.map (·.1))->(zs.map (·.1)).Nodup->aO P g h ks (zs.map fun y=>Value.ref y.2.1)->aO P g h ws (zs.map (·.2.2))->
  ∃es:List f8,EF P g h vs.length xs ks.length zs p es
 | [],xs,ks,ws,zs,p,r,e,hk,nd,rk,rw'=>by
  cases r;cases e
  exact ⟨[],rfl,fun i v q=>(by cases q),hk,rk,rw',le_refl _⟩
 |x::vs,_,ks,ws,zs,p,⟨v0,xs,e0,q,r⟩,e,hk,nd,rk,rw'=>by
  subst e0
  obtain ⟨ps,e1,e2⟩:=az (show o1 (q7 x) _=some p from e)
  cases jI e1
  match ps,e2,q with
  | [k,v],e2,q=>
   obtain ⟨i,hd,e3⟩:=az (show o1 (j6 ks k) _=some p from e2)
   obtain ⟨κ,hky⟩:=jC hd
   obtain ⟨t,rfl,_,us,m,g1,_,u1,l1,hus,q1,u2,l2,e4,q2,e5⟩:=q
   cases e5;subst e4
   obtain ⟨ad,rfl,his,_⟩:=lE hky (.inl q1)
   obtain ⟨p1,p2,p3⟩:=jM (v:=v) (z:=u2) hk nd hd hky rk rw' q1 q2
   obtain ⟨es,h1,h2,h3,h4,h5,h6⟩:=nN vs _ _ _ (storedH zs κ ad u2) p r e3 p1 (n9 nd) p2 p3
   refine ⟨(κ,ad,u2)::es,congrArg (·+1) h1,fun j w hw=>?_,h3,h4,h5,?_⟩
   .cases j with
    |zero=>cases hw;exact ⟨t,_,us,m,rfl,rfl,g1,hus,his⟩
    |succ j=>exact h2 j w hw
   .have:=yT (i:=i) (k:=k) (v:=v) (ks:=ks) (vs:=ws)
    rw [length_cons];lia -abstractProof
theorem aq.dictOf {e:Expr}{p:PE}{np pos:Pos}(hx:B.sc.names.lookup (ofString "dict")=some .globalImplicit)(hn:∀env,starEach [e] env=[(false,eval e env)])(h:aq P B C e p (RX P)):aq P B C (.Call (.Name (ofString "dict") np) [e] [] pos) (p1 tS p) (RN P):=fun n A env g ρ σ s k Q E X hb hq=>
 aq.b1 Cn (fun A env g σ s x t y Q E rm w q e hq=>by
  obtain ⟨xs,e1,e2⟩:=az e
  obtain ⟨p,e3,e4⟩:=az e2
  cases e4
  obtain ⟨l,rfl,vs,n,a1,a3,a2⟩:=q.ls e1
  obtain ⟨es,h1,h2,h3,h4,h5,h6⟩:=nN xs vs.toList [] [] [] p a2 e3 rfl .nil rfl rfl
  have hz:=a2.size
  have hsn:=ke X.good w
  refine gg (es:=es) (by have:=rm.units;lia) rm.handled a1 (by rw [h1];exact hz.symm) (by rw [hz];exact a3) (fun i v hv=>h2 i v (by rw [Array.getElem?_toList];exact hv)) fun h' tk dd hk=>?_
  obtain ⟨n1,n2,n3⟩:=de w
  have pa:aH g s g {s with heap:=h',toks:=tk}:=.grow tk hk g.F (fun _ f=>f) fun _ f=>.inl f
  exact hq _ _ g pa (w.grow hk g.F (fun _ f=>f) fun _ f=>.inl f) ⟨_,rfl,aJ _,n1,n2,n3,C0.back hsn dd h3 (h4.mono (pa.k w)) (h5.mono (pa.k w)) (by rw [length_nil] at h6;lia -abstractProof)⟩)
  (fun _ q=>by cases q) hx (by decide) (by decide) (by decide) hn h n A env g ρ σ s k Q E X hb hq
end
end
end Mine
namespace Mine
noncomputable section
open PySem PySem.W PyProof.Rows
structure FZ (h:Heap) (mg:Str->Option Value) (nm:Str) (sc:Scope) (bd:List Stmt) (ps:List Str) (a:Addr) (fd:FuncData):Prop where
 ns:mg nm=some (.ref a)
 obj:∃o,h.get? a=some o/\o.data=.func fd
 code:h.CodeRec fd.code fd.qualname
 name:fd.name=nm
 sc:fd.scope=sc
 bd:fd.body=.stmts bd
 cl:fd.closure=[]
 gl:fd.globals=mainGlobals
 bt:fd.builtins=builtinsNs
 bind:∀vals:List Value,vals.length=ps.length->bindArgs fd ⟨vals,[]⟩=pure (ps.zip vals)
noncomputable def tP (q:Program)(nm:Str):Option (Scope×List Stmt×Arguments):=((recsOf q).find? fun d=>d.name==nm).map fun d=>(d.scope,d.body,d.params)
theorem zJ {q:Program}{loose:List Str}{mean:ExcName->Option Value}{mg mb:Str->Option Value}{h:Heap}(T:Top q loose mean mg mb h){nm:Str}{sc:Scope}{bd:List Stmt}{pa:Arguments}(ps:List Str)(hr:tP q nm=some (sc,bd,pa))
  (hb:∀(pm cd doc:Value) (vals:List Value),vals.length=ps.length->bindArgs (Calls.docDef nm pa bd sc pm cd doc) ⟨vals,[]⟩=pure (ps.zip vals)):∃a fd,FZ h mg nm sc bd ps a fd:=by
 unfold tP at hr
 obtain ⟨d,hd,e⟩:=av hr
 have hn:d.name=nm:=beq_iff_eq.mp (find?_some (p:=fun d:DefRec=>d.name==nm) hd)
 obtain ⟨a,o,pm,cd,doc,h1,h2,h3,h4⟩:=T.fn d (List.mem_of_find?_eq_some hd)
 simp only [Prod.mk.injEq] at e
 obtain ⟨rfl,rfl,rfl⟩:=e
 subst hn
 exact ⟨a,_,h1,⟨o,h2,h3⟩,h4,rfl,rfl,rfl,rfl,rfl,rfl,hb pm cd doc⟩
noncomputable def tO (q:Program)(loose:List Str)(x:Str):Bool:=!startupNames.contains x&&!loose.contains x&&!((recsOf q).map (·.name)).contains x&&!((litsOf q).map (·.1)).contains x&&!((clssOf q loose).map (·.name)).contains x
theorem zF {q:Program}{loose:List Str}{mean:ExcName->Option Value}{mg mb:Str->Option Value}{h:Heap}(T:Top q loose mean mg mb h){x:Str}(hx:tO q loose x=true):mg x=none:=by
 simp only [tO,and_eq_true,not_eq_true',List.contains_eq_mem,decide_eq_false_iff_not] at hx
 obtain ⟨⟨⟨⟨h1,h2⟩,h3⟩,h4⟩,h5⟩:=hx
 exact T.free x h1 h2 h3 h4 h5
theorem xe {c:ClaimW}{cl:Str->Option Addr}{mean:ExcName->Option Value}{args:List WData}{s₁:Shared}{h:Heap}{tk:Nat}(hr:∀cls,c.raises args cls=false)(hp:c.post args (.bool true) args=true)(hb:AllBare s₁.gens)
  (hk:∀a o,s₁.heap.get? a=some o->h.get? a=some o):GoodWG c cl mean args s₁ (.ok (.ret (.bool true))) {s₁ with heap:=h,toks:=tk}:=
 ⟨.inl ⟨_,_,[],rfl,hr,ReadsW.bool true,hp,fun _=>⟨List.nodup_nil,fun _ hm=>(nomatch hm)⟩⟩,.of_keep hk,rfl,hb⟩
theorem DJ {α:Type}{l:List α}{n:Nat}(h:l.length=n+1):∃a r,l=a::r/\r.length=n:=by
 cases l with
 |nil=>cases h
 |cons a r=>exact ⟨a,r,rfl,Nat.succ.inj h⟩
theorem Bn {Z:Nat->Option gj}{p:Nat->Addr->FuncData->Prop}(h:∀f F,Z f=some F->∃a d,p f a d){f0:Nat}{F0:gj}(h₀:Z f0=some F0):∃(A:Nat->Addr) (D:Nat->FuncData),∀f F,Z f=some F->p f (A f) (D f):=by
 obtain ⟨a0,d0,_⟩:=h f0 F0 h₀
 have h':∀f,∃x:Addr×FuncData,∀F,Z f=some F->p f x.1 x.2:=fun f=>by
  cases e:Z f with
  |none=>exact ⟨(a0,d0),fun F q=>by cases q⟩
  |some F=>
   obtain ⟨a,d,k⟩:=h f F e
   exact ⟨(a,d),fun _ _=>k⟩
 exact ⟨fun f=>(Classical.choose (h' f)).1,fun f=>(Classical.choose (h' f)).2,fun f=>Classical.choose_spec (h' f)⟩
noncomputable def Gl (mg:Str->Option Value)(x:Str):Addr:=match mg x with
 |some (.ref a)=>a
 |_=>0
theorem FP {mg:Str->Option Value}{x:Str}{a:Addr}(h:mg x=some (.ref a)):Gl mg x=a:=by unfold Gl;rw [h]
structure mz (h:Heap) (mg mN:Str->Option Value) (gl:Bool) (nm:Str) (sc:Scope) (bd:List Stmt) (ps:List Str) (a:Addr) (fd:FuncData):Prop where
 ns:gl=true->mg nm=some (.ref a)
 me:gl=false->mN nm=some (.ref a)
 obj:∃o,h.get? a=some o/\o.data=.func fd/\(gl=false->o.cls=.type "function")
 code:h.CodeRec fd.code fd.qualname
 name:fd.name=nm
 sc:fd.scope=sc
 bd:fd.body=.stmts bd
 cl:fd.closure=[]
 gs:fd.globals=mainGlobals
 bt:fd.builtins=builtinsNs
 bind:∀vals:List Value,vals.length=ps.length->bindArgs fd ⟨vals,[]⟩=pure (ps.zip vals)
theorem mz.asMeth {h:Heap}{mg mN:Str->Option Value}{gl:Bool}{nm:Str}{sc:Scope}{bd:List Stmt}{ps:List Str}{a:Addr}{fd:FuncData}(x:mz h mg mN gl nm sc bd ps a fd)(hg:gl=false):(∃o,h.get? a=some o/\o.cls=.type "function")/\mN nm=some (.ref a):=by
 obtain ⟨o,h1,_,h3⟩:=x.obj
 exact ⟨⟨o,h1,h3 hg⟩,x.me hg⟩
theorem zK {q:Program}{loose:List Str}{mean:ExcName->Option Value}{mg mb mN:Str->Option Value}{h:Heap}(T:Top q loose mean mg mb h){nm:Str}{sc:Scope}{bd:List Stmt}{pa:Arguments}(ps:List Str)(hr:tP q nm=some (sc,bd,pa))
  (hb:∀(pm cd doc:Value) (vals:List Value),vals.length=ps.length->bindArgs (Calls.docDef nm pa bd sc pm cd doc) ⟨vals,[]⟩=pure (ps.zip vals)):∃a fd,mz h mg mN true nm sc bd ps a fd:=by
 obtain ⟨a,fd,x⟩:=zJ T ps hr hb
 obtain ⟨o,h1,h2⟩:=x.obj
 exact ⟨a,fd,(fun _=>x.ns),(fun e=>nomatch e),⟨o,h1,h2,(fun e=>nomatch e)⟩,x.code,x.name,x.sc,x.bd,x.cl,x.gl,x.bt,x.bind⟩
noncomputable def l0 (q:Program)(loose:List Str)(x:Str):Option ClsRec:=(plainsOf q loose).find? fun c=>c.name==x
noncomputable def wE (c:ClsRec)(nm:Str):Option (Scope×List Stmt×Arguments):=(c.meths.find? fun m=>m.name==nm).map fun m=>(m.scope,m.body,m.params)
theorem y6 {h:Heap}{c:ClsRec}{C N:Addr}{mg mN:Str->Option Value}(A:PlainAt h c.withCmp C N mN){nm:Str}{sc:Scope}{bd:List Stmt}{pa:Arguments}(ps:List Str)(hr:wE c nm=some (sc,bd,pa))
  (hb:∀(qual:Str) (pm cd doc:Value) (vals:List Value),vals.length=ps.length->bindArgs (methDef nm qual pa bd sc pm cd doc) ⟨vals,[]⟩=pure (ps.zip vals)):∃a fd,mz h mg mN false nm sc bd ps a fd:=by
 unfold wE at hr
 obtain ⟨m,hm,e⟩:=av hr
 have hn:m.name=nm:=beq_iff_eq.mp (find?_some (p:=fun m:MethRec=>m.name==nm) hm)
 obtain ⟨f,o,pm,cd,doc,h1,h2,h3,h4,h5⟩:=A.meths m (List.mem_of_find?_eq_some hm)
 simp only [Prod.mk.injEq] at e
 obtain ⟨rfl,rfl,rfl⟩:=e
 subst hn
 exact ⟨f,_,(fun e=>by cases e),(fun _=>h1),⟨o,h2,h4,fun _=>h3⟩,h5,rfl,rfl,rfl,rfl,rfl,rfl,hb _ pm cd doc⟩
theorem Cr {q:Program}{loose:List Str}{mg:Str->Option Value}{h:Heap}{x:Str}(T:TopE q loose mg h)(hx:(l0 q loose x).isSome=true):∃c C N mN,l0 q loose x=some c/\mg x=some (.ref C)/\PlainAt h c.withCmp C N mN:=by
 obtain ⟨c,hc⟩:=aG hx
 have hn:c.name=x:=beq_iff_eq.mp (find?_some (p:=fun c:ClsRec=>c.name==x) hc)
 obtain ⟨C,N,mN,h1,h2⟩:=T c (List.mem_of_find?_eq_some hc)
 exact ⟨c,C,N,mN,hc,hn▸h1,h2⟩
theorem uE {P:Pg}{c:ClsRec}{C N:Addr}{mN:Str->Option Value}{k:Nat}{ms:List (Str×Nat)}(A:PlainAt P.h₀ c.withCmp C N mN)(hC:P.cls k=C)(ha:(bU k).all (c.statics.contains ·)=true)(ho:∀x∈bU k,typeLookup (.type "object") x=pure none)
  (hm:∀p∈ms,(∃o,P.h₀.get? (P.fnA p.2)=some o/\o.cls=.type "function")/\mN p.1=some (.ref (P.fnA p.2)))(hy:∀p∈ms,∃y,typeLookup (.type "object") p.1=pure y):bo P k ms:=
 ⟨N,mN,hC▸A.cls,A.quiet _ (mem_append_left _ (.tail _ (.head _))),A.quiet _ (mem_append_left _ (.tail _ (.tail _ (.head _)))),A.quiet _ (mem_append_left _ (.head _)),fun x hx=>⟨A.quiet _ (mem_append_right _ (mem_append_left _ (List.contains_iff_mem.mp (aB ha x hx)))),ho x hx⟩,fun p hp=>⟨(hm p hp).2,hy p hp,(hm p hp).1⟩⟩
theorem zA {q:Program}{loose:List Str}{mean:ExcName->Option Value}{P:Pg}(T:Top q loose mean P.mg P.mb P.h₀)(hn:iA.all (tO q loose)=true)
  (hf:∀f F,P.Ψ f=some F->∃mN nm sc bd ps,mz P.h₀ P.mg mN (P.gl f) nm sc bd ps (P.fnA f) (P.fd f)):pL P where
 g:=T.g
 b:=T.b
 nolimit:=T.nolimit
 fn:=fun f F h=>by
  obtain ⟨mN,nm,sc,bd,ps,x⟩:=hf f F h
  obtain ⟨o,e,d,_⟩:=x.obj
  exact ⟨o,e,d,fun g=>by rw [x.name];exact x.ns g,x.code,x.cl,x.gs,x.bt⟩
 blt:=fun x hx=>⟨zF T (aB hn x hx),T.builtins x fun q=>by rw [q] at hx;revert hx;decide⟩
noncomputable def EP (sc:Scope)(tab:List (Option (Str×NameKind)))(ps:List Str)(U:List Nat)(np:Nat):Bool:=
 br.ok ⟨sc,tab⟩&&((List.range ps.length).all (fun i=>match ps[i]?,tab[i]? with
  |some x,some (some (y,k))=>x==y&&(k==.local||k==.cell)
  |_,_=>false)&&(tab.all (fun e=>match e with |some (_,k)=>!(k==.free) |none=>true)&&(decide (((cellsFrom 0 sc.names []).map (·.1)).Nodup)&&(!sc.isCoroutine&&(!sc.isGenerator&&(Nat.beq ps.length np&&U.all (Nat.ble np)))))))
theorem xh {P:Pg}{f np:Nat}{mN:Str->Option Value}{gl:Bool}{nm:Str}{sc:Scope}{bd:List Stmt}{ps:List Str}{tab:List (Option (Str×NameKind))}{U:List Nat}(x:mz P.h₀ P.mg mN gl nm sc bd ps (P.fnA f) (P.fd f))(h:EP sc tab ps U np=true):EB P f np tab ps bd U:=by
 obtain ⟨h1,h⟩:=af h
 obtain ⟨h2,h⟩:=af h
 obtain ⟨h3,h⟩:=af h
 obtain ⟨h4,h⟩:=af h
 obtain ⟨h5,h⟩:=af h
 obtain ⟨h6,h⟩:=af h
 obtain ⟨h7,h8⟩:=af h
 have h7:=eq_of_beq_eq_true h7
 have hs:=x.sc
 refine ⟨x.bd,hs▸h1,h7,fun i y hy=>?_,fun i y ht=>?_,fun vals hv=>x.bind vals (by rw [h7];exact hv),hs▸of_decide_eq_true h4,⟨hs▸(not_eq_true' _).mp h5,hs▸(not_eq_true' _).mp h6⟩,fun i hi=>le_of_ble_eq_true (aB h8 i hi)⟩
 .have:=aB h2 i (bz (aj hy).1)
  rw [hy] at this
  cases ht:tab[i]? with
  |none=>rw [ht] at this;cases this
  |some e=>
   rw [ht] at this
   cases e with
   |none=>cases this
   |some p=>
    obtain ⟨z,k⟩:=p
    simp only [and_eq_true,or_eq_true,beq_iff_eq] at this
    obtain ⟨rfl,hk⟩:=this
    exact ⟨k,rfl,hk⟩
 .have:=aB h3 _ (mem_of_getElem? ht)
  cases this
theorem zI {P:Pg}{f:Nat}{F:gj}{mN:Str->Option Value}{gl:Bool}{nm:Str}{sc:Scope}{bd:List Stmt}{ps:List Str}{tab:List (Option (Str×NameKind))}{U:List Nat}{C':Ct}(x:mz P.h₀ P.mg mN gl nm sc bd ps (P.fnA f) (P.fd f))(h:EP sc tab ps U F.np=true)(sim:gO P ⟨sc,tab⟩ ⟨[],U,rA f⟩ (j4 f) C' bd F.body):vg P f F:=
 ⟨tab,ps,bd,U,C',xh x h,by rw [x.sc];exact sim⟩
theorem gY {q:Program}{loose:List Str}{mean:ExcName->Option Value}{mg mb:Str->Option Value}{h:Heap}{x:Str}{n:Int}{P:Pg}(T:Top q loose mean mg mb h)(hs:valOf q x=some (.int n)):∃u,mg x=some u/\∀g h,Rp P g h (.int n) u:=by
 obtain ⟨v,h1,h2⟩:=T.const x _ hs
 refine ⟨v,h1,fun g h=>?_⟩
 cases h2 h
 exact ⟨_,rfl⟩
theorem u4 {q:Program}{loose:List Str}{mean:ExcName->Option Value}{mg mb:Str->Option Value}{h:Heap}{x:Str}{n:Str}{P:Pg}(T:Top q loose mean mg mb h)(hs:valOf q x=some (.str n))(hn:n.length<=lim/\PyData.strOk n=true):∃u,mg x=some u/\∀g h,Rp P g h (.str n) u:=by
 obtain ⟨v,h1,h2⟩:=T.const x _ hs
 refine ⟨v,h1,fun g h=>?_⟩
 cases h2 h
 exact ⟨⟨hn.2,hn.1⟩,_,rfl⟩
theorem w0:∀{vs:List Value} {ns:List Int},IntsAre vs ns->n4 ns vs
 |_,_,.nil=>rfl
 |_,_,.cons n t r=>⟨t,_,rfl,w0 r⟩
noncomputable abbrev g0 (h:Heap):Gh:=⟨fun a=>h.get? a≠none,fun _=>False,fun _=>none,0,0⟩
noncomputable abbrev g1 (h:Heap)(a:Addr):Gh:=⟨fun a=>h.get? a≠none,fun b=>b=a,fun _=>none,a,0⟩
theorem Bk {P:Pg}{h he:Heap}{s0:Int}{tk:Nat}(hs:P.h₀=h)(keep:∀a o,h.get? a=some o->he.get? a=some o)(w2:∀a o,he.get? a=some o->(he.push (bm #[.int s0 tk] 0)).get? a=some o):bj P (g1 h he.objs.size) (he.push (bm #[.int s0 tk] 0)) ⟨s0,none⟩:=
 have bk:=ch keep
 have pS:=bD (h:=he) (bm #[.int s0 tk] 0)
 ⟨fun a o e=>have e:h.get? a=some o:=hs▸e;⟨au e,w2 a o (keep a o e)⟩,fun a f e=>f (bk a (ch w2 a e)),fun a z=>by rw [show a=_ from z];exact ⟨au pS,fun f=>f (bk _ (aJ _))⟩,(fun a q=>let ⟨_,q⟩:=q;nomatch q),(fun _ _ _ q=>nomatch q),⟨⟨tk,0,pS⟩,rfl,fun _ _ z=>z⟩,fun _ _ q=>nomatch q⟩
theorem Bl {P:Pg}{B:br}{U:List Nat}{env:Env}{h he hh:Heap}{ns:List Int}{m:Nat}(w2:∀a o,he.get? a=some o->hh.get? a=some o)(E1:bZ P B ⟨[],U,false⟩ env (g0 h) (frame [.scr ns] m) he):bZ P B ⟨[],U,false⟩ env (g1 h he.objs.size) (frame [.scr ns] m) hh:=
 {E1 with
  ns:=let ⟨m,n⟩:=E1.ns;⟨m,n.at (w2 _)⟩
  cell:=fun i y k ht hk=>let ⟨c,u,h1,o,e,d⟩:=E1.cell i y k ht hk;⟨c,u,h1,o,w2 _ _ e,d⟩
  own:=fun a ha=>⟨fun e=>(E1.own a ha).1 (ch w2 a e),(E1.own a ha).2.1,fun z=>(E1.own a ha).1 (by rw [show a=_ from z];exact aJ _),fun ⟨_,q⟩=>nomatch q⟩
  var:=fun i y t ht hv=>by
   obtain ⟨u,v,q⟩:=E1.var i y t ht hv
   refine ⟨u,v.move fun a _=>w2 a,?_⟩
   cases i with
   |zero=>cases gV hv;exact .inl (q.elim (fun r=>r) fun r=>nomatch r.1)
   |succ i=>cases gV hv}
noncomputable def AG (Q:Value->Shared->Prop)(r:Result)(s':Shared):Prop:=match r with |.ok (.ret v)=>Q v s' |_=>False
theorem v7 {Q:Value->Shared->Prop}:∀{r:Result} {s':Shared},AG Q r s'->match r with |.ok (.ret x)=>Q x s' |.ok _=>False |.error _=>False
 |.ok (.ret _),_,q=>q
 |.ok .next,_,q=>q
 |.ok .brk,_,q=>q
 |.ok .cont,_,q=>q
 |.error _,_,q=>q
theorem wT {P:Pg}(G:pL P)(hF:∀f F,P.Ψ f=some F->vg P f F){A:Around}{n L m:Nat}{F:gj}{tab:List (Option (Str×NameKind))}{ps:List Str}{bd:List Stmt}{U:List Nat}{C':Ct}{y:Str}{k:NameKind}{s0:Int}{kk:Nat}{q1 q2 q3 q4:Pos}{p:PS}{l:Addr}{vs:List Value}{ns:List Int}{σ:Sg}{s:Shared}
  (hL:P.Ψ L=some F)(K:EB P L 1 tab ps (.Assign [.Name y q1] (.List [.Constant (.int s0) kk q2] q3) q4::bd) U)(ht:tab[1]?=some (some (y,k)))(hk:k=.local\/k=.cell)(hw:vk (.List [.Constant (.int s0) kk q2] q3) y q1 q4.line (P.fd L).scope=false)(hc:ci ⟨[],U,false⟩ 1 false ⟨[],U,false⟩=true)(sim:gO P ⟨(P.fd L).scope,tab⟩ ⟨[],U,false⟩ false C' bd p)
  (hs:P.h₀=s.heap)(room:mw A (n+1))(hl:s.heap.IsList l vs.toArray)(hi:IntsAre vs ns)(hn:ns.length<=63)(hp:p (P.cx n) (frame [.scr ns,.spot] m) ⟨s0,none⟩ (fun _ σ=>.ret .none σ)=.ret (.bool true) σ):
  wpAny P.M A (PySem.call (.ref (P.fnA L)) [.ref l]) (fun v s'=>v=.bool true/\∃h' tk,s'={s with heap:=h',toks:=tk}/\∀a o,s.heap.get? a=some o->h'.get? a=some o) (fun _ _=>False) s:=by
 have hlen:=hi.length
 refine wpAny_call (codeAny_mono (R:=AG fun v s'=>v=.bool true/\∃h' tk,s'={s with heap:=h',toks:=tk}/\∀a o,s.heap.get? a=some o->h'.get? a=some o) (AR (ns:=m+1) (m:=false) (g:=g0 s.heap) (ts:=[.scr ns]) G hL K (lt_of_le_of_lt (le_trans (le_add_right _ _) (le_add_right _ _)) room.1) (fun a o e=>hs▸e) (fun _ h=>h) (fun _ h=>h.elim)
  (show aO P (g0 s.heap) s.heap [.scr ns] [.ref l] from ⟨_,_,rfl,⟨l,_,rfl,by rw [hs];exact hl,by rw [size_toArray];have:lim=1000000:=rfl;lia -abstractProof,w0 hi⟩,rfl⟩) rfl fun s₁ env E' same keep hW E1=>?_) fun r s' q=>?_)
 .refine wpAny_execs_cons (wpAny_Assign_Name (wpAny_List (wpAny_items_cons (wpAny_Constant_int (wpAny_items_nil ⟨(show 1<=sizeLine by decide),?_⟩)) rfl)) (by rw [jv E1.sc,hw]))
  have w2:∀a o,s₁.heap.get? a=some o->(s₁.heap.push (bm #[.int s0 s₁.toks] 0)).get? a=some o:=bO s₁ _
  have X:At P ⟨(P.fd L).scope,tab⟩ ⟨[],U,false⟩ n (A.deeper env) env _ (frame [.scr ns] (m+1)) ⟨s0,none⟩ {s₁ with heap:=s₁.heap.push (bm #[.int s0 s₁.toks] 0),toks:=s₁.toks+1}:=⟨G,sH G hF n,room.deeper _,Bl w2 E1,Bk hs keep w2⟩
  refine gR (t:=.spot) X hc ht hk rfl fun s3 p3 X3=>sim n _ _ _ (frame [.scr ns,.spot] m) ⟨s0,none⟩ s3 (fun _ σ=>.ret .none σ) _ _ X3 (by rw [hp];exact fun q=>by cases q) (fun s' g' j' σ' e p X'=>?_) fun x s' g' t σ' e p w' r'=>?_
  .rw [hp] at e;cases e
  .rw [hp] at e;cases e
   obtain ⟨hj,t4,e4⟩:=St.trans (St.trans same p3.st) p.st
   exact ⟨r',hj,t4,e4,fun a o e=>by have:=(w'.base a o (hs▸e)).2;rw [e4] at this;exact this⟩
 .exact v7 q
end
end Mine
namespace Mine
noncomputable section
open PySem PyProof.Rows PySem.SeqAt
section
variable {P:Pg} {B Bc:br} {C Ci:Ct} {fr:Bool} {c i:Nat} {y name:Str} {k:NameKind} {np apos cpos pos p:Pos} {e:Expr} {pe:PE} {ms:List (Str×Nat)}
theorem bindL (hc:ci C i false Ci=true)(ht:Bc.tab[i]?=some (some (y,.local))):iI P (yh P Bc C Ci (.Name y p) (bx i) (kR none)):=iI.one hc ht (.inl rfl)
theorem bindC (hc:ci C i false Ci=true)(ht:Bc.tab[i]?=some (some (y,.cell))):iI P (yh P Bc C Ci (.Name y p) (bx i) (kR (some y))):=iI.one hc ht (.inr rfl)
theorem aM.app (hv:bi C i=true)(ht:B.tab[i]?=some (some (y,k)))(hline:(apos.endLine==cpos.line)=true)(hbase:∀env,attributeBase (.Name y np) (ofString "append") env (eval (.Name y np) env)=eval (.Name y np) env)(htrees:∀env,backTo cpos (starEach [e] env)=[(false,eval e env)])
  (hw:∀env,swapsWith (.Call (.Attribute (.Name y np) (ofString "append") apos) [e] [] cpos) none pos.line env=pure false)(h:aq P B C e pe (RV P)):aM P B C fr C (.Expr (.Call (.Attribute (.Name y np) (ofString "append") apos) [e] [] cpos) pos) (iL i eV pe):=
 aM.mut (R:=RV P) lM hv ht (fun _ _ _ _ _ r=>r) jJ hbase hline htrees hw h
theorem aM.ext (hv:bi C i=true)(ht:B.tab[i]?=some (some (y,k)))(hline:(apos.endLine==cpos.line)=true)(hbase:∀env,attributeBase (.Name y np) (ofString "extend") env (eval (.Name y np) env)=eval (.Name y np) env)(htrees:∀env,backTo cpos (starEach [e] env)=[(false,eval e env)])
  (hw:∀env,swapsWith (.Call (.Attribute (.Name y np) (ofString "extend") apos) [e] [] cpos) none pos.line env=pure false)(h:aq P B C e pe (RX P)):aM P B C fr C (.Expr (.Call (.Attribute (.Name y np) (ofString "extend") apos) [e] [] cpos) pos) (iL i hU pe):=
 aM.mut (R:=RX P) xb hv ht (fun _ _ _ _ _ r=>r) uX hbase hline htrees hw h
theorem aq.lenF (O:bo P c ms)(hn:(bU c)[i]?=some name)(ht:B.tab[0]?=some (some (y,k)))(hx:B.sc.names.lookup (ofString "len")=some .globalImplicit)(hn':∀env,starEach [.Attribute (.Name y np) name apos] env=[(false,eval (.Attribute (.Name y np) name apos) env)]):aq P B C (.Call (.Name (ofString "len") p) [.Attribute (.Name y np) name apos] [] pos) (p1 bF (ou c i)) (RV P):=
 aq.b1Y jt wK (fun _ q=>by cases q) hx (by decide) (by decide) (by decide) hn' (aq.fld O hn ht)
end
section
variable {P:Pg} {B:br} {C C':Ct} {fr:Bool} {n i j:Nat} {A:Around} {env:Env} {g g':Gh} {ρ:aZ} {σ:Sg} {s s':Shared} {h h':Heap} {y y':Str} {k k':NameKind} {np apos cpos pos:Pos}
theorem xa:vw .list (ofString "pop") "list.pop":=⟨F.slot_list_pop,F.type_list_pop⟩
inductive FX (P:Pg) (g:Gh) (h:Heap) (xs:List T) (vs:Array Value) (t:T):Prop
 |mk (u:Value) (e:vs[vs.size - 1]?=some u) (r:Rp P g h t u) (rs:aO P g h xs.dropLast (vs.eraseIdxIfInBounds (vs.size - 1)).toList) (l:xs.dropLast.length<=xs.length)
theorem uy {xs:List T}{vs:Array Value}{t:T}(r:aO P g h xs vs.toList)(e:xs.getLast?=some t):FX P g h xs vs t:=by
 have hz:=r.size
 rw [List.getLast?_eq_getElem?,<-hz] at e
 obtain ⟨u,hu,q⟩:=r.get e
 rw [Array.getElem?_toList] at hu
 have h1:vs.size - 1 < vs.size:=by rw [hz];have:=(aj e).1;lia
 refine ⟨u,hu,q,?_,by rw [List.length_dropLast];lia⟩
 have e1:vs.eraseIdxIfInBounds (vs.size - 1)=vs.eraseIdx (vs.size - 1) h1:=by rw [Array.eraseIdxIfInBounds,dif_pos h1]
 rw [e1,Array.toList_eraseIdx,List.eraseIdx_eq_take_drop_succ,List.dropLast_eq_take,hz,List.drop_of_length_le (by rw [Array.length_toList,hz];lia -abstractProof),append_nil]
 exact r.take _
theorem aM.pop {zs:List g8}{kt:Nat}{pt:Pos}(hz:AI B C zs=true)(hv:bi C j=true)(ht:B.tab[j]?=some (some (y,k)))(hs:∀env,swapsWithSole [.Tuple (zs.map g8.e) kt pt] (.Call (.Attribute (.Name y np) (ofString "pop") apos) [] [] cpos) pos.line env=pure false)(hw:∀env,swappedStores [.Tuple (zs.map g8.e) kt pt] (.Call (.Attribute (.Name y np) (ofString "pop") apos) [] [] cpos) env=pure none)
  (hbase:∀env,attributeBase (.Name y np) (ofString "pop") env (eval (.Name y np) env)=eval (.Name y np) env)(hline:(apos.endLine==cpos.line)=true):aM P B C fr C (.Assign [.Tuple (zs.map g8.e) kt pt] (.Call (.Attribute (.Name y np) (ofString "pop") apos) [] [] cpos) pos) (yV j (zs.map (·.i))):=fun n A env g ρ σ s kk Q E X hb hq hr=>by
 obtain ⟨ρ',e⟩:=bV hb
 obtain ⟨x,e0,e1⟩:=az e
 obtain ⟨xs,e2,e3⟩:=az e1
 obtain ⟨t,e4,e5⟩:=az e3
 obtain ⟨ts,e6,e7⟩:=az e5
 cases eU e2
 cases jI e6
 obtain ⟨u,va,q⟩:=X.env.var j _ _ ht e0
 unfold bw at q
 rw [hv] at q
 obtain ⟨a,rfl,oi,vs,m,a1,a3,a2⟩:=q
 obtain ⟨u,hu,ru,rs,l⟩:=uy a2 e4
 refine Assign_Tuple (wpAny_Call_method0_late (hbase env) hline (bh X ht va ⟨_,_,MK.plain .list,xa.slot,xa.ty,⟨_,a1,rfl⟩,fun b e=>⟨_,Value.ref.inj e▸a1,rfl⟩,PySem.P.pop_list a1 hu ?_ (bb (by rw [a2.size];exact a3))⟩)) (hs env) (hw env)
 obtain ⟨pS,X'⟩:=kh (y:=.lst xs.dropLast) X hv (by rw [e0];exact fun q=>by cases q) oi va (Heap.SameBut.update s.heap a (Obj.mapSeq fun v=>v.eraseIdxIfInBounds (vs.size - 1))).2 (fun kf=>⟨_,_,IsL.update a1 (fun v=>v.eraseIdxIfInBounds (vs.size - 1)),le_trans l a3,rs.mono kf⟩) s.toks
 have kf:aR g s.heap g (s.heap.update a (Obj.mapSeq fun v=>v.eraseIdxIfInBounds (vs.size - 1))):=pS.k X.g fun b hb=>(X.env.own b hb).2.1
 obtain ⟨b,rfl,f,us,m',b1,_,rb⟩:=Rp.mono kf ru
 exact iC hz e7 X' b1 rb fun s' p' X''=>hq s' g ρ' σ (by unfold yV;rw [e];rfl) (pS.trans p'.toS) X''
theorem aM.pop0 {px cp:Pos}{kk:Nat}(hv:bi C j=true)(ht:B.tab[j]?=some (some (y,k)))(hc:ci C i false C=true)(ht':B.tab[i]?=some (some (y',k')))(hk:k'=.local\/k'=.cell)(hw:vk (.Call (.Attribute (.Name y np) (ofString "pop") apos) [.Constant (.int 0) kk cp] [] cpos) y' px pos.line B.sc=false)
  (hbase:∀env,attributeBase (.Name y np) (ofString "pop") env (eval (.Name y np) env)=eval (.Name y np) env)(hline:(apos.endLine==cpos.line)=true)(htrees:∀env,backTo cpos (starEach [.Constant (.int 0) kk cp] env)=[(false,eval (.Constant (.int 0) kk cp) env)]):
  aM P B C fr C (.Assign [.Name y' px] (.Call (.Attribute (.Name y np) (ofString "pop") apos) [.Constant (.int 0) kk cp] [] cpos) pos) (qi j i):=fun n A env g ρ σ s kk Q E X hb hq hr=>by
 obtain ⟨ρ',e⟩:=bV hb
 obtain ⟨x,e0,e1⟩:=az e
 obtain ⟨xs,e2,e3⟩:=az e1
 obtain ⟨t,e4,e5⟩:=az e3
 cases eU e2
 cases e5
 obtain ⟨u,va,q⟩:=X.env.var j _ _ ht e0
 unfold bw at q
 rw [hv] at q
 obtain ⟨a,rfl,oi,vs,m,a1,a3,a2⟩:=q
 cases xs with
 |nil=>cases e4
 |cons x xs=>
  cases e4
  obtain ⟨z,us,hus,rz,ru⟩:=id a2
  have h0:0 < vs.size:=by rw [a2.size];exact Nat.zero_lt_succ _
  have hz0:vs[0]?=some z:=by rw [<-Array.getElem?_toList,hus];rfl
  have hup:(vs.eraseIdxIfInBounds 0).toList=us:=by
   have e1:vs.eraseIdxIfInBounds 0=vs.eraseIdx 0 h0:=by rw [Array.eraseIdxIfInBounds,dif_pos h0]
   rw [e1,Array.toList_eraseIdx,hus];rfl
  refine wpAny_Assign_Name (lu xa hbase hline htrees (bh X ht va ⟨su (K:=.list) a1 rfl rfl,wpAny_Constant_int (call_meets F.slot_list_pop ⟨_,a1,rfl⟩ F.entry_list_pop (F.args_list_pop_2 _ _) (PySem.MeetsSeq.list_pop_at a vs m 0 _ 0 z (by decide) ?_ hz0 (bb (by rw [a2.size];exact a3))) ⟨a1,?_⟩)⟩)) (by rw [jv X.env.sc,hw])
  .have h1:(0:Int) < vs.size:=cD h0
   show (if (decide ((0:Int)<=0)&&decide ((0:Int) < vs.size))=true then some (0:Int).toNat else none)=some 0
   rw [decide_eq_true h1];rfl
  .obtain ⟨pS,X'⟩:=kh (y:=.lst xs) X hv (by rw [e0];exact fun q=>by cases q) oi va (Heap.SameBut.update s.heap a (Obj.mapSeq fun v=>v.eraseIdxIfInBounds 0)).2 (fun kf=>⟨_,_,IsL.update a1 (fun v=>v.eraseIdxIfInBounds 0),Nat.le_of_succ_le a3,by rw [hup];exact ru.mono kf⟩) (s.toks+1)
   have kf:aR g s.heap g (s.heap.update a (Obj.mapSeq fun v=>v.eraseIdxIfInBounds 0)):=pS.k X.g fun b hb=>(X.env.own b hb).2.1
   exact gR X' hc ht' hk (Rp.mono kf rz) fun s' p' X''=>hq s' g _ σ (by unfold qi;rw [e];rfl) (pS.trans (p'.toS.weak c9)) X''
theorem aO.rep {xs:List T}{vs:List Value}(r:aO P g h xs vs):∀k:Nat,aO P g h (replicate k xs).flatten (replicate k vs).flatten
 | 0=>rfl
 |k+1=>by
  rw [List.replicate_succ,List.replicate_succ,flatten_cons,flatten_cons]
  exact aO.append (aO.rep r k) r
theorem Dz:pK P (Ak P (binaryOp .Mult)) Bq (RN P):=fun A env g σ s x x' t t' y Q E rm w q q' e hq=>by
 unfold Bq at e
 obtain ⟨xs,k,e1,e2,e3⟩:=aU e
 obtain ⟨c,rfl⟩:=cC e3
 obtain ⟨c1,c23⟩:=af c
 obtain ⟨c2,c3⟩:=af c23
 have h0:=of_decide_eq_true c1
 have h1:=of_decide_eq_true c2
 have h2:=le_of_ble_eq_true c3
 obtain ⟨l,rfl,vs,n,a1,a3,a2⟩:=q.ls e1
 obtain ⟨u,rfl⟩:=q'.i e2
 have hz:=a2.size
 have q1:k.toNat<=1000:=by lia -abstractProof
 have hz':vs.size * k.toNat<=1000000:=Nat.mul_le_mul (hz▸h2) q1
 refine wpAny_binaryOp_repeat_ref (T:="list") (U:="int") (by decide) ⟨_,a1,rfl⟩ (fun s'=>typeIs_int s' k u) noFill_list_mul F.fills_int_mul F.slot_int_rmul repeat_list F.slot_int_index.lookup
  (call_meets F.slot_int_rmul (typeIs_int s k u) F.entry_int_rmul (F.args_int_rmul_2 _ _) (lm_int_rmul_list_any k u l vs n _ _)
   ⟨a1,rfl,⟨_,a1,rfl⟩,call_meets F.slot_list_mul ⟨_,a1,rfl⟩ F.entry_list_mul (F.args_list_mul_2 _ _)
    (lm_list_mul_any l vs n _ _ k u (by simp [Builtin.List.listFitsIndex];lia -abstractProof) (by lia) (by simp [Builtin.List.listTooLong,sizeLine];lia))
    ⟨a1,?_⟩⟩)
 rw [listMul_foldl_if]
 refine tA w (a2.rep k.toNat) ?_ hq
 rw [<-(a2.rep k.toNat).length,List.length_flatten,List.map_replicate,List.sum_replicate_nat,Array.length_toList,Nat.mul_comm]
 exact hz'
theorem zM {a b:Int}(ha:sm a=true)(hb:sm b=true):0<=Builtin.Range.rangeSize a b (-1)/\Builtin.Range.small a b (-1)=true:=by
 have e:Builtin.Range.rangeSize a b (-1)=if b < a then (a - b - 1) / 1+1 else 0:=if_neg (by decide)
 have h:=Ax hb ha
 rw [<-e] at h
 exact ⟨h.1,F9 ha hb (by decide) h (Int.add_zero b)⟩
theorem fq.down {es:List Expr}{ps:PL}{p pos:Pos}{mk:Around->Addr->List T->List Addr->List Addr->(Nat->Gh->Heap->Prop)->Prop}(hb:iI P mk)(hx:B.sc.names.lookup (ofString "range")=some .globalImplicit)(h:gp P B C es ps):fq P B C (.Call (.Name (ofString "range") p) es [] pos) mk (EN ps):=fun n A env g ρ σ s k Q E X hbad hq=>by
 refine Call_Name rfl (X.blt hx (by decide) (by decide) (v:=.type "range") (by decide) (bf (fun _ q=>by cases q) (bA (h.pl env)) (h.sim pos n A env g ρ σ s (fun ts σ=>up (FJ ts) σ k) _ E X hbad fun xs s₁ g1 ts σ₁ e pp w r=>?_)))
 obtain ⟨l,e'⟩:=bV fun q=>hbad (e.trans q)
 have ek:EN ps (P.cx n) ρ σ k=k l σ₁:=e.trans (by rw [e'];rfl)
 unfold FJ at e'
 match ts,e',r with
 | [m,n',l'],e',r=>
  obtain ⟨a,b,e1,e2,e3⟩:=aU (show o2 (iD m) (iD n') _=some l from e')
  obtain ⟨c,e4,e5⟩:=az e3
  obtain ⟨q,rfl⟩:=cC (show (bif (sm a&&sm b&&decide (c=-1))&&cm (cV a b (-1)).length then some (cV a b (-1)) else none)=some l from e5)
  obtain ⟨q,c2⟩:=af q
  obtain ⟨q,c5⟩:=af q
  obtain ⟨c3,c4⟩:=af q
  obtain rfl:=of_decide_eq_true c5
  obtain ⟨_,_,rfl,r1,_,_,e6,r2,_,_,e7,r3,e8⟩:=r
  subst e6;subst e7;cases e8
  obtain ⟨t,rfl⟩:=dY.i (.inl r1) e1
  obtain ⟨u,rfl⟩:=dY.i (.inl r2) e2
  obtain ⟨v,rfl⟩:=dY.i (.inl r3) e4
  obtain ⟨hsz,hsm⟩:=zM c3 c4
  refine call_range_3 (by decide) ?_ (.inl (PyProof.noPylong_small (by decide)))
  refine wpAny_pyIter_range (IsRange.new s₁.heap a b (-1) t u v) hsm ?_
  obtain ⟨p',w',_⟩:=oH (X:={cls:=.type "range",data:=.fields #[.int a t,.int b u,.int (-1) v]}) (tk:=s₁.toks) w pp
  obtain ⟨p'',w'',v''⟩:=oH (s₁:={s₁ with heap:=s₁.heap.push {cls:=.type "range",data:=.fields #[.int a t,.int b u,.int (-1) v]},toks:=s₁.toks}) (X:={cls:=.type "range_iterator",data:=.fields #[rawInt a,rawInt (Builtin.Range.rangeSize a b (-1)),rawInt (-1)]}) (tk:=s₁.toks) w' p'
  refine hq _ g1 _ σ₁ _ _ [] _ ek p'' w'' (hb.make (my.range X.room.2.2 (Builtin.Range.rangeSize a b (-1)).toNat rfl)) ⟨zero_le _,?_⟩ v'' (fun _ q=>nomatch q) (fT c2)
  have e1:a+((0:Nat):Int) * (-1)=a:=by simp
  have e2:(((Builtin.Range.rangeSize a b (-1)).toNat:Int) - ((0:Nat):Int))=Builtin.Range.rangeSize a b (-1):=by lia -abstractProof
  show IsRangeIter _ _ _ _ _
  rw [e1,e2];exact bD _
end
noncomputable def tf {α:Type}(lo hi st:Option Int)(xs:List α):List α:=
 (sliceRange (sliceBounds lo hi st xs.length).1 (sliceBounds lo hi st xs.length).2.1 (sliceBounds lo hi st xs.length).2.2).filterMap (xs[·]?)
section
variable {P:Pg} {B:br} {C:Ct} {A:Around} {g:Gh} {h:Heap}
theorem uB (items:Array Value)(lo hi st:Option Int):slicePick items lo hi st=(tf lo hi st items.toList).toArray:=by
 simp [slicePick,tf]
theorem qd {α:Type}(xs:List α):∀m,m<=xs.length->(List.range m).filterMap (fun k=>xs[xs.length - 1 - k]?)=xs.reverse.take m
 | 0,_=>rfl
 |m+1,h=>by
  rw [List.range_succ,List.filterMap_append,qd xs m (Nat.le_of_succ_le h),List.take_add_one,List.getElem?_reverse (by lia -abstractProof)]
  have:∀f:Nat->Option α,List.filterMap f [m]=(f m).toList:=fun f=>by rw [List.filterMap_cons];cases f m<;>rfl
  rw [this]
theorem wg {α:Type}(xs:List α):tf none none (some (-1)) xs=xs.reverse:=by
 unfold tf
 have e:sliceRange (sliceBounds none none (some (-1)) xs.length).1 (sliceBounds none none (some (-1)) xs.length).2.1 (sliceBounds none none (some (-1)) xs.length).2.2=(List.range xs.length).map fun k=>xs.length - 1 - k:=by
  show sliceRange ((xs.length:Int) - 1) (-1) (-1)=_
  unfold sliceRange
  rw [if_neg (by decide)]
  have:((if (xs.length:Int) - 1 > -1 then ((xs.length:Int) - 1 - -1 - -1 - 1) / -(-1) else 0)).toNat=xs.length:=by
   rw [show -(-1:Int)=1 from rfl,ediv_one,show (xs.length:Int) - 1 - -1 - -1 - 1=xs.length by lia]
   rcases Nat.eq_zero_or_pos xs.length with q |q
   .rw [q];rfl
   .rw [if_pos (show (xs.length:Int) - 1 > -1 by lia)];rfl
  simp only [this]
  refine map_congr_left fun k hk=>?_
  have:=dA hk
  lia -abstractProof
 rw [e,List.filterMap_map]
 exact (qd xs xs.length (le_refl _)).trans (by rw [<-length_reverse,take_length])
theorem aO.reverse {ts:List T}{vs:List Value}(r:aO P g h ts vs):aO P g h ts.reverse vs.reverse:=aO.of (by rw [length_reverse,length_reverse];exact r.length) fun i v t h1 h2=>by
 have l2:=(aj h2).1
 rw [length_reverse] at l2
 rw [List.getElem?_reverse (r.length.symm▸l2),r.length] at h1
 rw [List.getElem?_reverse l2] at h2
 obtain ⟨v',e,q⟩:=r.get h2
 rw [h1] at e;cases e;exact q
theorem aq.rev {a:Expr}{pa:PE}{kc:Nat}{pc pu ps pos:Pos}(ha:aq P B C a pa (RX P)):aq P B C (.Subscript a (.Slice Option.none Option.none (some (.UnaryOp .USub (.Constant (.int 1) kc pc) pu)) ps) pos) (p1 v6 pa) (RV P):=
 (ha.bind (N:=fun A env x Q E s=>wpAny P.M A (eval (.Slice Option.none Option.none (some (.UnaryOp .USub (.Constant (.int 1) kc pc) pu)) ps) env) (fun y s2=>wpAny P.M A (subscriptTail a (.Slice Option.none Option.none (some (.UnaryOp .USub (.Constant (.int 1) kc pc) pu)) ps) x y) Q E s2) E s) (F:=fun _ _ k t σ=>up (v6 t) σ k) (R':=RV P) jt
  fun n A env g g1 ρ σ s s₁ x t k Q E p X r hb hq=>by
   obtain ⟨u,e⟩:=bV hb
   obtain ⟨xs,e1,e2⟩:=az e
   cases e2
   rw [arm_eval_Slice]
   refine wpAny_bind (wpAny_pure (wpAny_bind (wpAny_holding (wpAny_pure (wpAny_bind (wpAny_holding ?_))))))
   refine aq.neg (dB.vx aq.int) n A env g1 ρ σ s₁ (fun t σ=>.ret t σ) _ _ X (fun q=>by cases q) fun v s2 g2 t2 σ₂ ed pd w2 r2=>?_
   cases ed
   obtain ⟨tk,rfl⟩:=r2
   refine wpAny_newObj_type ?_ (by show (3:Nat)<=sizeLine+2;decide)
   have p3:aH g2 s2 g2 {s2 with heap:=s2.heap.push {cls:=.type "slice",data:=.fields #[.none,.none,.int (-1) tk]},toks:=s2.toks}:=.push _ _
   obtain ⟨l,rfl,vs,m,b1,b3,b2⟩:=(im.post w2 p3 (im.post X.g pd r)).y.ls e1
   refine tail_any ⟨_,b1,rfl⟩ slot_list_getitem.lookup (wpAny_getItem_list_slice (lo:=Option.none) (hi:=Option.none) (st:=some (-1)) ⟨_,b1,rfl,m,rfl⟩ (Heap.IsSliceOf.new s2.heap _ _ _) .none .none (.int _ _) (by decide) ?_ (bb (b2.size▸b3))) rfl
   rw [uB,wg]
   exact jb (tk:=s2.toks) (s:={s2 with heap:=s2.heap.push {cls:=.type "slice",data:=.fields #[.none,.none,.int (-1) tk]},toks:=s2.toks}) (w2.push _) b2.reverse (by rw [length_reverse];exact b3) fun u s' g' p w r=>hq u s' g' _ σ (by rw [e];rfl) ((pd.trans p3).trans p) w r).map fun _ _ _ _ _=>Subscript_
theorem yA {z C D:Addr}{fp wr:List Addr}{n:Nat}{bs cs:Nat->Bool}{Pt:Nat->Array Value->Prop}{St:Nat->Heap->Prop}{Mid:Nat->Addr->Heap->Prop}{cenv:Env}{x1 x2:Str}{p1 p2 pt:Pos}{kt:Nat}{iter elt:Expr}{scope:Scope}{pos:Pos}{f:Bool->Bool->Bool}
  (W:WalksT P.prog P.w A z fp wr n Pt St Mid)(hPt:∀i v,Pt i v->v=#[.bool (bs i),.bool (cs i)])(hh:A.handled=none)(hC:cenv.locals=C)(hkd:cenv.scope.kind=.function)(hk1:cenv.kindOf x1=some .local)(hk2:cenv.kindOf x2=some .local)(hx:x1≠x2)
  (hCf:C∉fp)(hDf:D∉fp)(hDC:D≠C)(hn:n<=lim)
  (helt:∀s m b c (Q:Value->Shared->Prop) (E:Value->Shared->Prop),s.heap.Ns C m->m x1=some (.bool b)->m x2=some (.bool c)->Q (.bool (f b c)) s->wpAny P.M A (eval elt cenv) Q E s):
  ∀(k i:Nat) (s:Shared) (acc:Array Value) (cnt:Nat) (m:Str->Option Value) (R:Result->Shared->Prop),n - i=k->i<=n->St i s.heap->s.heap.Ns C m->IsL s.heap D acc cnt->acc.size=i->
   (∀h' tk acc' cnt' m',(∀b o,b∉wr->b≠C->b≠D->s.heap.get? b=some o->h'.get? b=some o)->h'.Ns C m'->IsL h' D acc' cnt'->acc'.toList=acc.toList++(range' i (n - i)).map (fun j=>Value.bool (f (bs j) (cs j)))->R (.ok .next) {s with heap:=h',toks:=tk})->
   codeAny P.M A (.compLoop (.ListComp elt [⟨.Tuple [.Name x1 p1,.Name x2 p2] kt pt,iter,[],0⟩] scope pos) 0 (.ref z) (.ref D) cenv) R s:=by
 have hp:(cenv.scope.kind==.class||(cenv.scope.kind==.module&&cenv.locals !=cenv.globals))=false:=by rw [hkd];rfl
 have hCw:C∉wr:=fun q=>hCf (W.sub C q)
 have hDw:D∉wr:=fun q=>hDf (W.sub D q)
 intro k
 induction k with
 |zero=>
  intro i s acc cnt m R hk hi hst hns hD hacc hR
  obtain rfl:i=n:=le_antisymm hi (Nat.le_of_sub_eq_zero hk)
  refine codeAny_of_tree ?_
  show wpAny P.M A ((compTurn (.ListComp elt [⟨.Tuple [.Name x1 p1,.Name x2 p2] kt pt,iter,[],0⟩] scope pos) 0 (.ref z) (.ref D) cenv).onRaise (fun x=>do noteFrame x cenv;theTreesLotGoes x)) _ _ s
  refine wpAny_noted ?_
  rw [compTurn_list]
  refine wpAny_bind (wpAny_standAt (wpAny_bind (W.done s _ _ hst fun h' tk hkp=>wpAny_pure ?_)))
  refine hR h' tk acc cnt m (fun b o hb _ _ e=>hkp b o hb e) (hns.at' fun o e=>hkp C o hCw e) (hkp D _ hDw hD) (by simp)
 |succ k ih=>
  intro i s acc cnt m R hk hi hst hns hD hacc hR
  have hlt:i < n:=Nat.lt_of_sub_eq_succ hk
  refine codeAny_of_tree ?_
  show wpAny P.M A ((compTurn (.ListComp elt [⟨.Tuple [.Name x1 p1,.Name x2 p2] kt pt,iter,[],0⟩] scope pos) 0 (.ref z) (.ref D) cenv).onRaise (fun x=>do noteFrame x cenv;theTreesLotGoes x)) _ _ s
  refine wpAny_noted ?_
  rw [compTurn_list]
  refine wpAny_bind (wpAny_standAt (wpAny_bind (W.item i s _ _ hlt hst fun T vals hc tk1 hP hT hTup hM ka=>?_)))
  obtain rfl:=hPt i vals hP
  refine wpAny_bind (W.go _ _ _ i T _ _ _ hM fun hd hst2 kb=>?_)
  have hTw:T∉wr:=W.apart _ _ _ hM
  have hTup2:hd.IsTuple T #[.bool (bs i),.bool (cs i)]:=hTup.at fun o e=>kb T o hTw e
  refine wpAny_bind (wpAny_assign_Tuple hh hTup2 rfl rfl fun he k3=>?_)
  have k3':∀b o,hd.get? b=some o->he.get? b=some o:=fun b o e=>k3 b o (fun q=>by rw [q] at e;exact absurd (Heap.lt_size e) (lt_irrefl _)) e
  have hn3:he.Ns C m:=hns.at' fun o e=>k3' C o (kb C o hCw (ka C o hCw e))
  show wpAny P.M A (holding _ (assign (.Name x1 p1) cenv (.bool (bs i))) >>=fun _=>holding _ (assign (.Name x2 p2) cenv (.bool (cs i))) >>=fun _=>pure ()) _ _ _
  subst hC
  refine wpAny_bind (wpAny_holding (wpAny_assign_Name (wpAny_storeName_local hk1 hn3 (fun hf hn4 hs4=>?_) hp)))
  refine wpAny_bind (wpAny_holding (wpAny_assign_Name (wpAny_storeName_local hk2 hn4 (fun hg hn5 hs5=>?_) hp)))
  have kk:∀b o,b∉wr->b≠cenv.locals->s.heap.get? b=some o->hg.get? b=some o:=fun b o hb hbC e=>(hs5.2 b hbC).trans ((hs4.2 b hbC).trans (k3' b o (kb b o hb (ka b o hb e))))
  have hD5:IsL hg D acc cnt:=kk D _ hDw hDC hD
  have hst5:St (i+1) hg:=W.frame _ _ _ hst2 fun b hb o e=>by
   have hbC:b≠cenv.locals:=fun q=>hCf (q▸hb)
   exact (hs5.2 b hbC).trans ((hs4.2 b hbC).trans (k3' b o e))
  refine wpAny_pure (wpAny_bind (wpAny_tests_nil ?_))
  rw [if_pos rfl]
  refine wpAny_bind (wpAny_bind (helt _ _ (bs i) (cs i) _ _ hn5 (by simp [hx]) (by simp) ?_))
  refine wpAny_bind (eA hD5 (wpAny_pure (wpAny_pure ⟨rfl,?_⟩)) (bb (by lia -abstractProof)))
  have hs6:Heap.SameBut D hg (hg.update D (Obj.mapSeq fun a=>a.push (.bool (f (bs i) (cs i))))):=Heap.SameBut.update ..
  refine ih (i+1) _ _ _ _ R (sW hk) hlt (W.frame _ _ _ hst5 fun b hb o e=>(hs6.2 b fun q=>hDf (q▸hb)).trans e) (hn5.sameBut hs6 (Ne.symm hDC)) (IsL.update hD5 _) (by simp [hacc]) fun h' tk acc' cnt' m' kf hn' hD' hacc'=>?_
  refine hR h' tk acc' cnt' m' (fun b o hb hbC hbD e=>kf b o hb hbC hbD ((hs6.2 b hbD).trans (kk b o hb hbC e))) hn' hD' ?_
  rw [hacc',Array.toList_push,List.append_assoc]
  congr 1
  have:n - i=(n - (i+1))+1:=by rw [hk,sW hk]
  rw [this,range'_succ];rfl
theorem uf (f:Bool->Bool->Bool)(bs cs:List Bool):(range' 0 (min bs.length cs.length)).map (fun j=>Value.bool (f (bs[j]?.getD false) (cs[j]?.getD false)))=(zipWith f bs cs).map Value.bool:=by
 apply ext_getElem
 .simp
 .intro i h1 h2
  simp at h1 h2
  have l1:i < bs.length:=by lia
  have l2:i < cs.length:=by lia
  simp [getElem?_eq_getElem l1,getElem?_eq_getElem l2]
noncomputable def n5 (P:Pg)(scope:Scope)(x1 x2:Str)(elt:Expr)(f:Bool->Bool->Bool):Prop:=
 ∀(A:Around) (env:Env) s m b c (Q:Value->Shared->Prop) (E:Value->Shared->Prop),env.scope.kind=.function->env.kindOf x1=some .local->env.kindOf x2=some .local->s.heap.Ns env.locals m->m x1=some (.bool b)->m x2=some (.bool c)->Q (.bool (f b c)) s->wpAny P.M A (eval elt env) Q E s
theorem n5.and {scope:Scope}{x1 x2:Str}{p q r:Pos}(h1:(x1==("__debug__":Str))=false)(h2:(x2==("__debug__":Str))=false):n5 P scope x1 x2 (.BoolOp .And [.Name x1 p,.Name x2 q] r) (·&&·):=fun A env s m b c Q E hk k1 k2 hn e1 e2 h=>by
 refine wpAny_And2 (wpAny_Name (wpAny_loadName_local hk k1 hn e1 (wpAny_truthy_bool ?_)) h1)
 cases b with
 |true=>exact wpAny_Name (wpAny_loadName_local hk k2 hn e2 h) h2
 |false=>exact h
theorem n5.or {scope:Scope}{x1 x2:Str}{p q r:Pos}(h1:(x1==("__debug__":Str))=false)(h2:(x2==("__debug__":Str))=false):n5 P scope x1 x2 (.BoolOp .Or [.Name x1 p,.Name x2 q] r) (·||·):=fun A env s m b c Q E hk k1 k2 hn e1 e2 h=>by
 refine wpAny_Or2 (wpAny_Name (wpAny_loadName_local hk k1 hn e1 (wpAny_truthy_bool ?_)) h1)
 cases b with
 |true=>exact h
 |false=>exact wpAny_Name (wpAny_loadName_local hk k2 hn e2 h) h2
theorem iz:∀{xs:List T} {vs:List Value} {bs:List Bool},aO P g h xs vs->pH xs=some bs->vs=bs.map Value.bool
 | [],_,_,r,e=>by cases r;cases e;rfl
 |t::xs,_,_,⟨v,vs,e0,q,r⟩,e=>by
  obtain ⟨b,bs,e1,e2,e3⟩:=aU e
  cases e3
  rw [e0,iz r e2,dY.b (.inl q) e1];rfl
theorem nQ:∀(bs:List Bool),aO P g h (bs.map T.bool) (bs.map Value.bool)
 | []=>rfl
 |b::r=>aO.cons rfl (nQ r)
inductive Ey (P:Pg) (h:Heap) (f:Bool->Bool->Bool) (t:T) (u v:Value):Prop
 |mk (l1 l2:Addr) (vs ws:Array Value) (nv nw:Nat) (bs cs:List Bool) (h0:u=.ref l1) (h1:v=.ref l2) (h2:h.get? l1=some (bm vs nv)) (h3:h.get? l2=some (bm ws nw)) (h4:vs=(bs.map Value.bool).toArray) (h5:ws=(cs.map Value.bool).toArray) (h6:bs.length<=lim) (h7:t=.lst ((zipWith f bs cs).map T.bool))
theorem ug {a b t:T}{u v:Value}{f:Bool->Bool->Bool}(ra:dY P g h a u)(rb:dY P g h b v)(e:yz f a b=some t):Ey P h f t u v:=by
 obtain ⟨xs,ys,e1,e2,e3⟩:=aU e
 obtain ⟨bs,cs,e4,e5,e6⟩:=aU e3
 cases e6
 obtain ⟨l1,rfl,vs,nv,a1,a3,a2⟩:=ra.ls e1
 obtain ⟨l2,rfl,ws,nw,b1,b3,b2⟩:=rb.ls e2
 have hv:=iz a2 e4
 refine ⟨l1,l2,vs,ws,nv,nw,bs,cs,rfl,rfl,a1,b1,by rw [<-hv],by rw [<-iz b2 e5],?_,rfl⟩
 have:=a2.length
 rw [hv,length_map] at this
 rw [this];exact a3
theorem aq.zip {e1 e2 elt:Expr}{d1 d2:PE}{x1 x2:Str}{p1 p2 pt p cp:Pos}{kt:Nat}{scope:Scope}{pos:Pos}{f:Bool->Bool->Bool}(hel:n5 P scope x1 x2 elt f)(hkind:scope.kind=.function)(hnames:∀x∈scope.names,x.2=.local->scope.names.lookup x.1=some .local)(hnocell:∀x∈scope.names,x.2≠.cell)
  (hnofree:∀x∈scope.names,x.2≠.free)(hx1:scope.names.lookup x1=some .local)(hx2:scope.names.lookup x2=some .local)(hx:x1≠x2)(hz:B.sc.names.lookup (ofString "zip")=some .globalImplicit)(hn1:∀env,starEach [e1,e2] env=(false,eval e1 env)::starEach [e2] env)(hn2:∀env,starEach [e2] env=[(false,eval e2 env)])(h1:aq P B C e1 d1 (RX P))(h2:aq P B C e2 d2 (RX P)):
  aq P B C (.ListComp elt [⟨.Tuple [.Name x1 p1,.Name x2 p2] kt pt,.Call (.Name (ofString "zip") p) [e1,e2] [] cp,[],0⟩] scope pos) (Mine.p2 (yz f) d1 d2) (RV P):=fun n A env g ρ σ s k Q E X hb hq=>by
 show wpAny P.M A (eval _ env) Q E s
 rw [eval_ListComp]
 refine wpAny_comprehension_free (use:=Option.none) rfl (fun _=>rfl) (ix (env:=env) fun y hy=>absurd rfl (hnofree _ hy)) hkind hnames ?_
 refine Call_Name rfl (X.blt hz (by decide) (by decide) (v:=.type "zip") (by decide) ?_)
 refine bf (fun _ q=>by cases q) (bA fun q hq=>?_) (wpAny_items_cons (h1 n A env g ρ σ s _ _ E X hb fun u s₁ g1 a σ₁ ea pb w1 r1=>wpAny_items_cons (h2 n A env g1 ρ σ₁ s₁ _ _ E (X.post pb w1) (fun q=>hb (ea.trans q)) fun v s2 g2 b σ₂ ed pd w2 r2=>wpAny_items_nil ?_) (hn2 env)) (hn1 env))
 .rw [hn1 env,hn2 env] at hq
  cases hq with
  |head=>rfl
  |tail _ h=>cases h with
   |head=>rfl
   |tail _ h=>cases h
 obtain ⟨tz,ez⟩:=bV fun q=>hb (ea.trans (ed.trans q))
 have p12:=pb.trans pd
 obtain ⟨l1,l2,vs,ws,nv,nw,bs,cs,rfl,rfl,a1,b1,hvs,hws,lz1,rfl⟩:=ug (im.post w1 pd r1).y (im.y r2) ez
 have fin:∀s' g' x,aH g2 s2 g' s'->bj P g' s'.heap σ₂->Rp P g' s'.heap (.lst ((zipWith f bs cs).map T.bool)) x->Q x s':=fun s' g' x p w r=>hq x s' g' _ σ₂ (ea.trans (ed.trans (by rw [ez];rfl))) (p12.trans p) w r
 have lx:vs.size=bs.length:=by rw [hvs];simp
 have ly:ws.size=cs.length:=by rw [hws];simp
 have lt1:=Heap.lt_size a1
 have lt2:=Heap.lt_size b1
 refine call_zip_2 ⟨_,a1,rfl,nv,rfl⟩ ⟨_,b1,rfl,nw,rfl⟩ fun he z1 z2 z3 z4 z5 z6 z7=>?_
 refine wpAny_pyIter_zip z1 ?_
 refine wpAny_newList ?_
 have fr:∀{a:Addr},s2.heap.objs.size<=a->s2.heap.get? a=Option.none:=fun {a} ha=>by
  cases e:s2.heap.get? a with
  |none=>rfl
  |some o=>exact absurd (Heap.lt_size e) (not_lt.mpr ha)
 have hD4:=Heap.get?_push_size he (o:={cls:=.type "list",data:=.seq ([]:List Value).toArray}) rfl
 refine wpAny_newFunctionEnv hnocell (by intro y hy;simp at hy) (fun hg hn5 hsb5=>?_) hkind
 dsimp only at hn5 hsb5 ⊢
 generalize hH4:he.push {cls:=.type "list",data:=.seq ([]:List Value).toArray}=hf at hn5 hsb5 hD4 ⊢
 have hDn:s2.heap.get? he.objs.size=Option.none:=fr (by rw [z6];exact le_add_right _ _)
 have hC4:hf.get? hf.objs.size=Option.none:=aJ _
 have k34:∀a o,he.get? a=some o->hf.get? a=some o:=fun a o e=>by rw [<-hH4];exact Heap.get?_push_of_some _ e
 have k45:∀a o,hf.get? a=some o->hg.get? a=some o:=fun a o e=>(hsb5.2 a fun q=>by rw [q,hC4] at e;cases e).trans (Heap.get?_push_of_some _ e)
 have hCn:s2.heap.get? hf.objs.size=Option.none:=by
  cases e:s2.heap.get? hf.objs.size with
  |none=>rfl
  |some o=>rw [k34 _ _ (z7 _ _ e)] at hC4;cases hC4
 have hDC:he.objs.size≠hf.objs.size:=fun q=>by rw [q] at hD4;rw [hC4] at hD4;cases hD4
 have Wk:=WalksT.zip2 (prog:=P.prog) (w:=P.w) (A:=A) X.room.2.2 _ _ _ _ _ l1 l2 (zipApart_new lt1 lt2) vs ws
 have st3:_/\_:=(⟨z1,z2,⟨_,_,z3⟩,z4,z5,⟨_,z7 _ _ a1,rfl,nv,rfl⟩,⟨_,z7 _ _ b1,rfl,nw,rfl⟩⟩:IsZip he _ _ _ Value.none/\IsPair he _ _ _/\(∃a b,IsPair he _ a b)/\he.IsListIter _ l1 0/\he.IsListIter _ l2 0/\he.IsList l1 vs/\he.IsList l2 ws)
 have st5:=Wk.frame 0 he hg st3 fun b _ o e=>k45 b o (k34 b o e)
 have live:∀b∈[s2.heap.objs.size+4,s2.heap.objs.size+2,s2.heap.objs.size+3,s2.heap.objs.size,s2.heap.objs.size+1,l1,l2],∃o,he.get? b=some o:=fun b hb=>by
  simp only [mem_cons,not_mem_nil,or_false] at hb
  rcases hb with rfl |rfl |rfl |rfl |rfl |rfl |rfl
  .exact ⟨_,z1⟩
  .exact ⟨_,z2⟩
  .exact ⟨_,z3⟩
  .exact let ⟨o,e,_⟩:=z4;⟨o,e⟩
  .exact let ⟨o,e,_⟩:=z5;⟨o,e⟩
  .exact ⟨_,z7 _ _ a1⟩
  .exact ⟨_,z7 _ _ b1⟩
 have ck1:(compEnvC scope (eZ env scope.names []) hf.objs.size env).kindOf x1=some .local:=lookup_relabel_local hx1
 have ck2:(compEnvC scope (eZ env scope.names []) hf.objs.size env).kindOf x2=some .local:=lookup_relabel_local hx2
 have loop:codeAny P.M A (.compLoop (.ListComp elt [⟨.Tuple [.Name x1 p1,.Name x2 p2] kt pt,.Call (.Name (ofString "zip") p) [e1,e2] [] cp,[],0⟩] scope pos) 0 (.ref (s2.heap.objs.size+4)) (.ref he.objs.size) (compEnvC scope (eZ env scope.names []) hf.objs.size env))
   (compPost P.M A E Option.none Q (.ref he.objs.size) hf.objs.size) {s2 with heap:=hg,toks:=s2.toks+([]:List (Str×Value)).length}:=by
  refine yA (f:=f) (bs:=fun i=>bs[i]?.getD false) (cs:=fun i=>cs[i]?.getD false) Wk (fun i v hv=>?_) X.room.2.2 (C:=hf.objs.size) rfl hkind ck1 ck2 hx (fun q=>?_) (fun q=>?_) hDC (by rw [lx,ly];lia)
   (fun s m b c Q E hns m1 m2 hq=>hel A (compEnvC scope (eZ env scope.names []) hf.objs.size env) s m b c Q E hkind ck1 ck2 hns m1 m2 hq) _ 0 _ #[] _ _ _ rfl (zero_le _) st5 hn5 (k45 _ _ hD4) rfl fun hj tk acc' cnt' m' kf hn' hD' hacc'=>?_
  .obtain ⟨x,y,ex,ey,rfl⟩:=hv
   rw [hvs] at ex
   rw [hws] at ey
   simp only [List.getElem?_toArray,getElem?_map,Option.map_eq_some_iff] at ex ey
   obtain ⟨b,eb,rfl⟩:=ex
   obtain ⟨c,ec,rfl⟩:=ey
   rw [eb,ec];rfl
  .obtain ⟨o,e⟩:=live _ q
   rw [k34 _ _ e] at hC4;cases hC4
  .obtain ⟨o,e⟩:=live _ q
   rw [aJ] at e;cases e
  .refine ⟨m',hn',fun hl hs7=>?_⟩
   have hall:∀a o,s2.heap.get? a=some o->hl.get? a=some o:=fun a o e=>by
    have hlt:=Heap.lt_size e
    have haC:a≠hf.objs.size:=fun q=>by rw [q,hCn] at e;cases e
    refine (hs7.2 a haC).trans (kf a o (fun q=>?_) haC (fun q=>by rw [q,hDn] at e;cases e) (k45 a o (k34 a o (z7 a o e))))
    simp only [mem_cons,not_mem_nil,or_false] at q
    rcases q with rfl |rfl |rfl |rfl
    .rw [fr (le_add_right _ _)] at e;cases e
    .rw [fr (le_add_right _ _)] at e;cases e
    .rw [fr (le_refl _)] at e;cases e
    .rw [fr (le_add_right _ _)] at e;cases e
   have hzl:(zipWith f bs cs).length<=lim:=by rw [List.length_zipWith];lia
   have hD7:IsL hl he.objs.size acc' cnt':=(hs7.2 _ hDC).trans hD'
   have hacc:acc'.toList=(zipWith f bs cs).map Value.bool:=by
    rw [hacc',lx,ly,Nat.sub_zero]
    exact uf f bs cs
   have p7:aH g2 s2 {g2 with F:=fun y=>g2.F y\/y=he.objs.size} {s2 with heap:=hl,toks:=tk}:=.grow tk hall _ (fun _ f=>.inl f) fun a f=>f.imp_right fun e:a=he.objs.size=>e▸hDn
   exact fin _ _ _ p7 (w2.grow hall _ (fun _ f=>.inl f) fun a f=>f.imp_right fun e:a=he.objs.size=>e▸⟨hDn,au hD7⟩) ⟨_,rfl,.inr rfl,acc',cnt',hD7,by rw [length_map];exact hzl,by rw [hacc];exact nQ _⟩
 exact codeAny_compStart_list loop (wpAny_pyIter_zip (k45 _ _ (k34 _ _ z1)) loop)
noncomputable def E3 (scope:Scope)(x1 x2:Str):Bool:=scope.kind==.function&&(scope.names.all (fun x=>!(x.2==.local)||scope.names.lookup x.1==some .local)&&(scope.names.all (fun x=>!(x.2==.cell)&&!(x.2==.free))&&((scope.names.lookup x1==some .local)&&((scope.names.lookup x2==some .local)&&!(x1==x2)))))
theorem aq.zipC {e1 e2 elt:Expr}{d1 d2:PE}{x1 x2:Str}{p1 p2 pt p cp:Pos}{kt:Nat}{scope:Scope}{pos:Pos}{f:Bool->Bool->Bool}(hel:n5 P scope x1 x2 elt f)(hb:E3 scope x1 x2=true)(hz:B.sc.names.lookup (ofString "zip")=some .globalImplicit)
  (hn1:∀env,starEach [e1,e2] env=(false,eval e1 env)::starEach [e2] env)(hn2:∀env,starEach [e2] env=[(false,eval e2 env)])(h1:aq P B C e1 d1 (RX P))(h2:aq P B C e2 d2 (RX P)):
  aq P B C (.ListComp elt [⟨.Tuple [.Name x1 p1,.Name x2 p2] kt pt,.Call (.Name (ofString "zip") p) [e1,e2] [] cp,[],0⟩] scope pos) (Mine.p2 (yz f) d1 d2) (RV P):=by
 obtain ⟨b1,hb⟩:=af hb
 obtain ⟨b2,hb⟩:=af hb
 obtain ⟨b3,hb⟩:=af hb
 obtain ⟨b4,hb⟩:=af hb
 obtain ⟨b5,b6⟩:=af hb
 have b3:=fun x hx=>af (aB b3 x hx)
 refine aq.zip hel (eq_of_beq b1) (fun x hx e=>?_) (fun x hx e=>?_) (fun x hx e=>?_) (eq_of_beq b4) (eq_of_beq b5) (fun e=>?_) hz hn1 hn2 h1 h2
 .have:=aB b2 x hx
  rw [e] at this;exact eq_of_beq this
 .have:=(b3 x hx).1
  rw [e] at this;cases this
 .have:=(b3 x hx).2
  rw [e] at this;cases this
 .rw [e,beq_self_eq_true] at b6;cases b6
end
end
end Mine
namespace Mine
noncomputable section
open PySem PySem.W PyProof.Rows PySem.SeqAt
noncomputable def nH {α Z:Type}(f:α->Z->Option Z):List α->Z->Option Z
 | [],b=>some b
 |x::r,b=>o1 (f x b) (nH f r)
noncomputable def Fc (ks:List T)(kn o:T)(ds:List (List T)):Option (List (List T)):=o1 (j6 ks o) fun i=>o1 i fun j=>o1 ds[j]? fun l=>bif cm (l.length+1) then some (ds.set j (l++[kn])) else none
theorem nE (ks:List T)(kn:T):∀(os:List T) (ds:List (List T)),jz ks kn os ds=nH (Fc ks kn) os ds
 | [],_=>rfl
 |o::os,ds=>by
  show o1 (j6 ks o) _=o1 (o1 (j6 ks o) _) _
  cases j6 ks o with
  |none=>rfl
  |some i=>cases i with
   |none=>rfl
   |some j=>
    show o1 ds[j]? _=o1 (o1 ds[j]? _) _
    cases ds[j]? with
    |none=>rfl
    |some l=>
     show (bif cm (l.length+1) then _ else _)=o1 (bif cm (l.length+1) then _ else _) _
     cases cm (l.length+1) with
     |false=>rfl
     |true=>exact nE ks kn os _
noncomputable def F8 (ks:List T)(th kn:T)(ds:List (List T)):Option (List (List T)):=o1 (idxD th kn) fun l=>o1 (gr l) fun os=>jz ks kn os ds
theorem nC (ks:List T)(th:T):∀(ns:List T) (ds:List (List T)),qx ks th ns ds=nH (F8 ks th) ns ds
 | [],_=>rfl
 |n::ns,ds=>by
  show o1 (idxD th n) _=o1 (o1 (idxD th n) _) _
  cases idxD th n with
  |none=>rfl
  |some l=>
   show o1 (gr l) _=o1 (o1 (gr l) _) _
   cases gr l with
   |none=>rfl
   |some os=>
    show o1 (jz ks n os ds) _=o1 (jz ks n os ds) _
    cases jz ks n os ds with
    |none=>rfl
    |some d=>exact nC ks th ns d
inductive vf (P:Pg) (env:Env) (g:Gh) (h:Heap) (a:Addr) (as:List Addr) (ks:List T) (ds:List (List T)):Prop
 |mk (q:(a==sysModules)=false) (o:Obj) (es:List DictEntry) (e:h.get? a=some o) (d:Go P.w ks o es) (r:aO P g h ks (es.map (·.key))) (v:es.map (·.val)=as.map Value.ref)
  (nd:as.Nodup) (na:a∉as) (lm:j8 g env (a::as)) (l:as.length=ds.length) (c:∀(i:Nat) (x:Addr) (ts:List T),as[i]?=some x->ds[i]?=some ts->gP P g h x (.lst ts))
section
variable {P:Pg} {B:br} {C:Ct} {n i:Nat} {A:Around} {env:Env} {g g':Gh} {ρ:aZ} {σ:Sg} {s s':Shared} {h h':Heap} {a:Addr} {as:List Addr} {ks:List T} {ds:List (List T)} {y:Str} {k:NameKind}
theorem vf.keep (L:vf P env g h a as ks ds)(kf:aR g h g' h')(kv:∀b∈a::as,∀o,h.get? b=some o->h'.get? b=some o)(lm:j8 g' env (a::as)):vf P env g' h' a as ks ds:=by
 obtain ⟨q,o,es,e,d,r,v,nd,na,_,l,c⟩:=L
 exact ⟨q,o,es,kv a mem_cons_self _ e,d,r.mono kf,v,nd,na,lm,l,fun i x ts h1 h2=>(c i x ts h1 h2).mono kf (kv x (mem_cons_of_mem _ (mem_of_getElem? h1)))⟩
theorem vf.vol (L:vf P env g h a as ks ds):j8 g env (a::as):=let ⟨_,_,_,_,_,_,_,_,_,lm,_,_⟩:=L;lm
theorem vf.live (L:vf P env g h a as ks ds):∀b∈a::as,h.get? b≠none:=fun b hb=>by
 obtain ⟨q,o,es,e,d,r,v,nd,na,lm,l,c⟩:=L
 rcases an hb with rfl |hb
 .exact au e
 .obtain ⟨i,hi⟩:=getElem?_of_mem hb
  have:i < ds.length:=l▸(aj hi).1
  exact (c i b _ hi (getElem?_eq_getElem this)).live
structure c8 (P:Pg) (B:br) (C:Ct) (n:Nat) (A:Around) (env:Env) (σ:Sg) (a:Addr) (as:List Addr) (ks:List T) (g:Gh) (ρ:aZ) (s:Shared) (ds:List (List T)):Prop where
 X:At P B C n A env g ρ σ s
 va:cZ B env s.heap 1 (.ref a)
 L:vf P env g s.heap a as ks ds
theorem c8.post (Y:c8 P B C n A env σ a as ks g ρ s ds)(p:aH g s g' s')(w:bj P g' s'.heap σ):c8 P B C n A env σ a as ks g' ρ s' ds:=
 have v:=Y.L.vol.p Y.L.live p
 ⟨Y.X.post p w,Y.va.move fun b hb o e=>p.keep b o e (Y.X.env.own b hb).2.2.1,Y.L.keep (p.k Y.X.g) v.2 v.1⟩
theorem E7 {W vol:List Addr}(v:j8 g env vol)(l:∀a∈vol,s.heap.get? a≠none)(hW:∀a∈vol,a∉W)(p:aS [] W g s g' s'):j8 g' env vol/\∀a∈vol,∀o,s.heap.get? a=some o->s'.heap.get? a=some o:=
 ⟨fun a ha=>let ⟨f,z,o,w⟩:=v a ha;⟨fun q=>(p.Fn a q).elim f fun q=>q.elim o (l a ha),fun q=>(p.Zn a q).elim z (l a ha),fun q=>(p.On a q).elim o (l a ha),w⟩,fun a ha o e=>let ⟨_,z,q,_⟩:=v a ha;p.keep a o e z q (hW a ha)⟩
theorem c8.turn {I:Addr}(Y:c8 P B C n A env σ a as ks g ρ s ds)(hv:j8 g env [I])(hI:I∉a::as)(hkp:∀b o,s.heap.get? b=some o->b∉[I]->h'.get? b=some o)(tk:Nat):bC [I] [I] g s g {s with heap:=h',toks:=tk}/\c8 P B C n A env σ a as ks g ρ {s with heap:=h',toks:=tk} ds:=by
 obtain ⟨pV,X'⟩:=dK Y.X hv hkp tk
 have iv:=hv I (aA rfl)
 exact ⟨pV,X',Y.va.move fun b hb o e=>hkp b o e fun q=>iv.2.2.2 (aa q▸hb),Y.L.keep (pV.toS.k Y.X.g fun b hb=>(hv b hb).1) (fun b hb o e=>hkp b o e fun q=>hI (aa q▸hb)) Y.L.vol⟩
theorem c8.store {t:T}{u:Value}{Q:Unit->Shared->Prop}{E:Value->Shared->Prop}(Y:c8 P B C n A env σ a as ks g ρ s ds)(hc:ci C i false C=true)(ht:B.tab[i]?=some (some (y,k)))(hk:k=.local\/k=.cell)(h1:1≠i)(r:Rp P g s.heap t u)
  (hq:∀s',bC [] (own env) g s g s'->c8 P B C n A env σ a as ks g (ρ.set i (some t)) s' ds->Q () s'):wpAny P.M A (storeName env y u) Q E s:=by
 obtain ⟨hs,ho⟩:=ee hc
 have X2:At P B C n A env g (ρ.set i none) σ s:=⟨Y.X.good,Y.X.call,Y.X.room,Y.X.env.forget hs (.refl g i) fun a ha=>(Y.X.env.own a ha).2.2.2,Y.X.g⟩
 refine iQ X2 hs.nu ht hk (by unfold bw;rw [ho];exact .inl r) fun s' p X' hot=>?_
 have p:bC [] (own env) g s g s':=p.weak (fun _ h=>h) c9
 rw [set_set] at X'
 have v:=Y.L.vol.post Y.L.live p.toS
 exact hq s' p ⟨X',hot 1 _ h1 Y.va,Y.L.keep (p.toS.k Y.X.g fun a ha=>(Y.X.env.own a ha).2.1) v.2 v.1⟩
theorem aS.mono {V W W':List Addr}(p:aS V W g s g' s')(hw:∀a∈W,a∈W'):aS V W' g s g' s':={p with keep:=fun a o e z q n=>p.keep a o e z q fun x=>n (hw a x)}
theorem Ce {body:List Stmt}{p:Pos}{f:T->List (List T)->Option (List (List T))}{K:aZ->Prop}{I l:Addr}{ts:List T}{vs:Array Value}{m:Nat}{R:Result->Shared->Prop}(hc:ci C i false C=true)(ht:B.tab[i]?=some (some (y,k)))(hk:k=.local\/k=.cell)(h1:1≠i)(hK:∀ρ t,K ρ->K (ρ.set i (some t))/\cI (ρ.set i (some t)) i=some t)
  (hb:∀t g ρ s ds ds1 (Q:Flow->Shared->Prop) (E:Value->Shared->Prop),f t ds=some ds1->c8 P B C n A env σ a as ks g ρ s ds->K ρ->cI ρ i=some t->(∀s' g' ρ',aS [] (as++own env) g s g' s'->c8 P B C n A env σ a as ks g' ρ' s' ds1->K ρ'->Q .next s')->wpAny P.M A (execs body env) Q E s)(hI:I∉a::as):
  ∀(rest:List T) (j:Nat) (g:Gh) (ρ:aZ) (s:Shared) (ds ds':List (List T)),j<=ts.length->ts.drop j=rest->c8 P B C n A env σ a as ks g ρ s ds->K ρ->j8 g env [I]->(s.heap.IsListIter I l j/\g.F l/\s.heap.get? l=some (bm vs m)/\aO P g s.heap ts vs.toList)->nH f rest ds=some ds'->
   (∀s' g' ρ',aS [I] (I::(as++own env)) g s g' s'->c8 P B C n A env σ a as ks g' ρ' s' ds'->K ρ'->R (.ok .next) s')->codeAny P.M A (.forLoop (.Name y p) (.ref I) body [] env) R s:=by
 intro rest
 induction rest with
 |nil=>
  intro j g ρ s ds ds' hle hd Y kr hv st e hq
  cases e
  obtain rfl:j=ts.length:=le_antisymm hle (List.drop_eq_nil_iff.mp hd)
  refine codeAny_of_tree ?_
  show wpAny P.M A ((forTurn (.Name y p) (.ref I) body [] env).onRaise (fun x=>do noteFrame x env;theTreesLotGoes x)) _ _ s
  refine wpAny_noted ?_
  simp only [forTurn]
  refine wpAny_bind (wpAny_standAt (wpAny_bind (wpAny_onRaise ((my.list (P:=P) Y.X.room.2.2).done g s _ _ st fun h' tk hkp=>wpAny_pure ⟨rfl,codeAny_block (wpAny_execs_nil ?_)⟩))))
  obtain ⟨pV,Y'⟩:=Y.turn hv hI hkp tk
  exact hq _ g ρ (pV.toS.mono fun b hb=>mem_cons.mpr (.inl (aa hb))) Y' kr
 |cons t rest ih=>
  intro j g ρ s ds ds' hle hd Y kr hv st e hq
  obtain ⟨ds1,e1,e2⟩:=az (show o1 (f t ds) (nH f rest)=some ds' from e)
  have hiv:ts[j]?=some t:=by rw [<-List.head?_drop,hd];rfl
  have hj:j < ts.length:=(aj hiv).1
  have hd':ts.drop (j+1)=rest:=by rw [<-List.tail_drop,hd];rfl
  refine codeAny_of_tree ?_
  show wpAny P.M A ((forTurn (.Name y p) (.ref I) body [] env).onRaise (fun x=>do noteFrame x env;theTreesLotGoes x)) _ _ s
  refine wpAny_noted ?_
  simp only [forTurn]
  refine wpAny_bind (wpAny_standAt (wpAny_bind (wpAny_onRaise ((my.list (P:=P) Y.X.room.2.2).item j t g s _ _ hiv st (fun b hb=>(hv b hb).1) fun u h' tk hkp r st'=>?_))))
  obtain ⟨pV,Y'⟩:=Y.turn hv hI hkp tk
  have lI:∀b∈[I],h'.get? b≠none:=fun b hb=>by rw [aa hb];exact let ⟨_,e,_⟩:=st'.1;au e
  have pV:=eC pV lI
  refine wpAny_bind (wpAny_pure (wpAny_bind (wpAny_assign_Name (Y'.store hc ht hk h1 r fun s3 p3 Y3=>wpAny_bind (hb t g _ s3 ds ds1 _ _ e1 Y3 (hK ρ t kr).1 (hK ρ t kr).2 fun s4 g4 ρ₄ p4 Y4 k4=>wpAny_pure ⟨rfl,?_⟩)))))
  have st3:=(my.list (P:=P) Y.X.room.2.2).stay _ _ _ _ _ st' (p3.toS.k Y'.X.g fun a ha=>(Y'.X.env.own a ha).2.1) (hv.post (s:={s with heap:=h',toks:=tk}) lI p3.toS).2
  have lI3:∀b∈[I],s3.heap.get? b≠none:=fun b hb=>by rw [aa hb];exact let ⟨_,e,_⟩:=st3.1;au e
  have iv:=hv I (aA rfl)
  obtain ⟨hv4,kp4⟩:=E7 hv lI3 (fun b hb q=>by
   rw [aa hb] at q
   exact (ak q).elim (fun q=>hI (mem_cons_of_mem _ q)) iv.2.2.2) p4
  have st4:=(my.list (P:=P) Y.X.room.2.2).stay _ _ _ _ _ st3 (p4.k Y3.X.g fun b hb=>(ak hb).elim (fun q=>(Y3.L.vol b (mem_cons_of_mem _ q)).1) fun q=>(Y3.X.env.own b q).2.1) kp4
  have p04:aS [] (I::(as++own env)) g s g4 s4:=(pV.toS.mono fun b hb=>mem_cons.mpr (.inl (aa hb))).trans ((p3.toS.mono fun b hb=>mem_cons_of_mem _ (mem_append_right _ hb)).trans (p4.mono fun b hb=>mem_cons_of_mem _ hb))
  exact ih (j+1) g4 ρ₄ s4 ds1 ds' hj hd' Y4 k4 hv4 st4 e2 fun s' g' ρ' p' Y' k'=>hq s' g' ρ' (p04.trans p') Y' k'
end
section
variable {P:Pg} {B:br} {C:Ct} {n i:Nat} {A:Around} {env:Env} {g g' ga:Gh} {ρ:aZ} {σ:Sg} {s s' s₁:Shared} {h h':Heap} {a:Addr} {as:List Addr} {ks:List T} {ds ds1:List (List T)} {ms:List (Str×Nat)}
theorem oz {v:Option T}:∀{ρ:aZ} {i j:Nat},j≠i->cI (ρ.set i v) j=cI ρ j
 | [],_,_,_=>rfl
 |_::_,0,0,h=>(h rfl).elim
 |_::_,0,_+1,_=>rfl
 |_::_,_+1,0,_=>rfl
 |_::ρ,i+1,j+1,h=>oz (ρ:=ρ) fun e=>h (congrArg (·+1) e)
theorem rV {v:Option T}:∀{ρ:aZ} {i:Nat},i < ρ.length->cI (ρ.set i v) i=v
 | [],_,h=>(Nat.not_lt_zero _ h).elim
 |_::_,0,_=>rfl
 |_::ρ,i+1,h=>rV (ρ:=ρ) (Nat.lt_of_succ_lt_succ h)
theorem aS.drop {I:Addr}{W:List Addr}(p:aH g s ga s₁)(hI:s.heap.get? I=none)(q:aS [I] (I::W) ga s₁ g' s'):aS [] W g s g' s' where
 st:=St.trans p.st q.st
 keep a o e z o' w:=q.keep a o (p.keep a o e z) (fun x=>(p.Zn a x).elim z (au e)) (fun ⟨i,x⟩=>o' ⟨i,p.o▸x⟩) fun x=>(an x).elim (fun x=>au e (x▸hI)) w
 back a _ e:=by
  by_cases x:a=I
  .exact x▸hI
  .exact p.back a (q.back a (fun y=>x (aa y)) e)
 F a f:=q.F a (p.F a f)
 Fn a f:=(q.Fn a f).elim (fun f=>(p.Fn a f).imp_right .inr) fun x=>.inr (x.imp (fun ⟨i,x⟩=>⟨i,p.o▸x⟩) (p.back a))
 Zn a f:=(q.Zn a f).elim (p.Zn a) fun x=>.inr (p.back a x)
 On a f:=(q.On a f).imp (fun ⟨i,x⟩=>⟨i,p.o▸x⟩) (p.back a)
 sp:=q.sp.trans p.sp
 sa:=q.sa.trans p.sa
theorem wM {fo ot kn':Str}{k1 k2 k3:NameKind}{p1 p2 p3 sp ap cp pos:Pos}{kn o:T}{Q:Flow->Shared->Prop}{E:Value->Shared->Prop}(ht1:B.tab[1]?=some (some (fo,k1)))(ht2:B.tab[2]?=some (some (kn',k2)))(ht3:B.tab[3]?=some (some (ot,k3)))(hv2:iO C 2=true)(hv3:iO C 3=true)
  (hbase:∀env,attributeBase (.Subscript (.Name fo p1) (.Name ot p2) sp) (ofString "append") env (eval (.Subscript (.Name fo p1) (.Name ot p2) sp) env)=eval (.Subscript (.Name fo p1) (.Name ot p2) sp) env)(hline:(ap.endLine==cp.line)=true)(htrees:∀env,backTo cp (starEach [.Name kn' p3] env)=[(false,eval (.Name kn' p3) env)])
  (hw:∀env,swapsWith (.Call (.Attribute (.Subscript (.Name fo p1) (.Name ot p2) sp) (ofString "append") ap) [.Name kn' p3] [] cp) none pos.line env=pure false)
  (Y:c8 P B C n A env σ a as ks g ρ s ds)(e2:cI ρ 2=some kn)(e3:cI ρ 3=some o)(est:Fc ks kn o ds=some ds1)(hq:∀s',aS [] (as++own env) g s g s'->c8 P B C n A env σ a as ks g ρ s' ds1->Q .next s'):
  wpAny P.M A (exec (.Expr (.Call (.Attribute (.Subscript (.Name fo p1) (.Name ot p2) sp) (ofString "append") ap) [.Name kn' p3] [] cp) pos) env) Q E s:=by
 obtain ⟨i,f1,f2⟩:=az est
 obtain ⟨j,rfl,f3⟩:=az f2
 obtain ⟨l,f4,f5⟩:=az f3
 obtain ⟨hf,rfl⟩:=cC f5
 have X:=Y.X
 obtain ⟨u3,v3,q3⟩:=X.env.var 3 _ o ht3 e3
 obtain ⟨u2,v2,q2⟩:=X.env.var 2 _ kn ht2 e2
 have r3:=iN hv3 q3
 have r2:=iN hv2 q2
 obtain ⟨κ,hk⟩:=jC f1
 obtain ⟨ad,rfl,hi,_⟩:=lE hk (.inl r3)
 obtain ⟨q,ob,es,e,d,r,v,nd,na,lm,ll,c⟩:=id Y.L
 obtain ⟨κs,c1,c2,c3⟩:=d.k
 obtain ⟨ep,dd⟩:=d.d
 obtain ⟨xs,g1,g2,g3⟩:=o6 es ks κs r c1 c2
 have dh:s.heap.DictOfH (aN P.prog P.w) a xs:=⟨ob,_,ep,e,d.x,dd,g1,g3,by rw [g2];exact c3⟩
 have ff:=jp (by rw [g2];exact c1) f1 hk
 obtain ⟨z,hz,hz'⟩:=kM ff
 rw [g1,map_map] at v
 have vj:(as.map Value.ref)[j]?=some z.2.2:=by rw [<-v,getElem?_map,hz];rfl
 rw [getElem?_map] at vj
 obtain ⟨x,hx,hxv⟩:=av vj
 have cl:=c j x l hx f4
 have xm:x∈as:=mem_of_getElem? hx
 rw [exec_Expr env _ pos (by simp [interactive,X.fn]) (hw env)]
 refine wpAny_bind (wpAny_standAt (wpAny_bind (lu lM hbase hline htrees (Subscript_ (bh X ht1 Y.va (bh X ht3 v3 (tail_any dh.typeIs slot_dict_getitem.lookup (wpAny_getItem_heap (s9 X.rm.units) hi dh (p:=z.2) (by rw [mj,ff,bind_some,hz];rfl) ?_) rfl)))))))
 rw [<-hxv]
 refine ⟨qA (t:=.lst l) (.inr ⟨x,rfl,cl⟩) rfl,bh (X.post (.toks g s _) X.g:At P B C n A env g ρ σ {s with toks:=s.toks+(aN P.prog P.w).draws κ}) ht2 v2 ?_⟩
 refine jJ A g σ _ x u2 (.lst l) kn (.lst (l++[kn])) _ _ X.rm X.g cl r2 (by show (bif cm (l.length+1) then some _ else Option.none)=_;rw [hf];rfl) fun h' tk hs hy=>wpAny_dropValue ?_
 have vx:j8 g env [x]:=fun b hb=>aa hb▸lm x (mem_cons_of_mem _ xm)
 have kk:∀b o,s.heap.get? b=some o->b∉[x]->h'.get? b=some o:=fun b o e hb=>(hs b fun q=>hb (aA q)).trans e
 obtain ⟨pV,X'⟩:=dK X vx kk tk
 have kf:aR g s.heap g h':=pV.toS.k X.g fun b hb=>(vx b hb).1
 have rx:=hy kf
 have pV:=eC pV fun b hb=>by rw [aa hb];exact rx.live
 refine hq _ (pV.toS.mono fun b hb=>mem_append_left _ (aa hb▸xm)) ⟨X',Y.va.move fun b hb o e=>kk b o e fun q=>(lm x (mem_cons_of_mem _ xm)).2.2.2 (aa q▸hb),q,ob,es,kk a ob e fun q=>na (aa q▸xm),d,r.mono kf,by rw [g1,map_map];exact v,nd,na,lm,by rw [length_set];exact ll,fun i b ts h1 h2=>?_⟩
 by_cases ij:i=j
 .subst ij
  rw [hx] at h1;cases h1
  rw [List.getElem?_set_self (aj f4).1] at h2;cases h2
  exact rx
 .rw [List.getElem?_set_ne (Ne.symm ij)] at h2
  refine (c i b ts h1 h2).mono kf fun o e=>kk b o e fun q=>ij ?_
  rw [aa q] at h1
  exact (List.getElem?_inj (aj h1).1 nd).mp (h1.trans hx.symm)
theorem tB {iter:Expr}{pi:PE}{body:List Stmt}{y:Str}{k:NameKind}{tp pos:Pos}{f:T->List (List T)->Option (List (List T))}{K:aZ->Prop}{ts:List T}{Q:Flow->Shared->Prop}{E:Value->Shared->Prop}(hfs:∀env x,foldedSetIterable iter env x=pure x)(hi:aq P B C iter pi (RV P))(hc:ci C i false C=true)(ht:B.tab[i]?=some (some (y,k)))(hk:k=.local\/k=.cell)(h1:1≠i)(hK:∀ρ t,K ρ->K (ρ.set i (some t))/\cI (ρ.set i (some t)) i=some t)
  (hb:∀t g ρ s ds ds1 (Q:Flow->Shared->Prop) (E:Value->Shared->Prop),f t ds=some ds1->c8 P B C n A env σ a as ks g ρ s ds->K ρ->cI ρ i=some t->(∀s' g' ρ',aS [] (as++own env) g s g' s'->c8 P B C n A env σ a as ks g' ρ' s' ds1->K ρ'->Q .next s')->wpAny P.M A (execs body env) Q E s)
  (Y:c8 P B C n A env σ a as ks g ρ s ds)(kr:K ρ)(hp:pi (P.cx n) ρ σ (fun t σ=>.ret t σ)=.ret (.lst ts) σ)(e:nH f ts ds=some ds1)(hq:∀s' g' ρ',aS [] (as++own env) g s g' s'->c8 P B C n A env σ a as ks g' ρ' s' ds1->K ρ'->Q .next s'):
  wpAny P.M A (exec (.For (.Name y tp) iter body [] pos) env) Q E s:=by
 refine wpAny_For (hi n A env g ρ σ s (fun t σ=>.ret t σ) _ _ Y.X (by rw [hp];exact fun q=>by cases q) fun x s₁ ga t σ₁ e1 p w r=>?_) (hfs env)
 rw [hp] at e1;cases e1
 obtain ⟨l,rfl,fl,vs,m,b1,b3,b2⟩:=r
 refine wpAny_pyIter_list ⟨_,b1,rfl,m,rfl⟩ ?_
 obtain ⟨p',w',v⟩:=oH (X:=uR "list_iterator" l) (tk:=s₁.toks) w p
 have Y1:=Y.post p w
 have pp:aH ga s₁ ga {s₁ with heap:=s₁.heap.push (uR "list_iterator" l),toks:=s₁.toks}:=.push _ _
 have Y2:=Y1.post pp w'
 have hI:=v s₁.heap.objs.size (aA rfl)
 refine Ce hc ht hk h1 hK hb (fun q=>Y1.L.live _ q (aJ _)) ts 0 ga ρ _ ds ds1 (zero_le _) rfl Y2 kr (fun b hb=>?_) ⟨⟨_,bD _,rfl,rfl⟩,fl,bO s₁ _ _ _ b1,b2.mono (pp.k w)⟩ e fun s' g' ρ' q Y' k'=>hq s' g' ρ' (aS.drop p' hI.1 q) Y' k'
 rw [aa hb]
 exact ⟨hI.2.1,hI.2.2,fun ⟨j,q⟩=>(Y.X.g.O _ ⟨j,p.o▸q⟩).1 hI.1,fun q=>(Y.X.env.own _ q).1 hI.1⟩
end
structure yw (h₀ h:Heap) (items:Array Value) (ps:List (Addr×Addr)):Prop where
 nw:∀p∈ps,h₀.get? p.1=none/\h₀.get? p.2=none
 nd:(ps.map (·.2)).Nodup
 at_:∀(i:Nat) (p:Addr×Addr),ps[i]?=some p->∃v m,items[i]?=some v/\h.get? p.1=some (eW #[v,.ref p.2] m)/\h.get? p.2=some (bm #[] 0)
theorem yw.keep {h₀ h h':Heap}{items:Array Value}{ps:List (Addr×Addr)}(q:yw h₀ h items ps)(k:∀p∈ps,(∀o,h.get? p.1=some o->h'.get? p.1=some o)/\∀o,h.get? p.2=some o->h'.get? p.2=some o):yw h₀ h' items ps:=
 ⟨q.nw,q.nd,fun i p e=>let ⟨v,m,h1,h2,h3⟩:=q.at_ i p e;⟨v,m,h1,(k p (mem_of_getElem? e)).1 _ h2,(k p (mem_of_getElem? e)).2 _ h3⟩⟩
theorem yw.live {h₀ h:Heap}{items:Array Value}{ps:List (Addr×Addr)}(q:yw h₀ h items ps):∀p∈ps,(∃m v,h.get? p.1=some (eW v m))/\h.get? p.2=some (bm #[] 0):=fun p hp=>by
 obtain ⟨i,hi⟩:=getElem?_of_mem hp
 obtain ⟨v,m,_,h2,h3⟩:=q.at_ i p hi
 exact ⟨⟨m,_,h2⟩,h3⟩
section
variable {P:Pg} {A:Around}
theorem zi {I D l:Addr}{c:Nat}{cenv:Env}{x:Str}{px p1 p2 pt pos:Pos}{kt:Nat}{iter:Expr}{scope:Scope}{items:Array Value}{h₀:Heap}(hh:A.handled=none)(hkd:cenv.scope.kind=.function)(hkn:cenv.kindOf x=some .local)(hd:(x==("__debug__":Str))=false)(hz:items.size<=lim)
  (lI:h₀.get? I≠none)(lD:h₀.get? D≠none)(lL:h₀.get? cenv.locals≠none)(nID:I≠D)(nIL:I≠cenv.locals)(nDL:D≠cenv.locals)(hl:h₀.get? l=some (bm items c))(nl:l≠I/\l≠D/\l≠cenv.locals):
  ∀(k i:Nat) (s:Shared) (acc:Array Value) (cnt:Nat) (m:Str->Option Value) (ps:List (Addr×Addr)) (R:Result->Shared->Prop),items.size - i=k->i<=items.size->(∀b o,b≠I->b≠D->b≠cenv.locals->h₀.get? b=some o->s.heap.get? b=some o)->s.heap.IsListIter I l i->s.heap.Ns cenv.locals m->s.heap.get? D=some (bm acc cnt)->acc.toList=ps.map (fun p=>Value.ref p.1)->ps.length=i->yw h₀ s.heap items ps->
   (∀h' tk acc' cnt' m' ps',(∀b o,b≠I->b≠D->b≠cenv.locals->h₀.get? b=some o->h'.get? b=some o)->h'.Ns cenv.locals m'->h'.get? D=some (bm acc' cnt')->acc'.toList=ps'.map (fun p=>Value.ref p.1)->ps'.length=items.size->yw h₀ h' items ps'->R (.ok .next) {s with heap:=h',toks:=tk})->
   codeAny P.M A (.compLoop (.ListComp (.Tuple [.Name x p1,.List [] p2] kt pt) [⟨.Name x px,iter,[],0⟩] scope pos) 0 (.ref I) (.ref D) cenv) R s:=by
 have hp:(cenv.scope.kind==.class||(cenv.scope.kind==.module&&cenv.locals !=cenv.globals))=false:=by rw [hkd];rfl
 have out:∀{b:Addr},h₀.get? b=none->b≠I/\b≠D/\b≠cenv.locals:=fun e=>⟨fun q=>lI (q▸e),fun q=>lD (q▸e),fun q=>lL (q▸e)⟩
 intro k
 induction k with
 |zero=>
  intro i s acc cnt m ps R hk hi kp it hn hD' ea el pr hR
  obtain rfl:i=items.size:=le_antisymm hi (Nat.le_of_sub_eq_zero hk)
  refine codeAny_of_tree ?_
  show wpAny P.M A ((compTurn (.ListComp (.Tuple [.Name x p1,.List [] p2] kt pt) [⟨.Name x px,iter,[],0⟩] scope pos) 0 (.ref I) (.ref D) cenv).onRaise (fun x=>do noteFrame x cenv;theTreesLotGoes x)) _ _ s
  refine wpAny_noted ?_
  rw [compTurn_list]
  refine wpAny_bind (wpAny_standAt (wpAny_bind (wpAny_pyNext_list_end hh it ⟨_,kp _ _ nl.1 nl.2.1 nl.2.2 hl,rfl,c,rfl⟩ (Array.getElem?_eq_none (le_refl _)) fun h' hs=>wpAny_pure ?_)))
  exact hR h' s.toks acc cnt m ps (fun b o n1 n2 n3 e=>hs b o n1 (kp b o n1 n2 n3 e)) (hn.at fun o e=>hs _ o (Ne.symm nIL) e) (hs D _ (Ne.symm nID) hD') ea el (pr.keep fun p hp=>⟨fun o e=>hs _ o (out (pr.nw p hp).1).1 e,fun o e=>hs _ o (out (pr.nw p hp).2).1 e⟩)
 |succ k ih=>
  intro i s acc cnt m ps R hk hi kp it hn hD' ea el pr hR
  have hlt:i < items.size:=Nat.lt_of_sub_eq_succ hk
  refine codeAny_of_tree ?_
  show wpAny P.M A ((compTurn (.ListComp (.Tuple [.Name x p1,.List [] p2] kt pt) [⟨.Name x px,iter,[],0⟩] scope pos) 0 (.ref I) (.ref D) cenv).onRaise (fun x=>do noteFrame x cenv;theTreesLotGoes x)) _ _ s
  refine wpAny_noted ?_
  rw [compTurn_list]
  refine wpAny_bind (wpAny_standAt (wpAny_bind (wpAny_pyNext_list_item it ⟨_,kp _ _ nl.1 nl.2.1 nl.2.2 hl,rfl,c,rfl⟩ (Array.getElem?_eq_getElem hlt) fun ha it1 hs1=>?_)))
  have hn1:ha.Ns cenv.locals m:=hn.at fun o e=>(hs1.2 _ (Ne.symm nIL)).trans e
  refine wpAny_bind (wpAny_pure (wpAny_bind (wpAny_assign_Name (wpAny_storeName_local hkn hn1 (fun hc hn2 hs2=>wpAny_bind (wpAny_tests_nil ?_)) hp))))
  rw [if_pos rfl]
  refine wpAny_bind (wpAny_bind (wpAny_Tuple (wpAny_items_cons (wpAny_Name (wpAny_loadName_local hkd hkn hn2 (if_pos rfl) (wpAny_items_cons (wpAny_List (wpAny_items_nil ⟨zero_le _,wpAny_items_nil ⟨(show 2<=sizeLine by decide),?_⟩⟩)) rfl)) hd) rfl)))
  have k2:∀b o,b≠I->b≠cenv.locals->s.heap.get? b=some o->hc.get? b=some o:=fun b o n1 n2 e=>(hs2.2 b n2).trans ((hs1.2 b n1).trans e)
  have k4:∀b o,hc.get? b=some o->((hc.push (bm #[] 0)).push (eW #[items[i],.ref hc.objs.size] 0)).get? b=some o:=fun b o e=>Heap.get?_push_of_some _ (Heap.get?_push_of_some _ e)
  have n2:hc.get? hc.objs.size=none:=aJ _
  have n3:(hc.push (bm #[] 0)).get? (hc.push (bm #[] 0)).objs.size=none:=aJ _
  have d2:∀{b:Addr},hc.get? b=none->h₀.get? b=none:=fun {b} e=>by
   cases q:h₀.get? b with
   |none=>rfl
   |some o=>
    by_cases b1:b=I
    .exact (let ⟨_,z,_⟩:=it1;au ((hs2.2 I nIL).trans z) (b1▸e)).elim
    .by_cases b2:b=cenv.locals
     .exact (let ⟨_,_,_,z,_⟩:=hn2;au z (b2▸e)).elim
     .by_cases b3:b=D
      .exact (au (k2 D _ (Ne.symm nID) nDL hD') (b3▸e)).elim
      .exact (au (k2 b o b1 b2 (kp b o b1 b3 b2 q)) e).elim
  have d3:hc.get? (hc.push (bm #[] 0)).objs.size=none:=ch (fun b o e=>Heap.get?_push_of_some _ e) _ n3
  have pr2:yw h₀ hc items ps:=pr.keep fun p hp=>⟨fun o e=>k2 _ o (out (pr.nw p hp).1).1 (out (pr.nw p hp).1).2.2 e,fun o e=>k2 _ o (out (pr.nw p hp).2).1 (out (pr.nw p hp).2).2.2 e⟩
  refine wpAny_bind (eA (k4 _ _ (k2 D _ (Ne.symm nID) nDL hD')) (wpAny_pure (wpAny_pure ⟨rfl,?_⟩)) (bb (by have:=congrArg List.length ea;rw [length_map,el,Array.length_toList] at this;lia -abstractProof)))
  have hs5:=Heap.SameBut.update ((hc.push (bm #[] 0)).push (eW #[items[i],.ref hc.objs.size] 0)) D (Obj.mapSeq fun a=>a.push (.ref (hc.push (bm #[] 0)).objs.size))
  have t1:((hc.push (bm #[] 0)).push (eW #[items[i],.ref hc.objs.size] 0)).get? (hc.push (bm #[] 0)).objs.size=some (eW #[items[i],.ref hc.objs.size] 0):=bD _
  have t2:((hc.push (bm #[] 0)).push (eW #[items[i],.ref hc.objs.size] 0)).get? hc.objs.size=some (bm #[] 0):=Heap.get?_push_of_some _ (bD _)
  have o1:=out (d2 d3)
  have o2:=out (d2 n2)
  refine ih (i+1) _ _ _ _ (ps++[((hc.push (bm #[] 0)).objs.size,hc.objs.size)]) R (sW hk) hlt (fun b o n1 n2 n3 e=>(hs5.2 b n2).trans (k4 b o (k2 b o n1 n3 (kp b o n1 n2 n3 e)))) (let ⟨o,z,r⟩:=it1;⟨o,(hs5.2 I nID).trans (k4 I o ((hs2.2 I nIL).trans z)),r⟩) (hn2.at fun o e=>(hs5.2 _ (Ne.symm nDL)).trans (k4 _ o e)) (IsL.update (k4 _ _ (k2 D _ (Ne.symm nID) nDL hD')) _) (by rw [Array.toList_push,ea,map_append];rfl) (by rw [List.length_append,el];rfl) ⟨fun p hp=>?_,?_,fun j p e=>?_⟩ fun h' tk acc' cnt' m' ps'=>hR h' tk acc' cnt' m' ps'
  .rcases ak hp with hp |hp
   .exact pr.nw p hp
   .rw [aa hp];exact ⟨d2 d3,d2 n2⟩
  .rw [map_append,nodup_append]
   refine ⟨pr.nd,pairwise_singleton _ _,fun b hb b' hb' q=>?_⟩
   obtain ⟨p,hp,rfl⟩:=aF hb
   rw [aa (show b'∈[hc.objs.size] from hb')] at q
   have:=(pr2.live p hp).2
   rw [q,n2] at this;cases this
  .by_cases q:j < ps.length
   .rw [getElem?_append_left q] at e
    have hp:=mem_of_getElem? e
    obtain ⟨v,m,h1,h2,h3⟩:=pr2.at_ j p e
    exact ⟨v,m,h1,(hs5.2 _ (out (pr.nw p hp).1).2.1).trans (k4 _ _ h2),(hs5.2 _ (out (pr.nw p hp).2).2.1).trans (k4 _ _ h3)⟩
   .rw [getElem?_append_right (cH q)] at e
    have:=(aj e).1
    rw [length_singleton] at this
    rw [show j - ps.length=0 by lia] at e
    cases e
    exact ⟨items[i],0,by rw [show j=i by lia -abstractProof];exact Array.getElem?_eq_getElem hlt,(hs5.2 _ o1.2.1).trans t1,(hs5.2 _ o2.2.1).trans t2⟩
end
section
variable {P:Pg} {B:br} {C:Ct} {n i:Nat} {A:Around} {env:Env} {g g' g1:Gh} {ρ:aZ} {σ:Sg} {s s' s₁:Shared} {h h':Heap} {a:Addr} {as:List Addr} {ks:List T} {ds ds1:List (List T)} {ms:List (Str×Nat)}
inductive LA (P:Pg) (h:Heap) (o:Option f8) (a:Addr):Prop
 |mk (e:f8) (us:Array Value) (m:Nat) (he:o=some e) (hg:h.get? a=some (eW us m)) (hu:us.toList=[.ref e.2.1,e.2.2]) (hk:(aN P.prog P.w).is h e.1 e.2.1)
structure LE (P:Pg) (h:Heap) (vs:List Value) (κs:List Ky) (ps:List (Addr×Addr)) (es:List f8):Prop where
 k:es.map (·.1)=κs
 v:es.map (·.2.2)=ps.map (fun p=>Value.ref p.2)
 e:vs=es.map (fun y=>Value.ref y.2.1)
 a:∀(i:Nat) p,ps[i]?=some p->LA P h es[i]? p.1
theorem qv:∀(ks:List T) (vs:List Value) (κs:List Ky) (ps:List (Addr×Addr)),aO P g h ks vs->eY ks=some κs->ps.length=vs.length->(∀(i:Nat) p v,ps[i]?=some p->vs[i]?=some v->∃m,h.get? p.1=some (eW #[v,.ref p.2] m))->
  ∃es:List f8,LE P h vs κs ps es
 | [],vs,κs,ps,r,e,l,_=>by
  cases r;cases e
  cases length_eq_zero_iff.mp l
  exact ⟨[],rfl,rfl,rfl,fun i p q=>by cases q⟩
 |t::ks,_,κs,ps,⟨v,vs,e0,q,r⟩,e,l,c=>by
  subst e0
  obtain ⟨κ,κs',e1,e2,e3⟩:=aU (show o2 (vp t) (eY ks) _=some κs from e)
  cases e3
  cases ps with
  |nil=>cases l
  |cons p ps=>
   obtain ⟨ad,rfl,hi,_⟩:=lE e1 (.inl q)
   obtain ⟨m,hm⟩:=c 0 p _ rfl rfl
   obtain ⟨es,h1,h2,h3,h4⟩:=qv ks vs κs' ps r e2 (Nat.succ.inj l) fun i p v q1 q2=>c (i+1) p v q1 q2
   refine ⟨(κ,ad,.ref p.2)::es,by rw [map_cons,h1],by rw [map_cons,h2];rfl,by rw [map_cons,<-h3],fun j p' hj=>?_⟩
   cases j with
   |zero=>cases hj;exact ⟨_,_,m,rfl,hm,rfl,hi⟩
   |succ j=>exact h4 j p' hj
theorem nG:∀{ks us:List T},eP ks us=true->∃κs,eY ks=some κs
 | [],_,_=>⟨[],rfl⟩
 |k::ks,us,e=>by
  rw [lO] at e
  match q:j6 us k with
  |some none=>
   rw [q] at e
   obtain ⟨κ,hk⟩:=jC q
   obtain ⟨κs,h⟩:=nG (ks:=ks) e
   exact ⟨κ::κs,by show o2 (vp k) (eY ks) _=_;rw [hk,h];rfl⟩
  |some (some _)=>rw [q] at e;cases e
  |none=>rw [q] at e;cases e
theorem lT:∀(ks us:List T) (xs es:List f8),eP ks us=true->eY us=some (xs.map (·.1))->eY ks=some (es.map (·.1))->lU es xs=xs++es
 | [],us,xs,es,_,_,e=>by
  cases es with
  |nil=>rw [append_nil];rfl
  |cons=>cases e
 |k::ks,us,xs,es,hf,hu,e=>by
  obtain ⟨κ,κs,e1,e2,e3⟩:=aU (show o2 (vp k) (eY ks) _=some (es.map (·.1)) from e)
  cases es with
  |nil=>cases e3
  |cons x es=>
   have e3:=Option.some.inj e3
   obtain ⟨rfl,e4⟩:=List.cons.inj e3
   rw [lO] at hf
   match q:j6 us k with
   |some none=>
    rw [q] at hf
    have at0:atKey xs x.1=none:=by rw [mj,jp hu q e1];rfl
    have st:storedH xs x.1 x.2.1 x.2.2=xs++[x]:=storedH_new at0 _ _
    have:=lT ks (us++[k]) (xs++[x]) es hf (by rw [map_append];exact sx hu e1) (by rw [e2,e4])
    show lU es (storedH xs x.1 x.2.1 x.2.2)=_
    rw [st,this,List.append_assoc];rfl
   |some (some _)=>rw [q] at hf;cases hf
   |none=>rw [q] at hf;cases hf
theorem vf.new {acc items:Array Value}{cnt:Nat}{D:Addr}{ps:List (Addr×Addr)}{Q:Value->Shared->Prop}{E:Value->Shared->Prop}(G:pL P)(rm:Rm A)(w:bj P g s₁.heap σ)(r:aO P g s₁.heap ks items.toList)(hl:ks.length<=lim)(hf:eP ks []=true)(hD:s₁.heap.get? D=some (bm acc cnt))(ea:acc.toList=ps.map fun p=>Value.ref p.1)(el:ps.length=items.size)(pr:yw h s₁.heap items ps)
  (hn:∀p∈ps,¬g.F p.2/\¬g.Z p.2)(ho:∀b,h.get? b=none->¬g.O b/\b∉own env)(hw:∀b∈own env,s₁.heap.get? b≠none)
  (hq:∀S s',aH g s₁ g s'->bj P g s'.heap σ->vf P env g s'.heap S (ps.map (·.2)) ks (ks.map fun _=>[])->s₁.heap.get? S=none->Q (.ref S) s'):wpAny P.M A (call (.type "dict") [.ref D]) Q E s₁:=by
 obtain ⟨κs,hk⟩:=nG hf
 obtain ⟨es,h1,h2,h3,h4⟩:=qv ks _ κs ps r hk (by rw [el];rfl) fun i p v q1 q2=>by
  obtain ⟨v',m,z1,z2,_⟩:=pr.at_ i p q1
  rw [Array.getElem?_toList,z1] at q2
  cases q2;exact ⟨m,z2⟩
 have hz:acc.size=ps.length:=by have:=congrArg List.length ea;rw [length_map] at this;exact this
 have le:es.length=ps.length:=by have:=congrArg List.length h2;rw [length_map,length_map] at this;exact this
 have li:=r.length
 refine gg (es:=es) (by have:=rm.units;lia -abstractProof) rm.handled hD (by rw [le,hz]) (by rw [hz,el];rw [Array.length_toList] at li;rw [li];exact hl) (fun i v hv=>?_) fun h' tk dd kp=>?_
 .rw [<-Array.getElem?_toList,ea,getElem?_map] at hv
  obtain ⟨p,hp,rfl⟩:=av hv
  obtain ⟨e,us,m,z1,z2,z3,z4⟩:=h4 i p hp
  exact ⟨p.1,e,us,m,rfl,z1,z2,z3,z4⟩
 have ef:=lT ks [] [] es hf rfl (by rw [h1];exact hk)
 rw [List.nil_append] at ef
 rw [ef] at dd
 obtain ⟨o,es',ep,e,x,d,q1,q3,q4⟩:=dd
 have pp:aH g s₁ g {s₁ with heap:=h',toks:=tk}:=.grow tk kp g.F (fun _ f=>f) fun _ f=>.inl f
 have dn:=aJ s₁.heap
 have lps:∀b∈ps.map (·.2),s₁.heap.get? b=some (bm #[] 0)/\h.get? b=none/\¬g.F b/\¬g.Z b:=fun b hb=>by
  obtain ⟨p,hp,rfl⟩:=aF hb
  exact ⟨(pr.live p hp).2,(pr.nw p hp).2,hn p hp⟩
 refine hq _ _ pp (w.grow kp g.F (fun _ f=>f) fun _ f=>.inl f) ⟨ke G w,o,es'.toList,e,⟨x,⟨ep,d⟩,⟨κs,hk,?_,?_⟩,hl⟩,?_,?_,pr.nd,fun q=>?_,fun b hb=>?_,?_,fun i b ts b1 b2=>?_⟩ dn
 .rw [q1,map_map,<-h1,map_map];rfl
 .rw [<-h1];exact q4
 .rw [q1,map_map]
  show aO P g h' ks (es.map fun y=>Value.ref y.2.1)
  rw [<-h3];exact r.mono (pp.k w)
 .rw [q1,map_map,map_map]
  exact h2
 .have:=(lps _ q).1
  rw [dn] at this;cases this
 .rcases an hb with rfl |hb
  .obtain ⟨z1,z2,z3⟩:=de w
   exact ⟨z1,z2,z3,fun q=>hw _ q dn⟩
  .obtain ⟨_,z1,z2,z3⟩:=lps b hb
   exact ⟨z2,z3,(ho b z1).1,(ho b z1).2⟩
 .rw [length_map,length_map,el];rw [Array.length_toList] at li;exact li
 .rw [getElem?_map] at b2
  obtain ⟨_,_,rfl⟩:=av b2
  exact ⟨#[],0,kp _ _ (lps b (mem_of_getElem? b1)).1,zero_le _,rfl⟩
end
noncomputable def Ge (scope:Scope)(x:Str):Bool:=scope.kind==.function&&(scope.names.all (fun x=>!(x.2==.local)||scope.names.lookup x.1==some .local)&&(scope.names.all (fun x=>!(x.2==.cell)&&!(x.2==.free))&&((scope.names.lookup x==some .local)&&!(x==("__debug__":Str)))))
section
variable {P:Pg} {B:br} {C C':Ct} {n i:Nat} {A:Around} {env:Env} {g g' g1:Gh} {ρ:aZ} {σ:Sg} {s s' s₁:Shared} {h h':Heap} {a:Addr} {as:List Addr} {ks:List T} {ds ds1:List (List T)} {ms:List (Str×Nat)}
theorem qZ {c j:Nat}{w t:T}(e0:cI ρ 0=some w)(hk:iB c j w=some t):p1 (iB c j) (pV 0) (P.cx n) ρ σ (fun t σ=>.ret t σ)=.ret t σ:=by
 show up (cI ρ 0) σ (fun a σ=>up (iB c j a) σ fun t σ=>.ret t σ)=_
 rw [e0]
 show up (iB c j w) σ _=_
 rw [hk];rfl
theorem wN {x wn:Str}{k0:NameKind}{px p1 p2 pt ap np pos:Pos}{kt:Nat}{scope:Scope}{w:T}{Q:Value->Shared->Prop}{E:Value->Shared->Prop}(O:bo P 10 ms)(hB:Ge scope x=true)(hv0:iO C 0=true)(ht0:B.tab[0]?=some (some (wn,k0)))(X:At P B C n A env g ρ σ s)(e0:cI ρ 0=some w)(hk:iB 10 4 w=some (.lst ks))
  (hq:∀D acc cnt items ps s' g',aH g s g' s'->bj P g' s'.heap σ->aO P g' s'.heap ks (items:Array Value).toList->ks.length<=lim->s'.heap.get? D=some (bm acc cnt)->acc.toList=ps.map (fun p:Addr×Addr=>Value.ref p.1)->ps.length=items.size->yw s.heap s'.heap items ps->(∀p∈ps,¬g'.F p.2/\¬g'.Z p.2)->Q (.ref D) s'):
  wpAny P.M A (eval (.ListComp (.Tuple [.Name x p1,.List [] p2] kt pt) [⟨.Name x px,.Attribute (.Name wn np) (ofString "knots") ap,[],0⟩] scope pos) env) Q E s:=by
 obtain ⟨b1,hB⟩:=af hB
 obtain ⟨b2,hB⟩:=af hB
 obtain ⟨b3,hB⟩:=af hB
 obtain ⟨b4,b5⟩:=af hB
 have b3:=fun y hy=>af (aB b3 y hy)
 have hkind:scope.kind=.function:=eq_of_beq b1
 have hx:scope.names.lookup x=some .local:=eq_of_beq b4
 rw [eval_ListComp]
 refine wpAny_comprehension_free (use:=none) rfl (fun _=>rfl) (ix (env:=env) fun y hy=>?_) hkind (fun y hy e=>?_) ?_
 .have:=(b3 _ hy).2;cases this
 .have:=aB b2 y hy
  rw [e] at this;exact eq_of_beq this
 have hp:=qZ (P:=P) (n:=n) (σ:=σ) e0 hk
 refine aq.attr O rfl (fun _=>rfl) (fun _ _=>rfl) (aq.var hv0 ht0) n A env g ρ σ s (fun t σ=>.ret t σ) _ _ X (by rw [hp];exact fun q=>by cases q) fun u s₁ g1 t σ₁ e1 pa w1 r1=>?_
 rw [hp] at e1;cases e1
 obtain ⟨l,rfl,fl,items,c,c1,c3,c2⟩:=r1
 refine wpAny_pyIter_list ⟨_,c1,rfl,c,rfl⟩ (wpAny_newList (wpAny_newFunctionEnv (fun y hy e=>?_) (fun y hy=>by cases hy) (fun h5 hn5 hsb5=>?_) hkind))
 .have:=(b3 y hy).1;rw [e] at this;cases this
 dsimp only at hn5 hsb5 ⊢
 have nI:s₁.heap.get? s₁.heap.objs.size=none:=aJ _
 have tI:=bD (h:=s₁.heap) (uR "list_iterator" l)
 have k3:∀b o,s₁.heap.get? b=some o->(s₁.heap.push (uR "list_iterator" l)).get? b=some o:=bO s₁ _
 show codeAny _ _ _ _ _
 generalize s₁.heap.push (uR "list_iterator" l)=h3 at *
 have nD:h3.get? h3.objs.size=none:=aJ _
 have tD:=bD (h:=h3) (bm #[] 0)
 have k4:∀b o,h3.get? b=some o->(h3.push (bm #[] 0)).get? b=some o:=fun b o e=>Heap.get?_push_of_some _ e
 have hsb5:Heap.SameBut (h3.push (bm #[] 0)).objs.size ((h3.push (bm #[] 0)).push {cls:=.type "dict",data:=.dict #[]}) h5:=hsb5
 have hn5:h5.Ns (h3.push (bm #[] 0)).objs.size (fun _=>none):=hn5
 have nL:(h3.push (bm #[] 0)).get? (h3.push (bm #[] 0)).objs.size=none:=aJ _
 generalize h3.push (bm #[] 0)=h4 at *
 have k5:∀b o,h4.get? b=some o->h5.get? b=some o:=fun b o e=>(hsb5.2 b fun q=>au e (q▸nL)).trans (Heap.get?_push_of_some _ e)
 generalize h4.objs.size=L at *
 generalize h3.objs.size=D at *
 generalize s₁.heap.objs.size=I at *
 have eI:=k5 _ _ (k4 _ _ tI)
 have eD:=k5 _ _ tD
 have k1:∀b o,s₁.heap.get? b=some o->h5.get? b=some o:=fun b o e=>k5 b o (k4 b o (k3 b o e))
 have nID:I≠D:=fun q=>au tI (q▸nD)
 have nIL:I≠L:=fun q=>au (k4 _ _ tI) (q▸nL)
 have nDL:D≠L:=fun q=>au tD (q▸nL)
 have nD1:s₁.heap.get? D=none:=ch k3 _ nD
 have nL1:s₁.heap.get? L=none:=ch k3 _ (ch k4 _ nL)
 have ne1:∀{b:Addr} {o:Obj},s₁.heap.get? b=some o->b≠I/\b≠D/\b≠L:=fun e=>⟨fun q=>au e (q▸nI),fun q=>au e (q▸nD1),fun q=>au e (q▸nL1)⟩
 have lL:h5.get? L≠none:=let ⟨_,_,_,z,_⟩:=hn5;au z
 have hkn:(compEnvC scope (eZ env scope.names []) L env).kindOf x=some .local:=lookup_relabel_local hx
 have loop:codeAny P.M A (.compLoop (.ListComp (.Tuple [.Name x p1,.List [] p2] kt pt) [⟨.Name x px,.Attribute (.Name wn np) (ofString "knots") ap,[],0⟩] scope pos) 0 (.ref I) (.ref D) (compEnvC scope (eZ env scope.names []) L env)) (compPost P.M A E none Q (.ref D) L) {s₁ with heap:=h5,toks:=s₁.toks+([]:List (Str×Value)).length}:=by
  refine zi (h₀:=h5) X.room.2.2 hkind hkn ((not_eq_true' _).mp b5) (by have:=c2.length;rw [Array.length_toList] at this;rw [this];exact c3) (au eI) (au eD) lL nID nIL nDL (k1 _ _ c1) (ne1 c1) _ 0 _ #[] 0 _ [] _ rfl (zero_le _) (fun b o _ _ _ e=>e) ⟨_,eI,rfl,rfl⟩ hn5 eD rfl rfl ⟨(fun p hp=>by cases hp),.nil,fun i p e=>by cases e⟩ fun h' tk acc' cnt' m' ps' kp hn' hD' ea el pr=>⟨m',hn',fun h7 hs7=>?_⟩
  have k7:∀b o,s₁.heap.get? b=some o->h7.get? b=some o:=fun b o e=>(hs7.2 b (ne1 e).2.2).trans (kp b o (ne1 e).1 (ne1 e).2.1 (ne1 e).2.2 (k1 b o e))
  have p7:aH g1 s₁ g1 {s₁ with heap:=h7,toks:=tk}:=.grow tk k7 g1.F (fun _ f=>f) fun _ f=>.inl f
  have d1:∀{b:Addr},h5.get? b=none->s₁.heap.get? b=none:=fun e=>ch k1 _ e
  refine hq D acc' cnt' items ps' _ g1 (pa.trans p7) (w1.grow k7 g1.F (fun _ f=>f) fun _ f=>.inl f) (c2.mono (p7.k w1)) c3 ((hs7.2 D nDL).trans hD') ea el ⟨fun p hp=>⟨pa.back _ (d1 (pr.nw p hp).1),pa.back _ (d1 (pr.nw p hp).2)⟩,pr.nd,fun i p e=>?_⟩ fun p hp=>⟨fun f=>w1.F _ f (d1 (pr.nw p hp).2),fun z=>(w1.Z _ z).1 (d1 (pr.nw p hp).2)⟩
  have hp:=mem_of_getElem? e
  obtain ⟨v,m,q1,q2,q3⟩:=pr.at_ i p e
  exact ⟨v,m,q1,(hs7.2 _ fun q=>lL (q▸(pr.nw p hp).1)).trans q2,(hs7.2 _ fun q=>lL (q▸(pr.nw p hp).2)).trans q3⟩
 exact codeAny_compStart_list loop (wpAny_pyIter_listiter ⟨_,eI,rfl,rfl⟩ loop)
theorem At.one {w:T}(X:At P B C n A env g ρ σ s)(e0:cI ρ 0=some w)(h0:0∉C.U):At P B C n A env g [some w,none,none,none] σ s:=
 have k:∀{i:Nat} {t:T},cI [some w,none,none,none] i=some t->i=0/\t=w:=fun {i t} e=>by
  match i,e with
  | 0,e=>cases e;exact ⟨rfl,rfl⟩
  | 1,e=>cases e
  | 2,e=>cases e
  | 3,e=>cases e
  |_+4,e=>cases e
 ⟨X.good,X.call,X.room,{X.env with
  var:=fun i y t ht hv=>let ⟨h1,h2⟩:=k hv;X.env.var i y t ht (by rw [h1,h2];exact e0)
  un:=fun i hi=>by
   cases e:cI [some w,none,none,none] i with
   |none=>rfl
   |some t=>exact (h0 ((k e).1▸hi)).elim},X.g⟩
theorem bj.freezeL {l:List Addr}(w:bj P g h σ)(hl:∀b∈l,h.get? b≠none/\¬g.Z b/\¬g.O b):bj P {g with F:=fun y=>g.F y\/y∈l} h σ:=by
 have kf:aR g h {g with F:=fun y=>g.F y\/y∈l} h:=⟨fun b f=>⟨.inl f,fun _ e=>e⟩,rfl⟩
 exact ⟨fun b o e=>⟨.inl (w.base b o e).1,(w.base b o e).2⟩,fun b f=>f.elim (w.F b) fun q=>(hl b q).1,fun b q=>⟨(w.Z b q).1,fun f=>f.elim (w.Z b q).2 fun e=>(hl b e).2.1 q⟩,
  fun b q=>⟨(w.O b q).1,fun f=>f.elim (w.O b q).2.1 fun e=>(hl b e).2.2 q,(w.O b q).2.2⟩,w.oo,w.spot,fun c ts e=>(w.self c ts e).mono kf (fun _ q=>⟨q,fun _ e=>e⟩) rfl⟩
theorem vf.rp (L:vf P env g h a as ks ds):Rp P {g with F:=fun y=>g.F y\/y∈a::as} h (.dct ks (ds.map .lst)) (.ref a):=by
 have kf:aR g h {g with F:=fun y=>g.F y\/y∈a::as} h:=⟨fun b f=>⟨.inl f,fun _ e=>e⟩,rfl⟩
 obtain ⟨q,o,es,e,d,r,v,nd,na,lm,l,c⟩:=L
 refine ⟨a,rfl,.inr mem_cons_self,q,o,es,e,d,r.mono kf,?_⟩
 rw [v]
 refine aO.of (by rw [length_map,length_map];exact l) fun i u t h1 h2=>?_
 rw [getElem?_map] at h1 h2
 obtain ⟨x,hx,rfl⟩:=av h1
 obtain ⟨ts,ht,rfl⟩:=av h2
 exact ((c i x ts hx ht).mono kf fun _ e=>e).rp (.inr (mem_cons_of_mem _ (mem_of_getElem? hx)))
theorem Fo {wn fo kn' ot x:Str}{k0 k1 k2 k3:NameKind}{q1 q2 q3 q4 px p1 p2 pt ap np cpos tp np2 ap2 fpos tp2 np3 ap3 sp3 kp3 fpos2 f1 f2 f3 fs fa fc fe rp rr:Pos}{kt:Nat}{scope:Scope}(O:bo P 10 ms)(hB:Ge scope x=true)(h0:C.U.all (fun i=>Nat.ble 1 i)=true)(hv:(iO C 0&&(iO C 2&&iO C 3))=true)(hc:(ci C 1 false C&&(ci C 2 false C&&ci C 3 false C))=true)
  (ht0:B.tab[0]?=some (some (wn,k0)))(ht1:B.tab[1]?=some (some (fo,k1)))(ht2:B.tab[2]?=some (some (kn',k2)))(ht3:B.tab[3]?=some (some (ot,k3)))(hk1:k1=.local\/k1=.cell)(hk2:k2=.local\/k2=.cell)(hk3:k3=.local\/k3=.cell)
  (hx:B.sc.names.lookup (ofString "dict")=some .globalImplicit)(hw1:vk (.Call (.Name (ofString "dict") q2) [.ListComp (.Tuple [.Name x p1,.List [] p2] kt pt) [⟨.Name x px,.Attribute (.Name wn np) (ofString "knots") ap,[],0⟩] scope cpos] [] q3) fo q1 q4.line B.sc=false)
  (hbase:∀env,attributeBase (.Subscript (.Name fo f1) (.Name ot f2) fs) (ofString "append") env (eval (.Subscript (.Name fo f1) (.Name ot f2) fs) env)=eval (.Subscript (.Name fo f1) (.Name ot f2) fs) env)(hline:(fa.endLine==fc.line)=true)
  (hw:∀env,swapsWith (.Call (.Attribute (.Subscript (.Name fo f1) (.Name ot f2) fs) (ofString "append") fa) [.Name kn' f3] [] fc) none fe.line env=pure false):
  gO P B C false C' [.Assign [.Name fo q1] (.Call (.Name (ofString "dict") q2) [.ListComp (.Tuple [.Name x p1,.List [] p2] kt pt) [⟨.Name x px,.Attribute (.Name wn np) (ofString "knots") ap,[],0⟩] scope cpos] [] q3) q4,
   .For (.Name kn' tp) (.Attribute (.Name wn np2) (ofString "knots") ap2) [.For (.Name ot tp2) (.Subscript (.Attribute (.Name wn np3) (ofString "threads") ap3) (.Name kn' kp3) sp3) [.Expr (.Call (.Attribute (.Subscript (.Name fo f1) (.Name ot f2) fs) (ofString "append") fa) [.Name kn' f3] [] fc) fe] [] fpos2] [] fpos,
   .Return (some (.Name fo rp)) rr] C7:=fun n A env g ρ σ s k Q E X hb hq hr=>by
 obtain ⟨hv0,hv⟩:=af hv
 obtain ⟨hv2,hv3⟩:=af hv
 obtain ⟨hc1,hc⟩:=af hc
 obtain ⟨hc2,hc3⟩:=af hc
 unfold C7 at hb hr
 cases e0:cI ρ 0 with
 |none=>rw [e0] at hb;exact absurd rfl hb
 |some w=>
  cases el:BN w with
  |none=>simp only [e0,el] at hb;exact absurd rfl hb
  |some t=>
   simp only [e0,el] at hr
   obtain ⟨kl,a1,a2⟩:=az el
   obtain ⟨ks,a3,a4⟩:=az a2
   obtain ⟨th,a5,a6⟩:=az a4
   obtain ⟨a7,a8⟩:=pI a6
   obtain ⟨ds,a9,a10⟩:=az a8
   cases a10
   cases eU a3
   obtain ⟨_,hf⟩:=af a7
   rw [nC] at a9
   have X:=X.one e0 fun q=>by cases le_of_ble_eq_true (aB h0 0 q)
   refine wpAny_execs_cons (wpAny_Assign_Name (Call_Name rfl (X.blt hx (by decide) (by decide) (v:=.type "dict") (by decide) (bf (fun _ q=>by cases q) (bA fun q hq=>?_) (wpAny_items_cons (wN O hB hv0 ht0 X rfl a1 fun D acc cnt items ps s₁ g1 pa w1 r1 l1 hD ea eq pr hn=>wpAny_items_nil ?_) rfl)))) (by rw [jv X.env.sc,hw1]))
   .cases hq with
    |head=>rfl
    |tail _ h=>cases h
   refine vf.new (env:=env) X.good X.rm w1 r1 l1 hf hD ea eq pr hn (fun b hb=>⟨fun ⟨i,q⟩=>(X.g.O b ⟨i,pa.o▸q⟩).1 hb,fun q=>(X.env.own b q).1 hb⟩) (fun b hb=>pa.live (X.env.own b hb).1) fun S s2 pb w2 L nS=>?_
   have p02:=pa.trans pb
   refine nc (o:=none) (X.post p02 w2) (ee hc1).1.nu ht1 hk1 (fun _ e=>nomatch e) fun s3 p3 X3 va _=>?_
   have p3:bC [] (own env) g1 s2 g1 s3:=p3.weak (fun _ h=>h) c9
   have v3:=L.vol.post L.live p3.toS
   have Y:c8 P B C n A env σ S (ps.map (·.2)) ks g1 [some w,none,none,none] s3 (ks.map fun _=>[]):=⟨X3,va,L.keep (p3.toS.k w2 fun b hb=>((X.post p02 w2).env.own b hb).2.1) v3.2 v3.1⟩
   have p03:aS [] (own env) g s g1 s3:=p02.toS.trans p3.toS
   refine wpAny_execs_cons (tB (i:=2) (f:=F8 ks th) (K:=fun ρ=>cI ρ 0=some w/\ρ.length=4) (fun _ _=>rfl) (aq.attr O rfl (fun _=>rfl) (fun _ _=>rfl) (aq.var hv0 ht0)) hc2 ht2 hk2 (by decide) (fun ρ t h=>⟨⟨(oz (by decide)).trans h.1,by rw [length_set];exact h.2⟩,rV (by rw [h.2];decide)⟩) (fun t g ρ s ds ds1 Q E e Y kr et hq=>?_) Y ⟨rfl,rfl⟩ (qZ rfl a1) a9 fun s5 g5 ρ₅ q Y5 ka=>?_)
   .obtain ⟨lv,f1,f2⟩:=az e
    obtain ⟨os,f3,f4⟩:=az f2
    cases eU f3
    rw [nE] at f4
    refine wpAny_execs_cons (tB (i:=3) (f:=Fc ks t) (K:=fun ρ=>(cI ρ 0=some w/\ρ.length=4)/\cI ρ 2=some t) (fun _ _=>rfl) (aq.idxD (fun _ _=>rfl) (dB.vx (aq.attr O (i:=6) rfl (fun _=>rfl) (fun _ _=>rfl) (aq.var hv0 ht0))) (dB.vx (aq.var hv2 ht2))) hc3 ht3 hk3 (by decide) (fun ρ t h=>⟨⟨⟨(oz (by decide)).trans h.1.1,by rw [length_set];exact h.1.2⟩,(oz (by decide)).trans h.2⟩,rV (by rw [h.1.2];decide)⟩) (fun o g ρ s ds ds1 Q E e Y kr eo hq=>?_) Y ⟨kr,et⟩ (ts:=os) ?_ f4 fun s' g' ρ' q Y' k'=>wpAny_execs_nil (hq s' g' ρ' q Y' k'.1))
    .exact wpAny_execs_cons (wM ht1 ht2 ht3 hv2 hv3 hbase hline (fun _=>rfl) hw Y kr.2 eo e fun s' q Y'=>wpAny_execs_nil (hq s' g ρ q Y' kr))
    .show up (cI ρ 0) σ (fun a σ=>up (iB 10 6 a) σ fun t σ=>up (cI ρ 2) σ fun b σ=>up (idxD t b) σ fun t σ=>.ret t σ)=_
     simp only [kr.1,up,a5,et,f1]
   .have dd:∀b∈S::ps.map (·.2),s.heap.get? b=none:=fun b hb=>by
     rcases an hb with rfl |hb
     .exact pa.back _ nS
     .obtain ⟨p,hp,rfl⟩:=aF hb
      exact (pr.nw p hp).2
    have wF:=Y5.X.g.freezeL (l:=S::ps.map (·.2)) fun b hb=>⟨Y5.L.live b hb,(Y5.L.vol b hb).2.1,(Y5.L.vol b hb).2.2.1⟩
    refine wpAny_execs_cons (wpAny_Return_some (bh Y5.X ht1 Y5.va (hr _ s5 _ _ σ rfl ?_ wF Y5.L.rp)))
    exact ⟨St.trans p03.st q.st,fun b o e z o' w=>q.keep b o (p03.keep b o e z o' w) (fun x=>(p03.Zn b x).elim z (au e)) (fun x=>(p03.On b x).elim o' (au e)) fun x=>(ak x).elim (fun x=>au e (dd b (mem_cons_of_mem _ x))) w,fun b _ e=>p03.b b (q.b b e),fun b f=>.inl (q.F b (p03.F b f)),
     fun b f=>f.elim (fun f=>(q.Fn b f).elim (p03.Fn b) fun x=>.inr (x.elim (p03.On b) fun x=>.inr (p03.b b x))) fun x=>.inr (.inr (dd b x)),fun b f=>(q.Zn b f).elim (p03.Zn b) fun x=>.inr (p03.b b x),fun b f=>(q.On b f).elim (p03.On b) fun x=>.inr (p03.b b x),q.sp.trans p03.sp,q.sa.trans p03.sa⟩
end
end
end Mine
namespace Mine
noncomputable section
open PySem PyProof.Rows PySem.SeqAt MeetsSeq MeetsSeq2 MeetsSeq3 SeqRoads2
section
variable {P:Pg} {B:br} {C:Ct} {g:Gh} {h:Heap}
theorem zz:vw .list (ofString "count") "list.count":=⟨F.slot_list_count,F.type_list_count⟩
theorem xD:pK P (C5 P "list.count") xE (RV P):=fun A env g σ s x x' t t' y Q E rm w q q' e hq=>by
 obtain ⟨xs,e1,e2⟩:=az e
 obtain ⟨d,ds,h1,h2,e3⟩:=aU e2
 cases e3
 obtain ⟨l,rfl,vs,n,a1,a3,a2⟩:=q.ls e1
 obtain ⟨⟨as,r1⟩,c1,l1⟩:=bH cf t' x' d h1 q'
 obtain ⟨⟨bs,r2⟩,c2,l2⟩:=dF (fun t x d e r=>bH cf t x d e (.inl r)) xs _ ds h2 a2
 have hmap:=readsAll_map ds vs.toList bs c2 r2
 refine call_meets F.slot_list_count ⟨_,a1,rfl⟩ F.entry_list_count (F.args_list_count_2 _ _) (list_countAt l vs n Option.none #[] x' (fun v=>PyData.eqv (readOf s.heap v) d)) ⟨a1,items_eqAt r2 r1 c2 c1 (lt_of_le_of_lt (by lia -abstractProof) (lW (b:=d.depth) rm l2)),?_⟩
 rw [show vs.toList.countP (fun v=>PyData.eqv (readOf s.heap v) d)=ds.countP (fun y=>PyData.eqv y d) by rw [<-hmap,List.countP_map];rfl]
 exact cE w hq
theorem mP (l:Addr)(items:Array Value)(n:Nat)(dd:Option Addr)(sl:Array (Option Value))(x:Value)(e:Value->Bool)(i j:Nat)(tk:Tok)(hij:i<=j)(hj:j < items.size)(hsmall:(j:Int) < 2 ^ 63 - 1)
  (hit:e items[j]=true)(hno:∀m (hm:m < items.size),i<=m->m < j->e items[m]=false):
  Meets (Builtin.«list.index» ⟨[.ref l,x,.int i tk],[]⟩)
   (fun A R s=>s.heap.get? l=some {cls:=.type "list",dict:=dd,data:=.seq items n,slots:=sl}/\(∀y,y∈items->EqAt A.in1 s y x (e y))/\R (.ok (.ret (.int j s.toks))) {s with toks:=s.toks+1}):=by
 intro prog w A R s h
 obtain ⟨hp,g,d,tk,os⟩:=s;obtain ⟨hl,he,h⟩:=h
 wp_walk using wpAny_loadPart' hl
 have a1:((fun i:Int=>if i < 0 then max 0 (i+(items.size:Int)) else i) ((some (i:Int)).getD 0))=((i:Nat):Int):=if_neg (Int.not_lt.mpr (natCast_nonneg i))
 have a2:((fun i:Int=>if i < 0 then max 0 (i+(items.size:Int)) else i) ((none:Option Int).getD (2 ^ 63 - 1)))=2 ^ 63 - 1:=rfl
 rw [a1,a2]
 exact ⟨plainId_quiet plain_index_loop _,codeAny_builtin entry_index_loop (by
  rw [Around.under_plainId plain_index_loop _]
  exact index_loopAt l items n dd sl x e (2 ^ 63 - 1) j hj hsmall hit _ i rfl hij hno prog w A R _ ⟨hl,he,h⟩)⟩
theorem BK {A:Around}{env:Env}{s:Shared}{o e f:Expr}{name:Str}{apos pos:Pos}{id:String}{K:MK}{Q:Value->Shared->Prop}{E:Value->Shared->Prop}(i:vw K name id)(hbase:∀env,attributeBase o name env (eval o env)=eval o env)(hline:(apos.endLine==pos.line)=true)(htrees:∀env,backTo pos (starEach [e,f] env)=[(false,eval e env),(false,eval f env)])
  (h:wpAny P.M A (eval o env) (fun x s₁=>CZ K s₁ x/\wpAny P.M A (eval e env) (fun y s2=>wpAny P.M A (eval f env) (fun z s3=>wpAny P.M A (PySem.call (.builtin id) [x,y,z]) Q E s3) E s2) E s₁) E s):wpAny P.M A (eval (.Call (.Attribute o name apos) [e,f] [] pos) env) Q E s:=
 wpAny_Call_method2_late (hbase env) hline (htrees env) (wpAny_mono h (fun x s₁ ⟨k,ha⟩=>⟨K.id,id,K.plain,i.slot,i.ty,k.1,k.2,bf (fun _ q=>by cases q) (fun p hp=>by
  rcases an hp with rfl |hp
  .rfl
  .rw [aa hp]) (Calls.spliced_cons (wpAny_mono ha (fun _ _ hc=>Calls.spliced_cons (wpAny_mono hc (fun _ _ hd=>Calls.spliced_nil hd) fun _ _ h=>h)) fun _ _ h=>h))⟩) fun _ _ h=>h)
theorem z9 {α:Type}{b:Bool}{x:Option α}{y:α}(h:(bif b then x else none)=some y):b=true/\x=some y:=by
 cases b
 .cases h
 .exact ⟨rfl,h⟩
theorem uV {A:Around}{σ:Sg}{s:Shared}{x x' x'':Value}{t t' t'' y:T}{Q:Value->Shared->Prop}{E:Value->Shared->Prop}(rm:Rm A)(w:bj P g s.heap σ)(q:dY P g s.heap t x)(q':dY P g s.heap t' x')(q'':dY P g s.heap t'' x'')(e:kC t t' t''=some y)
  (hq:∀u s' g',aH g s g' s'->bj P g' s'.heap σ->RV P s.heap g' s'.heap y u->Q u s'):wpAny P.M A (PySem.call (.builtin "list.index") [x,x',x'']) Q E s:=by
 obtain ⟨xs,i,e1,ei,e2⟩:=aU e
 obtain ⟨hb,e2⟩:=z9 e2
 obtain ⟨d,ds,h1,h2,e3⟩:=aU e2
 obtain ⟨j,h3,e4⟩:=az e3
 cases e4
 obtain ⟨i,rfl⟩:∃k:Nat,i=(k:Int):=⟨i.toNat,(Int.toNat_of_nonneg (of_decide_eq_true (fM hb))).symm⟩
 obtain ⟨tk,rfl⟩:=q''.i ei
 obtain ⟨l,rfl,vs,n,a1,a3,a2⟩:=q.ls e1
 obtain ⟨⟨as,r1⟩,c1,l1⟩:=bH cf t' x' d h1 q'
 obtain ⟨⟨bs,r2⟩,c2,l2⟩:=dF (fun t x d e r=>bH cf t x d e (.inl r)) xs _ ds h2 a2
 have hmap:=readsAll_map ds vs.toList bs c2 r2
 rw [Int.toNat_natCast] at h3
 obtain ⟨hj,hj1,hj2⟩:=List.findIdx?_eq_some_iff_getElem.mp h3
 have hlen:ds.length=vs.size:=by rw [<-hmap,length_map];rfl
 have at':∀(k:Nat) (h:k < vs.size) (h':k < ds.length),readOf s.heap vs[k]=ds[k]:=fun k h h'=>by
  have:ds[k]=(vs.toList.map (readOf s.heap))[k]'(by rw [length_map];exact h):=by simp only [hmap]
  rw [this,getElem_map];rfl
 have hij:i+j < ds.length:=by rw [length_drop] at hj;exact Nat.add_lt_of_lt_sub' hj
 refine call_meets F.slot_list_index ⟨_,a1,rfl⟩ F.entry_list_index (F.args_list_index_3 _ _ _)
  (mP l vs n Option.none #[] x' (fun v=>PyData.eqv (readOf s.heap v) d) i (i+j) tk (le_add_right _ _) (hlen▸hij) (by have:=a2.size;have:lim=1000000:=rfl;lia -abstractProof) (by rw [at' (i+j) (hlen▸hij) hij,<-List.getElem_drop (h:=hj)];exact hj1) fun k hk hik hkj=>?_)
  ⟨a1,items_eqAt r2 r1 c2 c1 (lt_of_le_of_lt (by lia -abstractProof) (lW (b:=d.depth) rm l2)),?_⟩
 .have:=hj2 (k - i) (by lia)
  rw [List.getElem_drop] at this
  rw [at' k hk (hlen▸hk)]
  simpa [Nat.add_sub_cancel' hik] using this
 .exact cE w hq
theorem aq.idx3 {o e f:Expr}{name:Str}{apos pos:Pos}{po pe pf:PE}(hy:(name==ofString "index")=true)(hbase:∀env,attributeBase o name env (eval o env)=eval o env)(hline:(apos.endLine==pos.line)=true)
  (htrees:∀env,backTo pos (starEach [e,f] env)=[(false,eval e env),(false,eval f env)])(h1:aq P B C o po (RX P))(h2:aq P B C e pe (RX P))(h3:aq P B C f pf (RX P)):aq P B C (.Call (.Attribute o name apos) [e,f] [] pos) (Gb .list kC po pe pf) (RV P):=
 (h1.bind (N:=fun A env x Q E s=>CZ .list s x/\wpAny P.M A (eval e env) (fun y s2=>wpAny P.M A (eval f env) (fun z s3=>wpAny P.M A (PySem.call (.builtin "list.index") [x,y,z]) Q E s3) E s2) E s) (F:=fun c ρ k a σ=>gd (kT .list a) (pe c ρ σ fun b σ=>pf c ρ σ fun x σ=>up (kC a b x) σ k)) jt fun n A env g g1 ρ σ s s₁ x t kk Q E p X r hb hq=>by
  have hk:=jd hb
  rw [hk] at hb hq
  refine ⟨qA (im.y r) hk,h2 n A env g1 ρ σ s₁ _ _ E X hb fun x' s2 g2 t' σ₂ ea p2 w2 ra=>?_⟩
  have X2:=X.post p2 w2
  refine h3 n A env g2 ρ σ₂ s2 _ _ E X2 (fun q=>hb (ea.trans q)) fun x'' s3 g3 t'' σ₃ eb p3 w3 r3=>?_
  obtain ⟨y,e'⟩:=bV fun q=>hb (ea.trans (eb.trans q))
  exact uV X.rm w3 (im.post X2.g p3 (im.post X.g p2 r)).y (im.post X2.g p3 ra).y (im.y r3) e' fun u s' g' p w r=>hq u s' g' y σ₃ (ea.trans (eb.trans (by rw [e'];rfl))) (p2.trans (p3.trans p)) w r).map fun A env Q E s h=>BK (K:=.list) (by rw [eq_of_beq hy];exact tM) hbase hline htrees h
theorem xI:iH P .Is Gf:=fun A g σ s x x' t t' b Q E rm w q q' e k=>by
 obtain ⟨c,d,e1,e2,e3⟩:=aU e
 cases e3
 rw [q'.b e2]
 cases t with
 |none=>
  cases e1
  rw [show x=_ from q.v fun _ h=>h]
  exact wpAny_is_plain (by cases d<;>rfl) (by cases d<;>exact k s.toks)
 |bool v=>
  cases e1
  rw [show x=_ from q.v fun _ h=>h]
  exact wpAny_is_plain (by cases d<;>cases v<;>rfl) (by cases d<;>cases v<;>exact k s.toks)
 |_=>cases e1
theorem u7:iH P .IsNot Ft:=fun A g σ s x x' t t' b Q E rm w q q' e k=>by
 obtain ⟨c,e1,rfl⟩:=av e
 exact qD (xI A g σ s x x' t t' c _ E rm w q q' e1 fun tk=>⟨rfl,k tk⟩)
end
end
end Mine
end
section
namespace Mine
open PySem
noncomputable abbrev Tb:=List (Option (Str×NameKind))
noncomputable abbrev lo (x:String):Option (Str×NameKind):=some (ofString x,.local)
noncomputable abbrev ce (x:String):Option (Str×NameKind):=some (ofString x,.cell)
theorem vv {P:Pg}{B:br}{C:Ct}{i:Nat}{y:Str}{k:NameKind}{pos:Pos}(hv:iO C i=true)(ht:B.tab[i]?=some (some (y,k))):aq P B C (.Name y pos) (pV i) (RX P):=dB.vx (aq.var hv ht)
universe u v w
theorem rf {α:Sort u}{z:Sort v}{f:α->z}(a:α):f a=f a:=rfl
theorem GW {α:Sort u}{z:Sort v}{q:Sort w}{f:α->z->q}(a:α)(b:z):f a b=f a b:=rfl
theorem vi {P:Pg}{B:br}{C:Ct}{i:Int}{k:Nat}{pos:Pos}:aq P B C (.Constant (.int i) k pos) (pC (.int i)) (RX P):=dB.vx aq.int
theorem dH.badZ {P:Pg}{B:br}{C C':Ct}{fr:Bool}{ss:List Stmt}:gO P B C fr C' ss g9:=fun n A env g ρ σ s k Q E X hb hq hr=>absurd rfl hb
end Mine
end
section
set_option tactic.hygienic false
namespace Mine
noncomputable section
open PySem PyProof.Rows PySem.SeqAt MeetsSeq MeetsSeq2 MeetsSeq3 SeqRoads2 AutoSeq1
theorem wI {a b:Bool}(h:(a==b)=false):decide (PyProof.Rows.b2i a < PyProof.Rows.b2i b)=b:=by revert h;cases a<;>cases b<;>decide
noncomputable def bv (g:List Bool):Array Value:=(g.map Value.bool).toArray
theorem AK {a b:Bool}{r s:List Bool}:r0 (a::r) (b::s)=bif a==b then r0 r s else b:=rfl
set_option maxHeartbeats 1000000 in
theorem rI (l b:Addr)(gs hs:List Bool)(n n2:Nat):
  Meets (Builtin.«tuple.__lt__» ⟨[.ref l,.ref b],[]⟩)
   (fun A R s=>s.heap.get? l=some (eW (bv gs) n)/\s.heap.get? b=some (eW (bv hs) n2)/\R (.ok (.ret (.bool (r0 gs hs)))) s):=
 .of_wp fun prog w A R s h=>by
  obtain ⟨hp,g,d,tk,os⟩:=s;obtain ⟨hl,hb,h⟩:=h
  have f2:=AutoSeq1.sub_tuple_tuple
  wp_walk using wpAny_loadPart' hl,wpAny_loadPart' hb,wpAny_forIn_list _ (fun rest b s'=>b.1=none/\s'=⟨hp,g,d,tk,os⟩/\∃gs' hs',rest=(gs'.map Value.bool).zip (hs'.map Value.bool)/\gs.length+hs'.length=hs.length+gs'.length/\
   R (.ok (.ret (.bool (r0 gs' hs')))) ⟨hp,g,d,tk,os⟩) _
  case turn=>
   rintro ⟨y,x⟩ rest b s' ⟨hb',rfl,gs',hs',hz,hn,hR⟩
   cases gs' with
   |nil=>cases hz
   |cons p gs'=>cases hs' with
    |nil=>cases hz
    |cons q hs'=>
     injection hz with hyx hrest
     cases hyx
     refine wpAny_bind (EqAt.bool_bool p q prog w _ _ ?_)
     cases hy:p==q with
     |true=>
      rw [AK,hy] at hR
      wp_walk
      exact ⟨rfl,rfl,gs',hs',hrest,by simp only [length_cons] at hn;omega,hR⟩
     |false=>
      rw [AK,hy] at hR
      rw [if_pos (show (!false)=true from rfl)]
      refine wpAny_bind (wpAny_rule (wpAny_bind (lt_bool ?_)))
      rw [wI hy]
      refine wpAny_bind (wpAny_pure (wpAny_pure ?_))
      exact wpAny_pure ⟨_,rfl,hR⟩
  case fin=>
   rintro ⟨b1,b2⟩ s' ⟨hb',rfl,gs',hs',hz,hn,hR⟩
   simp only at hb'
   subst hb'
   wp_walk
   refine ⟨_,rfl,?_⟩
   have e:r0 gs' hs'=decide ((bv gs).size < (bv hs).size):=by
    have h1:(bv gs).size=gs.length:=by simp [bv]
    have h2:(bv hs).size=hs.length:=by simp [bv]
    rw [h1,h2]
    cases gs' with
    |nil=>cases hs' with
     |nil=>exact (decide_eq_false (by simp only [length_nil] at hn;omega)).symm
     |cons q hs'=>exact (decide_eq_true (by simp only [length_nil,length_cons] at hn;omega)).symm
    |cons p gs'=>cases hs' with
     |nil=>exact (decide_eq_false (by simp only [length_nil,length_cons] at hn;omega)).symm
     |cons q hs'=>cases hz
   rw [e] at hR
   exact hR
  case h=>
   exact ⟨rfl,rfl,gs,hs,by simp [bv],by omega,h⟩
end
end Mine
end
section
namespace Mine
open PySem PySem.W PyProof.Rows
section
variable {n:Nat} {o:Nat->Nat->Bool} {cmp:Nat->Nat->(Bool->Shared->Prop)->Shared->Prop} {s:Shared}
structure A7 (n:Nat) (o:Nat->Nat->Bool):Prop where
 tot:∀i j,i < n->j < n->i≠j->o i j=false->o j i=true
 tr:∀i j k,i < n->j < n->k < n->o i j=true->o j k=true->o i k=true
noncomputable def CL (n:Nat)(o:Nat->Nat->Bool)(cmp:Nat->Nat->(Bool->Shared->Prop)->Shared->Prop)(s:Shared):Prop:=∀i j (C:Bool->Shared->Prop),i < n->j < n->i≠j->C (o i j) s->cmp i j C s
structure nZ (n:Nat) (p:Array Nat):Prop where
 sz:p.size=n
 lt:∀k,k < n->p.getD k 0 < n
 inj:∀k l,k < n->l < n->p.getD k 0=p.getD l 0->k=l
 pm:p.Perm (List.range n).toArray
theorem nZ.of {p:Array Nat}(h:p.Perm (List.range n).toArray):nZ n p:=by
 have hl:p.toList.Perm (List.range n):=h.toList
 have hs:p.toList.length=n:=by rw [hl.length_eq,length_range]
 have hs':p.size=n:=hs
 have hg:∀k (h:k < n),p.getD k 0=p.toList[k]'(by rw [hs];exact h):=fun k h=>by
  rw [Array.getD,dif_pos (by rw [hs'];exact h)];rfl
 refine ⟨hs',fun k hk=>?_,fun k l hk hl' e=>?_,h⟩
 .rw [hg k hk]
  exact dA (hl.mem_iff.mp (getElem_mem _))
 .rw [hg k hk,hg l hl'] at e
  have nd:=List.pairwise_iff_getElem.mp ((hl.nodup_iff).mpr List.nodup_range)
  rcases Nat.lt_trichotomy k l with q |q |q
  .exact (nd k l _ _ q e).elim
  .exact q
  .exact (nd l k _ _ q e.symm).elim
noncomputable def rE (o:Nat->Nat->Bool)(p:Array Nat)(m:Nat):Prop:=∀i j,i < j->j < m->o (p.getD i 0) (p.getD j 0)=true
theorem rE.more (O:A7 n o){p:Array Nat}(P:nZ n p){m:Nat}(h:rE o p m)(h1:1<=m)(hm:m < n)(e:o (p.getD m 0) (p.getD (m - 1) 0)=false):rE o p (m+1):=fun i j hij hj=>by
 by_cases q:j < m
 .exact h i j hij q
 .obtain rfl:j=m:=by omega
  have a:=O.tot _ _ (P.lt j hm) (P.lt (j - 1) (by omega)) (fun e=>by have:=P.inj _ _ hm (by omega) e;omega) e
  by_cases q:i=j - 1
  .exact q▸a
  .exact O.tr _ _ _ (P.lt i (by omega)) (P.lt (j - 1) (by omega)) (P.lt j hm) (h i (j - 1) (by omega) (by omega)) a
theorem sR (O:A7 n o)(c:CL n o cmp s){p:Array Nat}(P:nZ n p){Q:Nat->Shared->Prop}:∀f m,1<=m->m+f=n->rE o p m->(∀k,m<=k->k<=n->rE o p k->(k=n\/o (p.getD k 0) (p.getD (k - 1) 0)=true)->Q k s)->(kas_asc p f m).kasWp cmp Q s
 | 0,m,_,e,h,hq=>hq m (le_refl _) (by omega) h (.inl (by omega))
 |f+1,m,h1,e,h,hq=>by
  refine c _ _ _ (P.lt m (by omega)) (P.lt (m - 1) (by omega)) (fun e=>by have:=P.inj _ _ (by omega) (by omega) e;omega) ?_
  cases q:o (p.getD m 0) (p.getD (m - 1) 0) with
  |true=>exact hq m (le_refl _) (by omega) h (.inr q)
  |false=>exact sR O c P f (m+1) (by omega) (by omega) (h.more O P h1 (by omega) q) fun k a b=>hq k (by omega) b
noncomputable def E0 (o:Nat->Nat->Bool)(p:Array Nat)(m:Nat):Prop:=∀i j,i < j->j < m->o (p.getD j 0) (p.getD i 0)=true
theorem tT (O:A7 n o)(c:CL n o cmp s){p:Array Nat}(P:nZ n p){Q:Array Nat×Nat×Nat->Shared->Prop}:∀f m,1<=m->m+f=n->E0 o p m->(∀k,m<=k->k<=n->E0 o p k->Q (p,k,0) s)->(kas_desc f p m 0).kasWp cmp Q s
 | 0,m,_,e,h,hq=>hq m (le_refl _) (by omega) h
 |f+1,m,h1,e,h,hq=>by
  have ne:p.getD m 0≠p.getD (m - 1) 0:=fun e=>by have:=P.inj _ _ (by omega) (by omega) e;omega
  refine c _ _ _ (P.lt m (by omega)) (P.lt (m - 1) (by omega)) ne ?_
  cases q:o (p.getD m 0) (p.getD (m - 1) 0) with
  |true=>
   refine tT O c P f (m+1) (by omega) (by omega) (fun i j hij hj=>?_) fun k a b=>hq k (by omega) b
   by_cases w:j < m
   .exact h i j hij w
   .obtain rfl:j=m:=by omega
    by_cases w:i=j - 1
    .exact w▸q
    .exact O.tr _ _ _ (P.lt j (by omega)) (P.lt (j - 1) (by omega)) (P.lt i (by omega)) q (h i (j - 1) (by omega) (by omega))
  |false=>
   refine c _ _ _ (P.lt (m - 1) (by omega)) (P.lt m (by omega)) ne.symm ?_
   rw [O.tot _ _ (P.lt m (by omega)) (P.lt (m - 1) (by omega)) ne q]
   exact hq m (le_refl _) (by omega) h
theorem iu (p:Array Nat)(k:Nat):p.getD k 0=p[k]?.getD 0:=by rw [Array.getD_eq_getD_getElem?]
theorem tc {p:Array Nat}{m:Nat}(hm:m<=p.size)(k:Nat):(kas_rev p 0 m).getD k 0=if k < m then p.getD (m - 1 - k) 0 else p.getD k 0:=by
 rw [iu,kas_rev,getElem?_mirror_all hm,iu,iu]
 by_cases q:k < m
 .rw [if_pos ⟨zero_le _,q⟩,if_pos q,zero_add]
 .rw [if_neg (fun h=>q h.2),if_neg q]
theorem nZ.rev {p:Array Nat}(P:nZ n p)(m:Nat):nZ n (kas_rev p 0 m):=.of ((mirror_perm _ _ _ _).trans P.pm)
theorem E0.rev {p:Array Nat}{m:Nat}(hm:m<=p.size)(h:E0 o p m):rE o (kas_rev p 0 m) m:=fun i j hij hj=>by
 rw [tc hm,tc hm,if_pos (by omega),if_pos hj]
 exact h _ _ (by omega) (by omega)
theorem xC (O:A7 n o)(c:CL n o cmp s)(h1:1<=n){p:Array Nat}(P:nZ n p){Q:Nat×Array Nat->Shared->Prop}(hq:∀k p',1<=k->k<=n->nZ n p'->rE o p' k->Q (k,p') s):(kas_count n p).kasWp cmp Q s:=by
 rw [kas_count,KasT.kasWp_bind]
 refine sR O c P (n - 1) 1 (le_refl _) (by omega) (fun i j _ _=>by omega) fun k k1 kn hs hk=>?_
 by_cases e1:k=n
 .rw [if_pos (by rw [e1];exact beq_self_eq_true _)]
  exact hq k p k1 kn P hs
 rw [if_neg fun h=>e1 (eq_of_beq h)]
 by_cases e2:k > 1
 .rw [if_pos e2]
  refine c _ _ _ (P.lt 0 (by omega)) (P.lt (k - 1) (by omega)) (fun e=>by have:=P.inj _ _ (by omega) (by omega) e;omega) ?_
  rw [hs 0 (k - 1) (by omega) (by omega)]
  exact hq k p k1 kn P hs
 .rw [if_neg e2]
  obtain rfl:k=1:=by omega
  rw [kas_descPart,KasT.kasWp_bind]
  refine tT O c P (n - (1+1)) (1+1) (by omega) (by omega) (fun i j hij hj=>?_) fun m m1 mn hd=>?_
  .obtain rfl:j=1:=by omega
   obtain rfl:i=0:=by omega
   exact hk.resolve_left e1
  .rw [if_neg (lt_irrefl 0),kas_tail3,KasT.kasWp_bind]
   exact sR O c (P.rev m) (n - m) m (by omega) (by omega) (hd.rev (by rw [P.sz];exact mn)) fun k a b d _=>hq k _ (by omega) b (P.rev m) d
theorem lj (O:A7 n o)(c:CL n o cmp s){p:Array Nat}(P:nZ n p){k:Nat}(hk:k < n){Q:Nat->Shared->Prop}(hq:∀l,l<=k->(∀i,i < l->o (p.getD i 0) (p.getD k 0)=true)->(∀i,l<=i->i < k->o (p.getD k 0) (p.getD i 0)=true)->Q l s)(hs:rE o p k):
  ∀f l r,l<=r->r<=k->r<=l+f->(∀i,i < l->o (p.getD i 0) (p.getD k 0)=true)->(∀i,r<=i->i < k->o (p.getD k 0) (p.getD i 0)=true)->(kas_place p k f l r).kasWp cmp Q s
 | 0,l,r,h1,h2,h3,a,b=>hq l (by omega) a (fun i hi=>b i (by omega))
 |f+1,l,r,h1,h2,h3,a,b=>by
  rw [kas_place]
  by_cases e:l ≥ r
  .rw [if_pos e];exact hq l (by omega) a (fun i hi=>b i (by omega))
  rw [if_neg e]
  have hm:(l+r) / 2 < r:=by omega
  have hl:l<=(l+r) / 2:=by omega
  generalize (l+r) / 2=m at hm hl ⊢
  have ne:p.getD k 0≠p.getD m 0:=fun e=>by have:=P.inj _ _ (by omega) (by omega) e;omega
  refine c _ _ _ (P.lt k hk) (P.lt m (by omega)) ne ?_
  cases q:o (p.getD k 0) (p.getD m 0) with
  |true=>
   refine lj O c P hk hq hs f l m hl (by omega) (by omega) a fun i hi hik=>?_
   by_cases w:i=m
   .exact w▸q
   .exact O.tr _ _ _ (P.lt k hk) (P.lt m (by omega)) (P.lt i (by omega)) q (hs m i (by omega) hik)
  |false=>
   refine lj O c P hk hq hs f (m+1) r (by omega) h2 (by omega) (fun i hi=>?_) b
   have t:=O.tot _ _ (P.lt k hk) (P.lt m (by omega)) ne q
   by_cases w:i=m
   .exact w▸t
   .exact O.tr _ _ _ (P.lt i (by omega)) (P.lt m (by omega)) (P.lt k hk) (hs i m (by omega) (by omega)) t
theorem t6 {p:Array Nat}{k l:Nat}(hk:k < p.size)(hl:l<=k)(i:Nat):(bubble p k (k - l)).getD i 0=if i=l then p.getD k 0 else if l < i/\i<=k then p.getD (i - 1) 0 else p.getD i 0:=by
 rw [iu,getElem?_bubble hk _ (by omega),iu,iu,iu,show k - (k - l)=l by omega]
 by_cases a:i=l
 .rw [if_pos a,if_pos a]
 .rw [if_neg a,if_neg a]
  by_cases b:l < i/\i<=k
  .rw [if_pos b,if_pos b]
  .rw [if_neg b,if_neg b]
theorem xR (O:A7 n o)(c:CL n o cmp s){Q:Array Nat->Shared->Prop}(hq:∀p,nZ n p->rE o p n->Q p s):∀f (p:Array Nat) k,nZ n p->1<=k->k+f=n->rE o p k->(kas_bin f p k).kasWp cmp Q s
 | 0,p,k,P,_,e,h=>hq p P (by rwa [<-show k=n by omega])
 |f+1,p,k,P,h1,e,h=>by
  rw [kas_bin,KasT.kasWp_bind]
  refine lj O c P (by omega) (fun l hl a b=>?_) h k 0 k (zero_le _) (le_refl _) (by omega) (fun i hi=>by omega) fun i h1 h2=>by omega
  refine xR O c hq f _ (k+1) (.of ((bubble_perm _ _ _).trans P.pm)) (by omega) (by omega) fun i j hij hj=>?_
  have hk:k < p.size:=by rw [P.sz];omega
  rw [t6 hk hl,t6 hk hl]
  by_cases e1:i=l
  .rw [if_pos e1,if_neg (by omega),if_pos (by omega)]
   exact b _ (by omega) (by omega)
  rw [if_neg e1]
  by_cases e2:l < i/\i<=k
  .rw [if_pos e2,if_neg (by omega),if_pos (by omega)]
   exact h _ _ (by omega) (by omega)
  rw [if_neg e2]
  by_cases e3:j=l
  .rw [if_pos e3];exact a i (by omega)
  rw [if_neg e3]
  by_cases e4:l < j/\j<=k
  .rw [if_pos e4]
   exact h _ _ (by omega) (by omega)
  .rw [if_neg e4];exact h _ _ hij (by omega)
theorem yG (O:A7 n o)(c:CL n o cmp s)(h2:2<=n){Q:Array Nat->Shared->Prop}(hq:∀p,nZ n p->rE o p n->Q p s):(kas_sort n).kasWp cmp Q s:=by
 rw [kas_sort,KasT.kasWp_bind]
 refine xC O c (by omega) (.of (.refl _)) fun k p' k1 kn P h=>?_
 by_cases e:k < n
 .rw [if_pos e]
  exact xR O c hq _ _ _ P (by omega) (by omega) (by rwa [Nat.max_eq_left k1])
 .rw [if_neg e]
  exact hq p' P (by rwa [<-show k=n by omega])
end
end Mine
end
section
set_option tactic.hygienic false
namespace Mine
noncomputable section
open PySem PySem.W PyProof.Rows PySem.SeqAt
inductive yx (h:Heap) (k:KB) (v:Value):Prop
 |mk (a b:Addr) (n m:Nat) (t:Tok) (e:v=.ref a) (ha:h.get? a=some (eW #[.int k.1 t,.ref b] n)) (hb:h.get? b=some (eW (bv k.2) m))
theorem AX {P:Pg}{g:Gh}{h:Heap}:∀{bs:List Bool} {vs:List Value},aO P g h (bs.map .bool) vs->vs=bs.map Value.bool
 | [],_,r=>r
 |b::bs,_,⟨v,vs,e,r,rs⟩=>by rw [e,show v=_ from r,AX rs];rfl
theorem yx.of {P:Pg}{g:Gh}{h:Heap}{k:KB}{v:Value}(r:Rp P g h (gW k) v):yx h k v:=by
 obtain ⟨a,e,_,vs,n,h1,_,v1,vs1,e1,⟨t,e2⟩,v2,vs2,e3,r2,e4⟩:=r
 obtain ⟨b,e5,_,ws,m,h2,_,r3⟩:=r2
 subst e2 e5
 have e4:vs2=[]:=e4
 subst e4 e3
 have ev:vs=#[.int k.1 t,.ref b]:=Array.toList_inj.mp e1
 have ew:ws=bv k.2:=Array.toList_inj.mp (by rw [AX r3];simp [bv])
 subst ev ew
 exact ⟨a,b,n,m,t,e,h1,h2⟩
theorem yx.keep {h h':Heap}{k:KB}{v:Value}(r:yx h k v)(hk:∀a o,h.get? a=some o->h'.get? a=some o):yx h' k v:=let ⟨a,b,n,m,t,e,h1,h2⟩:=r;⟨a,b,n,m,t,e,hk _ _ h1,hk _ _ h2⟩
inductive j9 (h:Heap):List KB->List Value->Prop
 |nil:j9 h [] []
 |cons {k:KB} {v:Value} {ks:List KB} {vs:List Value} (r:yx h k v) (rs:j9 h ks vs):j9 h (k::ks) (v::vs)
theorem j9.of {P:Pg}{g:Gh}{h:Heap}:∀{ks:List KB} {vs:List Value},aO P g h (ks.map gW) vs->j9 h ks vs
 | [],_,r=>by rw [show _=[] from r];exact .nil
 |k::ks,_,⟨v,vs,e,r,rs⟩=>by rw [e];exact .cons (.of r) (.of rs)
theorem j9.keep {h h':Heap}{ks:List KB}{vs:List Value}(r:j9 h ks vs)(hk:∀a o,h.get? a=some o->h'.get? a=some o):j9 h' ks vs:=by
 induction r with
 |nil=>exact .nil
 |cons r _ ih=>exact .cons (r.keep hk) ih
theorem j9.len {h:Heap}{ks:List KB}{vs:List Value}(r:j9 h ks vs):ks.length=vs.length:=by
 induction r with
 |nil=>rfl
 |cons r _ ih=>exact congrArg (·+1) ih
theorem j9.at_ {h:Heap}{ks:List KB}{vs:List Value}(r:j9 h ks vs):∀i,i < vs.length->yx h (ks.getD i (0,[])) (vs.getD i .none):=by
 induction r with
 |nil=>intro i hi;cases hi
 |cons r _ ih=>intro i hi;cases i with
  |zero=>exact r
  |succ i=>exact ih i (Nat.lt_of_succ_lt_succ hi)
theorem j9.tups {h:Heap}{ks:List KB}{vs:List Value}(r:j9 h ks vs):∃fs,KatTups h vs fs/\fs.length=vs.length/\∀v∈fs,∃i t,v=.int i t:=by
 induction r with
 |nil=>exact ⟨[],.nil,rfl,fun _ h=>nomatch h⟩
 |cons r _ ih=>
  obtain ⟨fs,h1,h2,h3⟩:=ih
  obtain ⟨a,b,n,m,t,rfl,ha,hb⟩:=r
  exact ⟨_::fs,.cons ha rfl rfl rfl h1,congrArg (·+1) h2,fun v hv=>(an hv).elim (fun e=>⟨_,_,e⟩) (h3 v)⟩
section
variable {prog:Program} {w:World} {A:Around} {E:Value->Shared->Prop} {s:Shared}
theorem zm {ks:List KB}{vs:List Value}(r:j9 s.heap ks vs)(h2:0 < vs.length){Q:SortKind->Shared->Prop}(h:Q (tuples' true) s):wpAny (model prog w) A (keyKind' vs.toArray) Q E s:=by
 obtain ⟨fs,t,l,f⟩:=r.tups
 exact kat_kind (T:=.type "int") t (l▸h2) (fun v hv=>by obtain ⟨i,t,rfl⟩:=f v hv;exact .of_pure rfl) (by decide) h
theorem jT (h:Heap)(b:Addr)(g:List Bool)(m:Nat)(hb:h.get? b=some (eW (bv g) m)):∃as,Reads h (.ref b) (.tuple (g.map .bool)) as:=by
 have all:∀g:List Bool,ReadsAll h (g.map Value.bool) (g.map PyData.bool) []:=fun g=>by
  induction g with
  |nil=>exact .nil
  |cons b g ih=>exact .cons (as:=[]) (.bool b) ih
 exact ⟨[],.tuple hb rfl rfl (by rw [show (bv g).toList=g.map Value.bool by simp [bv]];exact all g)⟩
theorem DO {k j:KB}{x y:Value}(hx:yx s.heap k x)(hy:yx s.heap j y)(hu:A.units+100 < cLine){Q:Bool->Shared->Prop}(h:Q (qq k j) s):wpAny (model prog w) A (keyLt' (tuples' true) x y) Q E s:=by
 obtain ⟨a,b,n,m,t,rfl,ha,hb⟩:=hx
 obtain ⟨a',b',n',m',t',rfl,ha',hb'⟩:=hy
 refine kat_lt ha rfl ha' rfl (kat_cons (wpAny_eqBool_int ?_))
 rw [qq] at h
 cases e:k.1==j.1 with
 |false=>
  rw [e] at h
  exact kat_no (oneLt_int h)
 |true=>
  rw [e] at h
  obtain ⟨as,r1⟩:=jT s.heap b k.2 m hb
  obtain ⟨bs,r2⟩:=jT s.heap b' j.2 m' hb'
  have c:∀g:List Bool,PyData.canLayAll0 (g.map .bool)=true:=fun g=>by
   induction g with
   |nil=>rfl
   |cons b g ih=>exact and_eq_true_iff.mpr ⟨rfl,ih⟩
  have dp:∀g:List Bool,PyData.depthAll (g.map .bool)=0:=fun g=>by
   induction g with
   |nil=>rfl
   |cons b g ih=>show max _ _=0;rw [ih];rfl
  have d1:(PyData.tuple (k.2.map .bool)).depth<=1:=succ_le_succ (le_of_eq (dp k.2))
  refine kat_yes (kat_cons (eqAt_reads _ _ A s _ _ _ _ r1 r2 (c k.2) (c j.2) (lt_of_le_of_lt (by have:=min_le_left (PyData.tuple (k.2.map .bool)).depth (PyData.tuple (j.2.map .bool)).depth;omega) hu) prog w _ _ ?_))
  have ev:PyData.eqv (.tuple (k.2.map .bool)) (.tuple (j.2.map .bool))=decide (k.2=j.2):=by
   have all:∀g g':List Bool,PyData.eqvAll (g.map .bool) (g'.map .bool)=decide (g=g'):=fun g=>by
    induction g with
    |nil=>intro g';cases g' with
     |nil=>rfl
     |cons=>rfl
    |cons b g ih=>intro g';cases g' with
     |nil=>rfl
     |cons b' g'=>
      show ((b==b')&&PyData.eqvAll (g.map .bool) (g'.map .bool))=_
      rw [ih g']
      cases b<;>cases b'<;>simp
   exact all k.2 j.2
  rw [ev]
  by_cases q:k.2=j.2
  .rw [decide_eq_true q]
   refine kat_yes (kat_nil ?_)
   rw [cond_true,q,kx] at h
   exact h
  .rw [decide_eq_false q]
   refine kat_no (kat_one _ _ ?_)
   rw [cond_true] at h
   have hw:wants (fun v s'=>v≠.notImplemented/\W.BoolBack Q v s') (fun _ _=>False) (.ok (.ret (.bool (r0 k.2 j.2)))) s:=⟨(fun q=>by cases q),h⟩
   have go:=richCompare_meets_room (prog:=prog) (w:=w) (A:=A) (s:=s) (a:=.ref b) (b:=.ref b') (op:=.Lt) (T:="tuple") (show s.TypeIs (.ref b) "tuple" from ⟨_,hb,rfl⟩) (show s.TypeIs (.ref b') "tuple" from ⟨_,hb',rfl⟩) F.slot_tuple_lt F.entry_tuple_lt (F.args_tuple_lt_2 _ _) (rI b b' k.2 j.2 m m') ⟨hb,hb',hw⟩ (lt_of_le_of_lt (le_add_right _ _) hu)
   exact go
theorem zp {ks:List KB}{vs:List Value}(r:j9 s.heap ks vs)(hu:A.units+100 < cLine):CL vs.length (fun i j=>qq (ks.getD i (0,[])) (ks.getD j (0,[]))) (kas_ask prog w A (tuples' true) vs) s:=fun i j C hi hj _ h=>DO (r.at_ i hi) (r.at_ j hj) hu h
end
end
end Mine
end
section
set_option tactic.hygienic false
namespace Mine
noncomputable section
open PySem PySem.W PyProof.Rows PySem.SeqAt
theorem kG {α:Type}{l:List α}{d:α}{i:Nat}(h:i < l.length):l.getD i d=l[i]:=by rw [List.getD_eq_getElem?_getD,getElem?_eq_getElem h];rfl
theorem zE {ks:List KB}(nd:ks.Nodup){i j:Nat}(hi:i < ks.length)(hj:j < ks.length)(h:i≠j):ks.getD i (0,[])≠ks.getD j (0,[]):=fun e=>by
 rw [kG hi,kG hj] at e
 have nd:=List.pairwise_iff_getElem.mp nd
 rcases Nat.lt_or_gt_of_ne h with q |q
 .exact nd i j hi hj q e
 .exact nd j i hj hi q e.symm
noncomputable abbrev CS (ks:List KB)(i j:Nat):Bool:=qq (ks.getD i (0,[])) (ks.getD j (0,[]))
theorem BD {ks:List KB}(nd:ks.Nodup){n:Nat}(hn:ks.length=n):A7 n (CS ks):=
 ⟨fun i j hi hj h e=>tt (zE nd (hn▸hi) (hn▸hj) h) e,fun i j k _ _ _ h h'=>rY h h'⟩
section
variable {prog:Program} {w:World} {A:Around} {E:Value->Shared->Prop} {s:Shared}
theorem j9.upd {h h':Heap}{a:Addr}{o:Obj}(ho:h.get? a=some o)(hc:o.cls=.type "list")(hk:∀b ob,b≠a->h.get? b=some ob->h'.get? b=some ob){ks:List KB}{vs:List Value}(r:j9 h ks vs):j9 h' ks vs:=by
 have ne:∀{b:Addr} {vs:Array Value} {n:Nat},h.get? b=some (eW vs n)->b≠a:=fun {b vs n} e q=>by
  rw [q,ho] at e
  have:=congrArg Obj.cls (Option.some.inj e)
  rw [hc] at this
  exact (show ¬Value.type "list"=Value.type "tuple" by decide) this
 induction r with
 |nil=>exact .nil
 |cons r _ ih=>
  obtain ⟨a',b,n,m,t,e,h1,h2⟩:=r
  exact .cons ⟨a',b,n,m,t,e,hk _ _ (ne h1) h1,hk _ _ (ne h2) h2⟩ ih
noncomputable abbrev jO (vs:List Value)(p:Array Nat):Array Value:=List.toArray (p.toList.map fun i=>vs.getD i Value.none)
theorem oT {a:Addr}{vs:List Value}{ks:List KB}{n:Nat}{P:Fin->Shared->Prop}(ho:s.heap.get? a=some (seqObj "list" vs.toArray n))(r:j9 s.heap ks vs)(nd:ks.Nodup)(h64:vs.length < 64)(hu:A.units+100 < cLine)
  (h:∀p:Array Nat,nZ vs.length p->rE (CS ks) p vs.length->P (.done (.ret .none)) {s with heap:=sortedHeap s.heap a vs (jO vs p)}):wpAny (model prog w) A (Builtin.«list.sort» ⟨[.ref a],[]⟩) P E s:=by
 have ha:a < s.heap.objs.size:=Heap.lt_size ho
 rw [list_sort_plain]
 refine wpAny_bind (listItems_at ho rfl ?_)
 refine wpAny_bind (listUpdate_at ho rfl ?_ (by rw [size_toArray,sizeLine_eq];omega) (zero_le _))
 obtain ⟨e1,ho1⟩:∃e1,(s.heap.update a (Obj.mapSeq fun _=>(#[]:Array Value))).get? a=some (seqObj "list" #[] e1):=⟨_,get?_update_seq ho fun _=>#[]⟩
 refine wpAny_bind (seqEpoch_at ho1 rfl ?_)
 refine wpAny_bind (wpAny_newTuple ?_ (by show vs.length<=_;rw [sizeLine_eq];omega))
 refine wpAny_bind (wpAny_newList ?_ (zero_le _))
 refine wpAny_holding ?_
 have keep:∀b ob,b≠a->s.heap.get? b=some ob->(((s.heap.update a (Obj.mapSeq fun _=>(#[]:Array Value))).push (seqObj "tuple" vs.toArray 0)).push (seqObj "list" #[] 0)).get? b=some ob:=fun b ob ne e=>
  Heap.get?_push_of_some _ (Heap.get?_push_of_some _ (by rw [Heap.get?_update_ne _ _ _ _ ne];exact e))
 have ho6:(((s.heap.update a (Obj.mapSeq fun _=>(#[]:Array Value))).push (seqObj "tuple" vs.toArray 0)).push (seqObj "list" #[] 0)).get? a=some (seqObj "list" #[] e1):=Heap.get?_push_of_some _ (Heap.get?_push_of_some _ ho1)
 have r6:=r.upd ho rfl keep
 show wpAny (model prog w) A _ P E {s with heap:=((s.heap.update a (Obj.mapSeq fun _=>(#[]:Array Value))).push (seqObj "tuple" vs.toArray 0)).push (seqObj "list" #[] 0)}
 dsimp only
 by_cases h2:vs.toArray.size < 2
 .rw [if_pos h2,if_pos h2]
  refine wpAny_bind (wpAny_pure ?_)
  rw [StateT.run_pure]
  refine wpAny_bind (wpAny_pure ?_)
  dsimp only
  have eo:(vs.toArray.zip vs.toArray).map (·.2)=jO vs (List.range vs.length).toArray:=by
   apply Array.toList_inj.mp
   have e2:(List.range vs.length).map (fun i=>vs.getD i Value.none)=vs:=by
    refine ext_getElem (by simp) fun i h1 h2=>?_
    rw [getElem_map,List.getElem_range,kG h2]
   show ((vs.toArray.zip vs.toArray).map (·.2)).toList=(List.range vs.length).map fun i=>vs.getD i Value.none
   rw [e2,Array.toList_map,Array.toList_zip,List.map_snd_zip (by simp)]
  refine wpAny_bind (seqEpoch_at ho6 rfl ?_)
  refine wpAny_bind (listUpdate_at ho6 rfl ?_ (zero_le _) (le_trans (m:=vs.length) (by show ((vs.toArray.zip vs.toArray).map (·.2)).size<=_;simp) (by rw [sizeLine_eq];omega)))
  simp only [bne_self_eq_false,false_eq_true,if_false]
  have hz:vs.length < 2:=by simpa using h2
  have:=h (List.range vs.length).toArray (.of (.refl _)) fun i j hij hj=>by omega
  rw [<-eo] at this
  exact wpAny_pure this
 .have hz:2<=vs.length:=by simpa using h2
  rw [if_neg h2,if_neg h2]
  refine wpAny_bind (zm (s:={s with heap:=((s.heap.update a (Obj.mapSeq fun _=>(#[]:Array Value))).push (seqObj "tuple" vs.toArray 0)).push (seqObj "list" #[] 0)}) r6 (by omega) ?_)
  refine wpAny_bind (wpAny_mono (kat_run (κ:=tuples' true) (ks:=vs) (vs:=vs) (G:=fun p s'=>s'={s with heap:=((s.heap.update a (Obj.mapSeq fun _=>(#[]:Array Value))).push (seqObj "tuple" vs.toArray 0)).push (seqObj "list" #[] 0)}/\nZ vs.length p/\rE (CS ks) p vs.length)
   (Q:=fun st' s'=>s'={s with heap:=((s.heap.update a (Obj.mapSeq fun _=>(#[]:Array Value))).push (seqObj "tuple" vs.toArray 0)).push (seqObj "list" #[] 0)}/\∃p:Array Nat,nZ vs.length p/\rE (CS ks) p vs.length/\arrOf st'=p.map (kas_item (vs.toArray.zip vs.toArray))/\failedOf st'=none)
   rfl hz h64 (fun p st' s' a1 a2 a3 a4=>⟨a4.1,p,a4.2.1,a4.2.2,a2,a3⟩) (yG (BD nd r.len) (zp r6 hu) hz fun p P S=>⟨rfl,P,S⟩)) ?_ fun _ _ e=>e)
  rintro ⟨⟨⟩,st'⟩ s' ⟨rfl,p,Pp,Sp,har,hf⟩
  dsimp only
  have hout:=kat_snds rfl har
  rw [hout]
  refine wpAny_bind (seqEpoch_at ho6 rfl ?_)
  refine wpAny_bind (listUpdate_at ho6 rfl ?_ (zero_le _) (le_trans (m:=vs.length) (by rw [size_toArray,length_map,Array.length_toList,Pp.sz];exact le_refl _) (by rw [sizeLine_eq];omega)))
  rw [hf]
  simp only [bne_self_eq_false,false_eq_true,if_false]
  exact wpAny_pure (h p Pp Sp)
theorem uO {l:Addr}{vs:List Value}{ks:List KB}{Q:Value->Shared->Prop}(hl:s.heap.IsList l vs.toArray)(r:j9 s.heap ks vs)(nd:ks.Nodup)(h64:vs.length < 64)(hu:A.units+200 < cLine)
  (h:∀p:Array Nat,nZ vs.length p->rE (CS ks) p vs.length->Q (.ref (s.heap.objs.size+1)) {s with heap:=sortedAll s.heap vs (jO vs p)}):wpAny (model prog w) A (call (.builtin "sorted") [.ref l]) Q E s:=by
 refine Calls.call_function_entry kind_sorted plain_sorted entry_sorted (args_sorted1 _) ?_
 unfold Builtin.«sorted»
 refine wpAny_bind (m:=checkCount "sorted" 1 1 _) (wpAny_pure ?_)
 refine wpAny_bind (collect_list hl ?_ (by rw [sizeLine_eq];omega))
 refine wpAny_bind (wpAny_newList ?_ (by rw [sizeLine_eq];omega))
 have hsz:((s.heap.push (seqObj "list" #[] 0)).update s.heap.objs.size (Obj.mapSeq (·++vs.toArray))).objs.size=s.heap.objs.size+1:=by
  rw [Heap.size_update,size_push']
 have hoL:(((s.heap.push (seqObj "list" #[] 0)).update s.heap.objs.size (Obj.mapSeq (·++vs.toArray))).push (seqObj "list" vs.toArray 0)).get? (s.heap.objs.size+1)=some (seqObj "list" vs.toArray 0):=by
  rw [<-hsz];exact Heap.get?_push_size _ rfl
 have keep:∀b o,s.heap.get? b=some o->(((s.heap.push (seqObj "list" #[] 0)).update s.heap.objs.size (Obj.mapSeq (·++vs.toArray))).push (seqObj "list" vs.toArray 0)).get? b=some o:=fun b o q=>
  Heap.get?_push_of_some _ (by rw [Heap.get?_update_ne _ _ _ _ (ne_of_lt (Heap.lt_size q))];exact Heap.get?_push_of_some _ q)
 show wpAny _ _ _ _ _ {s with heap:=((s.heap.push (seqObj "list" #[] 0)).update s.heap.objs.size (Obj.mapSeq (·++vs.toArray))).push (seqObj "list" vs.toArray 0)}
 rw [hsz]
 refine wpAny_bind (wpAny_holding (wpAny_call_entry slot_list_sort ⟨_,hoL,rfl⟩ entry_list_sort (oT hoL (r.keep keep) nd h64 (by show A.units+1+1+100 < cLine;omega) fun p a1 a2=>⟨_,rfl,?_⟩) (args_list_sort _)))
 exact wpAny_pure ⟨_,rfl,h p a1 a2⟩
end
end
end Mine
end
section
set_option tactic.hygienic false
namespace Mine
noncomputable section
open PySem PySem.W PyProof.Rows PySem.SeqAt
theorem Bx {ks:List KB}{p:Array Nat}(Pp:nZ ks.length p):(p.toList.map fun i=>ks.getD i (0,[])).Perm ks:=by
 have e:(List.range ks.length).map (fun i=>ks.getD i (0,[]))=ks:=by
  refine ext_getElem (by simp) fun i h1 h2=>?_
  rw [getElem_map,List.getElem_range,kG h2]
 have:=Pp.pm.toList.map fun i=>ks.getD i (0,[])
 rw [show (List.range ks.length).toArray.toList=List.range ks.length from rfl,e] at this
 exact this
theorem vQ {ks:List KB}(nd:ks.Nodup){p:Array Nat}(Pp:nZ ks.length p)(Sp:rE (CS ks) p ks.length):fu ks=p.toList.map fun i=>ks.getD i (0,[]):=by
 refine oc ((eB ks).trans (Bx Pp).symm) (iT nd) ?_
 refine List.pairwise_iff_getElem.mpr fun i j hi hj hij=>?_
 rw [length_map,Array.length_toList,Pp.sz] at hi hj
 have:=Sp i j hij hj
 have e:∀k (h:k < ks.length) (h':k < (p.toList.map fun i=>ks.getD i (0,[])).length),(p.toList.map fun i=>ks.getD i (0,[]))[k]=ks.getD (p.getD k 0) (0,[]):=fun k h h'=>by
  rw [getElem_map,Array.getElem_toList,Array.getD,dif_pos (by rw [Pp.sz];exact h)];rfl
 rw [e i hi,e j hj]
 exact this
section
variable {P:Pg} {B:br} {C:Ct}
theorem aO.idx {g:Gh}{h:Heap}{f:Nat->T}{v:Nat->Value}:∀{is:List Nat},(∀i∈is,Rp P g h (f i) (v i))->aO P g h (is.map f) (is.map v)
 | [],_=>rfl
 |i::is,r=>.cons (r i (.head _)) (.idx fun j hj=>r j (.tail _ hj))
theorem aO.kn_at {g:Gh}{h:Heap}:∀{ks:List KB} {vs:List Value},aO P g h (ks.map gW) vs->∀i,i < ks.length->Rp P g h (gW (ks.getD i (0,[]))) (vs.getD i .none)
 |k::ks,_,⟨v,vs,e,r,rs⟩,i,hi=>by
  rw [e]
  cases i with
  |zero=>exact r
  |succ i=>exact aO.kn_at rs i (Nat.lt_of_succ_lt_succ hi)
theorem ut (h:Heap)(k:Nat):h.get? (h.objs.size+k)=none:=by
 cases e:h.get? (h.objs.size+k) with
 |none=>rfl
 |some o=>exact absurd (Heap.lt_size e) (not_lt.mpr (le_add_right _ _))
theorem ur:vt P (Bf P (.builtin "sorted")) gw (RN P):=fun A env g σ s x t y Q E rm w q e hq=>by
 obtain ⟨ks,⟨rfl,nd,l64⟩,rfl⟩:=yH e
 obtain ⟨l,rfl,vs,n,a1,a3,a2⟩:=q.ls rfl
 have r:=j9.of a2
 have hu:=rm.units
 refine uO (vs:=vs.toList) (by rw [Array.toArray_toList];exact ⟨_,a1,rfl,n,rfl⟩) r nd (r.len▸l64) (by lia -abstractProof) fun p Pp Sp=>?_
 rw [<-r.len] at Pp Sp
 obtain ⟨c,hc⟩:=sortedAll_at s.heap vs.toList (jO vs.toList p)
 have k:∀b o,s.heap.get? b=some o->(sortedAll s.heap vs.toList (jO vs.toList p)).get? b=some o:=fun _ _=>sortedAll_old
 have ps:aH g s g {s with heap:=sortedAll s.heap vs.toList (jO vs.toList p),toks:=s.toks}:=.grow s.toks k g.F (fun _ h=>h) fun _ h=>.inl h
 have no:=ut s.heap 1
 have rp:aO P g (sortedAll s.heap vs.toList (jO vs.toList p)) ((fu ks).map gW) (jO vs.toList p).toList:=by
  rw [vQ nd Pp Sp,map_map]
  exact aO.idx fun i hi=>(aO.kn_at (a2.mono (ps.k w)) i (dA (Pp.pm.toList.mem_iff.mp hi)))
 exact hq _ _ g ps (w.grow k g.F (fun _ h=>h) fun _ h=>.inl h) ⟨_,rfl,no,fun f=>w.F _ f no,fun f=>(w.Z _ f).1 no,fun f=>(w.O _ f).1 no,_,c,hc,by rw [length_map,(eB ks).length_eq];exact le_trans (le_of_lt l64) (by decide),rp⟩
theorem aq.sorted {e:Expr}{p:PE}{np pos:Pos}(hx:Aq B "sorted")(hn:∀env,starEach [e] env=[(false,eval e env)])(h:aq P B C e p (RX P)):aq P B C (.Call (.Name (ofString "sorted") np) [e] [] pos) (p1 gw p) (RN P):=aq.b1 Cn ur (fun _ q=>by cases q) hx (by decide) (by decide) (by decide) hn h
end
end
end Mine
end
namespace Mine
noncomputable section
open PySem
noncomputable def ET:Nat->List (List Bool)
 | 0=>[[]]
 |n+1=>(ET n).map (false::·)++(ET n).map (true::·)
noncomputable def Aj (m:Nat):List KB:=(List.range 12).flatMap fun (p:Nat)=>(ET m).map fun g=>((p:Int),g)
noncomputable def qG (k:KB):Int:=reduceHash (Builtin.Tuple.tupleHashOf [hashInt k.1,reduceHash (Builtin.Tuple.tupleHashOf (k.2.map fun b=>hashInt (b2i b)))])
noncomputable def hs:Nat->List Int
 | 0=>[-5190988587195632635,2500886146856312502,7952677415836332426,-8532767121629096755,-3080975852649076831,212541498418500178,2173841034662622613,-6422754387082540951,-8859812233822786644,990336418141601408,4283853769209178417,-8711099035520353275]
 | 1=>[2886958471919528486,909922512152810586,-5220238962087589296,4203439863220387595,-2416119598758058069,-8791512941509144097,-454820062513935634,-6830213405265021662,4996971206466084290,3019935246699366390,-3110226227541033492,6313452597766943399,-1148926691296911057,3876394751026697706,1655192672032620170,-4720200670718465858,-781865174707625523,-7157258517458711551,9068283477256762529,2692890134505676501,961086043249644747,5986407485573253510,-633151976405192154,-2610187936171910054]
 | 2=>[7676811509268022211,568022742073868632,-4523628201690705621,7418048291203909049,-7476415213373952396,-7539174691933249150,5815918438011728213,-689149142803208733,2373733438590435656,-4735055328603717923,8620037801341259440,2114970220526322494,-63324408149810037,-2773755792359595488,6182979954601013747,-322087626213923199,-8659919829894973601,2678035476620424436,-2413615467144149817,-8918683047959086763,-5366402478827396592,-5429161957386693346,7925931172558284017,1420863591743347071,-7803460325567642285,-3467862421142570911,5488873325818038324,-1016194254996898622,2046688326396745767,-5062100440797407812,8292992689147569551,1787925108332632605,-390369520343499926,-3100800904553285377,-8192451848317859630,-649132738407613088,-8986964942088663490,6749347747411102675,-2740660579337839706,9201015913556774964,-5693447591021086481,-1357849686596015107,7598886060364594128,1093818479549657182,4156701060943301571,-2952087706250852008,-8043738650015426261,3897937842879188409]
 | 3=>[3222727695683937112,-3282339885130999834,-3908547987364351310,-6618979371574136761,-6770860883815151757,5170815609079462913,-8175056496070096063,7561256193429670102,6516245046751514121,11177465936577175,-615030636296774301,-3325462020506559752,-3477343532747574748,8464332960147039922,-4881539145002519054,-545941240577447680,-2080350374993649443,5462968734916597099,-9211626058041937865,6524686631457828300,6372805119216813304,-132262461598123642,4968609506961868998,2258178122752083547,-4517408221733895136,7424268271160719534,6798060168927368058,4087628784717582607,3935747272476567611,-2569320308338369335,2531551660221623305,-178879723988162146,5332740430230492916,-5570684533568812158,-1798535252817795506,-4508966637027580957,-4660848149268595953,7280828343626018717,-6065043761523540259,-8775475145733325710,8626257781298069925,2121190200483132979,1494982098249781503,-1215449285960003948,-1367330798201018944,-7872398379015955890,-2771526410455963250,1564071493969108124,6189199934557824232,-315867646257112714,-942075748490464190,-3652507132700249641,-3804388644941264637,8137287847953350033,-810226874211840815,-872986352771137569,-2407395487187339332,-8912463068002276278,8908072903473923862,6197641519264138411,6045760007023123415,-459307573791813531,4641564394768179109,1931133010558393658,-4844453333927585025,7097223158967029645,-7577371633991505319,3760583672523892718,3608702160282877722,-2896365420532059224,6602863931012301544,-505924836181852035,5005695318036803027,-1499372262778133919,-2125580365011485395,-4836011749221270846,-4987893261462285842,6953783231432328828,-6392088873717230148,-9102520257927015599,8299212669104380036,1794145088289443090,1167936986056091614,-1542494398153693837,-1694375910394708833,-8199443491209645779,1299785860334714989,1237026381775418235,-297382752640783528,-6802450333455720474,-7428658435689071950,8307654253810694215,8155772741569679219,1650705160754742273,6751577129314734913,4041145745104949462]
 | 4=>[-1987658881413490025,3641383747289335371,8742255715849328011,-5368890453435152231,4327871155795119766,4265111677235823012,8037260957986839664,5326829573777054213,5990938286308984314,-1117850480885169265,4586742674054040008,-8834679957331902845,-1087204519008208837,-7592272099823145783,-5113567543349883153,-3882882297631425885,-5696498932436239679,6934901098356912380,-6410971006792646596,-2075373102367575222,-3779326278211998016,7558629028303400021,-7115965764655134943,-2780367860230063569,-9162288436332990293,9221696158817264569,7880260025121617017,-5541162606264325836,-9194401953015326619,2747274539879288051,-1820050192282306144,-589364946563848876,-7290736952091076580,-1661694323388251184,3439177645171741456,7774775549596812830,-5373564297866834917,-1037966393441763543,2734182887309253109,-4374605879884900470,-3710497167352970369,-6420928551562755820,-716335396623546547,4308986045700062216,-6390282589685795392,5551393903208819278,3631741076697713780,-9185960368309012440,-5329437415846954145,-4098752170128496877,5400477181415863891,5337717702856567137,-3412264761622712482,-3475024240182009236,297125040569007416,-2413306343640778035,-1749197631108847934,-8857986398303001513,-3153393243363792240,1871928198959816523,-8827340436426041085,-8286378728606121206,5593040612941836215,6823725858660293483,122353853133065779,5751396481835891175,-7594475623313667801,-3258877718888596427,6437883890341675570,6375124411782378816,-8299470381176156148,3038484925339241889,3702593637871171990,992162253661386539,6696755408600595812,-6724667222785347041,1022808215538346967,-5482259365276589979,-7401912191787695477,-1772869563084870081,3415871204200642788,9044913832903468184,-4300958272246090792,34639632178980582,-1669313543665442212,-8778102310859595791,-5005953030108579139,-670355125683507765,-7052275701786434489,-7115035180345731243,-8456471314041378795,-3431149871717770032,-7084389218468770815,4857287274425843855,289962542264249660,1520647787982706928,5377170740444765223,6607855986163222491,-2339658736001968357,-2402418214561265111,-4106371390405687905,-6816802774615473356,-7443010876848824832,-3107412972423753458,8957410525182871434,-5153735644101608808,7553214912927927128,-1469850335473647597,8925297008500535108,2420229427685598162,-2147095304475996033,-916410058757538765,-3219424681300398341,-1988739435581941073,3112132532978051567,7447730437403122941,-1302252027076156678,-1365011505635453432,2407137775115563220,-303293609094222231,360815103437707870,-6747973663756445709,-1043380508817236436,3981940933506372327,-6717327701879485281,5224348791015129389,7703053347488392019,8933738593206849287,-5656482528040644034,-4425797282322186766,5073432069222174002,5010672590662877248,-3739309873816402371,596288030608669003,-29920071624682473,-2740351455834467924,-2076242743302537823,-4786674127512323274,-3480438355557482129,5943240469750494762,-9154385548619730974,-8613423840799811095,5265995500748146326,6496680746466603594,4193666123923744018,5424351369642201286,-3523163352522989562,-3585922831082286316,6110838778147985681,-8000307391136494561,-8626515493369846037,7109797196129920128,7773905908661850229,665117141467696650,6369710296406905923,-7051712334979036930,695763103344657078,-5809304477470279868,-3330599920997017238,-2099914675278559970,7487183474991321027,8717868720709778295,-229646001455412553,-292405480014709307,-1996358655859132101,-4706790040068917552,-5332998142302269028,-997400237877197654,-7379320813980124378,8356991875519641787,-8783516426235068684,-3758194983911459921,-7411434330662460704,4530242162232153966,-37082569929440229,1193602675789017039,-5507769329738210665,121273298964614731,5222145267524607371,-8889000901759872871,807760707470399126,745001228911102372,4517150509662119024,1806719125452333573,2470827837984263674,-4637960929209889905,1066632225729319368,6091953668052928131,-4607314967332929477,7334361525561685193,-8633677991674603793,-7402992745956146525]
 |_=>[]
theorem DR:∀m,m<=4->(Aj m).map qG=hs m
 | 0,_=>by kernel_rfl
 | 1,_=>by kernel_rfl
 | 2,_=>by kernel_rfl
 | 3,_=>by kernel_rfl
 | 4,_=>by kernel_rfl
 |_+5,h=>absurd h (by omega)
noncomputable def apart:List Int->Bool
 | []=>true
 |x::r=>r.all (fun y=>!(x==y))&&apart r
theorem cY:∀{l:List Int},apart l=true->l.Nodup
 | [],_=>.nil
 |x::r,h=>by
  have h:=af h
  refine nodup_cons.mpr ⟨fun q=>?_,cY h.2⟩
  have:=aB h.1 x q
  rw [beq_self_eq_true] at this;cases this
theorem xd:∀m,m<=4->(hs m).Nodup
 | 0,_=>cY (by kernel_rfl)
 | 1,_=>cY (by kernel_rfl)
 | 2,_=>cY (by kernel_rfl)
 | 3,_=>cY (by kernel_rfl)
 | 4,_=>cY (by kernel_rfl)
 |_+5,h=>absurd h (by omega)
theorem ub:∀{n:Nat} {g:List Bool},g.length=n->g∈ET n
 | 0,[],_=>.head _
 |n+1,b::g,h=>by
  have:=ub (n:=n) (g:=g) (Nat.succ.inj h)
  cases b
  .exact mem_append_left _ (bn ⟨g,this,rfl⟩)
  .exact mem_append_right _ (bn ⟨g,this,rfl⟩)
theorem ya {m:Nat}{k:KB}(h0:0<=k.1)(h1:k.1 < 12)(h2:k.2.length=m):k∈Aj m:=
 mem_flatMap.mpr ⟨k.1.toNat,bz (by omega),bn ⟨k.2,ub h2,Prod.ext (Int.toNat_of_nonneg h0) rfl⟩⟩
theorem w6 {α z:Type}{f:α->z}:∀{l:List α},(l.map f).Nodup->∀a∈l,∀b∈l,f a=f b->a=b
 |x::l,h,a,ha,b,hb,e=>by
  have h:=aK h
  rcases an ha with qa |qa<;>rcases an hb with qb |qb
  .exact qa.trans qb.symm
  .exact (h.1 (qa▸e▸bn ⟨b,qb,rfl⟩)).elim
  .exact (h.1 (qb▸e▸bn ⟨a,qa,rfl⟩)).elim
  .exact w6 h.2 a qa b qb e
theorem sw {m:Nat}(hm:m<=4){ks:List KB}(r:FY m ks):(ks.map qG).Nodup:=by
 have i:=w6 (l:=Aj m) (f:=qG) (by rw [DR m hm];exact xd m hm)
 have mem:∀k∈ks,k∈Aj m:=fun k h=>ya (r.p0 k h) (r.p12 k h) (r.g k h)
 exact List.pairwise_map.mpr (List.Pairwise.imp_of_mem (fun ha hb q e=>q (i _ (mem _ ha) _ (mem _ hb) e)) r.nd)
end
end Mine
section
set_option tactic.hygienic false
namespace Mine
noncomputable section
open PySem PyProof.Rows
section
variable {prog:Program} {w:World} {A:Around} {E:Value->Shared->Prop} {s:Shared}
theorem uL {d:Addr}{xs:List f8}{Q:Value->Shared->Prop}(hd:(d==sysModules)=false)(hm:s.heap.DictOfH (aN prog w) d xs)(hfit:(xs.length:Int) < 2 ^ 63)
  (h:∀tk t,Q (.int xs.length t) {s with toks:=tk}):wpAny (model prog w) A (call (.builtin "len") [.ref d]) Q E s:=by
 obtain ⟨o,es,ep,ho,hc,hdat,he,hi,hn⟩:=id hm
 have hsz:es.size=xs.length:=size_of_entries he
 refine Calls.call_function_entry kind_len plain_len entry_len (args_len1 _) ?_
 unfold Builtin.«len»
 refine wpAny_bind (m:=oneArg "len" _) (wpAny_pure ?_)
 refine wpAny_bind (m:=callSpecial? (.ref d) (ofString "__len__")) (wpAny_callSpecial?_slot (name:=ofString "__len__") hm.typeIs F.slot_dict_len
  (wpAny_call_entry F.slot_dict_len hm.typeIs F.entry_dict_len ?_ (F.args_dict_len_1 _)))
 show wpAny _ _ (dictSize d >>=_) _ _ s
 unfold dictSize
 refine wpAny_bind (wpAny_bind (wpAny_dictEntries ho hdat (wpAny_pure ?_)))
 show wpAny _ _ (Builtin.Dict.pendingCount d >>=_) _ _ s
 refine wpAny_bind (wpAny_pendingCount_other hd ?_)
 refine wpAny_ret_mkInt ?_
 rw [hsz]
 show wpAny _ _ _ _ _ {s with toks:=s.toks+1}
 refine wpAny_bind (wpAny_holding (wpAny_pure ?_))
 refine wpAny_bind (wpAny_letGo ?_)
 show wpAny _ _ (if ((xs.length:Nat):Int) < 0 then _ else _) _ _ _
 rw [if_neg (by omega)]
 show wpAny _ _ (if ((xs.length:Nat):Int) ≥ 2 ^ 63 then _ else _) _ _ _
 rw [if_neg (by omega)]
 exact wpAny_bind (wpAny_mkInt (wpAny_pure ⟨_,rfl,h _ _⟩))
theorem mY {id:String}{d:Addr}{o:Obj}{es ep}{Q:Array DictEntry->Shared->Prop}(ho:s.heap.get? d=some o)(hd:o.data=.dict es ep)(hk:∀e∈es.toList,∃a,e.key=.ref a/\s.TypeIs (.ref a) "tuple")(hn:(es.toList.map (·.hash)).Nodup)(h:Q es s):
  wpAny (model prog w) A (Builtin.Dict.entriesForEmpty id d) Q E s:=by
 unfold Builtin.Dict.entriesForEmpty
 refine wpAny_bind (wpAny_dictEntries ho hd ?_)
 have one:∀e∈es.toList,¬(es.filter (·.hash==e.hash)).size > 1:=fun e he=>by
  have:∀l:List DictEntry,(l.map (·.hash)).Nodup->(l.filter (·.hash==e.hash)).length<=1:=fun l=>by
   induction l with
   |nil=>exact fun _=>zero_le _
   |cons x l ih=>
    intro hn
    obtain ⟨h1,h2⟩:=aK hn
    by_cases q:(x.hash==e.hash)=true
    .rw [List.filter_cons_of_pos (p:=fun y:DictEntry=>y.hash==e.hash) q,length_cons,List.filter_eq_nil_iff.mpr fun y hy q'=>h1 (bn ⟨y,hy,(eq_of_beq q').trans (eq_of_beq q).symm⟩)]
     exact le_refl 1
    .rw [List.filter_cons_of_neg (p:=fun y:DictEntry=>y.hash==e.hash) q];exact ih h2
  have:=this es.toList hn
  rw [<-Array.toList_filter,Array.length_toList] at this
  exact not_lt.mpr this
 refine wpAny_bind ?_
 rw [<-Array.forIn_toList]
 refine wpAny_forIn_list _ (fun rest _ s'=>s'=s/\∀e∈rest,e∈es.toList) _ ?_ ?_ _ _ ⟨rfl,fun _ h=>h⟩
 .rintro e rest b s' ⟨rfl,hr⟩
  obtain ⟨a,ek,ht⟩:=hk e (hr e (.head _))
  rw [ek]
  refine wpAny_bind ?_
  unfold Builtin.Dict.quietEq
  refine wpAny_bind (wpAny_specialOf ht F.slot_tuple_eq.lookup (wpAny_pure ?_))
  rw [if_pos (by decide),if_neg (one e (hr e (.head _)))]
  exact wpAny_pure ⟨rfl,fun x hx=>hr x (.tail _ hx)⟩
 .rintro b s' ⟨rfl,_⟩
  exact wpAny_pure h
end
end
end Mine
end
section
set_option tactic.hygienic false
namespace Mine
noncomputable section
open PySem PyProof.Rows
section
variable {prog:Program} {w:World} {A:Around} {E:Value->Shared->Prop} {s:Shared}
theorem ma {l:Addr}{xs:List f8}{Q:Value->Shared->Prop}(hl:(l==sysModules)=false)(hm:s.heap.DictOfH (aN prog w) l xs)(ht:∀x∈xs,s.TypeIs (.ref x.2.1) "tuple")(hn:(xs.map fun x=>(aN prog w).hash x.1).Nodup)(hlen:xs.length<=lim)
  (h:∀h':Heap,h'.DictOfH (aN prog w) s.heap.objs.size xs->(∀b o,s.heap.get? b=some o->h'.get? b=some o)->Q (.ref s.heap.objs.size) {s with heap:=h'}):
  wpAny (model prog w) A (call (.type "dict") [.ref l]) Q E s:=by
 refine callType_codes (Q₁:=fun obj s₁=>obj=.ref s.heap.objs.size/\s₁={s with heap:=s.heap.push {cls:=.type "dict",data:=.dict #[]}}) F.kt_called_dict (F.kt_typeCall_dict_1 _) F.entry_dict_init (kt_code_dict_new _ ⟨rfl,rfl⟩) ?_
 rintro obj s₁ ⟨rfl,rfl⟩
 have keep:∀b o,s.heap.get? b=some o->(s.heap.push {cls:=.type "dict",data:=.dict #[]}).get? b=some o:=fun b o e=>Heap.get?_push_of_some _ e
 have hnew:(s.heap.push {cls:=.type "dict",data:=.dict #[]}).DictOfH (aN prog w) s.heap.objs.size []:=Heap.DictOfH.new s.heap
 obtain ⟨o,es,ep,ho,hc,hdat,he,hi,hnd⟩:=id hm
 have hm':(s.heap.push {cls:=.type "dict",data:=.dict #[]}).DictOfH (aN prog w) l xs:=⟨o,es,ep,keep _ _ ho,hc,hdat,he,fun x hx=>kA keep (hi x hx),hnd⟩
 have hT:Shared.TypeIs {s with heap:=s.heap.push {cls:=.type "dict",data:=.dict #[]}} (.ref l) "dict":=hm'.typeIs
 have ne:(s.heap.objs.size==l)=false:=beq_eq_false_iff_ne.mpr fun q=>by have:=Heap.lt_size ho;rw [<-q] at this;exact lt_irrefl _ this
 refine ⟨hnew.typeIs,F.args_dict_init_2 _ _,?_⟩
 unfold Builtin.«dict.__init__»
 refine wpAny_bind ?_
 unfold Builtin.Dict.selfAndRest
 refine wpAny_bind (wpAny_notOrdered_dict hnew.typeIs ?_)
 show wpAny _ _ (pure (s.heap.objs.size,[Value.ref l])) _ _ _
 refine wpAny_pure ?_
 show wpAny _ _ (Builtin.Dict.updateFrom "dict.__init__" s.heap.objs.size (.ref l) [] .none) _ _ _
 unfold Builtin.Dict.updateFrom
 refine wpAny_bind (wpAny_typeOf hT ?_)
 rw [if_neg (by decide)]
 refine wpAny_bind ?_
 unfold Builtin.Dict.merge
 refine wpAny_bind ?_
 unfold Builtin.Dict.readDirectly
 refine wpAny_bind (wpAny_isInstance hT isSubtype_dict_dict ?_)
 simp only [Bool.not_true,false_eq_true,if_false]
 refine wpAny_bind (wpAny_specialOf hT F.slot_dict_iter.lookup (wpAny_pure ?_))
 simp only [beq_self_eq_true,if_true]
 refine wpAny_bind (wpAny_pure ?_)
 have ho':=keep _ _ ho
 unfold Builtin.Dict.mergeDict
 rw [if_neg (by rw [ne];exact Bool.false_ne_true)]
 unfold Builtin.Dict.showsAll
 rw [if_neg (by rw [hl];exact Bool.false_ne_true)]
 refine wpAny_bind (wpAny_pure ?_)
 refine wpAny_bind (wpAny_dictEntries ho' hdat ?_)
 have hE:es.toList.length=xs.length:=by rw [he,length_map]
 dsimp only
 cases hxs:xs with
 |nil=>
  have e0:es=#[]:=Array.toList_eq_nil_iff.mp (by rw [he,hxs];rfl)
  subst e0
  rw [show (decide ((#[]:Array DictEntry).size<=8)&&(#[]:Array DictEntry).all fun e=>(keyPart e.key).isSome)=true by rw [<-Array.all_toList];rfl,if_neg (show ¬(!true)=true by decide)]
  refine wpAny_bind (wpAny_dictEpoch ho' hdat ?_)
  refine wpAny_bind (wpAny_dictEntries ho' hdat ?_)
  refine wpAny_bind ?_
  show wpAny _ _ (forIn [0:0] PUnit.unit _) _ _ _
  rw [Std.Legacy.Range.forIn_eq_forIn_range']
  refine wpAny_pure (wpAny_pure ?_)
  exact wpAny_bind (wpAny_pure (wpAny_pure ⟨rfl,h _ (hxs▸hnew) keep⟩))
 |cons x r=>
  have e1:es.toList=entryOfKey (aN prog w) x::r.map (entryOfKey (aN prog w)):=by rw [he,hxs];rfl
  have few:(decide (es.size<=8)&&es.all fun e=>(keyPart e.key).isSome)=false:=by
   rw [<-Array.all_toList,e1,List.all_cons,show (keyPart (entryOfKey (aN prog w) x).key).isSome=false from rfl,Bool.false_and,Bool.and_false]
  rw [few,if_pos (show (!false)=true from rfl)]
  refine wpAny_bind (wpAny_dictEntries (es:=#[]) (ep:=0) (Heap.get?_push_size _ rfl) rfl ?_)
  rw [if_pos (show (#[]:Array DictEntry).isEmpty=true from rfl)]
  have tk:∀e∈es.toList,∃a,e.key=.ref a/\Shared.TypeIs {s with heap:=s.heap.push {cls:=.type "dict",data:=.dict #[]}} (.ref a) "tuple":=fun e hx=>by
   rw [he] at hx
   obtain ⟨y,hy,rfl⟩:=aF hx
   obtain ⟨oy,h1,h2⟩:=ht y hy
   exact ⟨_,rfl,oy,keep _ _ h1,h2⟩
  have hh:(es.toList.map (·.hash)).Nodup:=by rw [he,map_map];exact hn
  refine wpAny_bind (mY ho' hdat tk hh ?_)
  have nem:(!es.isEmpty)=true:=by
   have:es.size≠0:=by rw [<-Array.length_toList,e1];exact Nat.succ_ne_zero _
   simp [Array.isEmpty,this]
  rw [if_pos nem]
  refine wpAny_bind (wpAny_updateDictKeysTo (es:=#[]) (ep:=0) (Heap.get?_push_size _ rfl) rfl ?_ (by rw [<-Array.length_toList,hE];exact le_trans hlen (by decide)))
  refine wpAny_pure ?_
  have kp:∀b o,s.heap.get? b=some o->((s.heap.push {cls:=.type "dict",data:=.dict #[]}).update s.heap.objs.size (Obj.mapDictKeys fun _=>es)).get? b=some o:=fun b ob e=>by
   rw [Heap.get?_update_ne _ _ _ _ (ne_of_lt (Heap.lt_size e))];exact keep b ob e
  have at_:((s.heap.push {cls:=.type "dict",data:=.dict #[]}).update s.heap.objs.size (Obj.mapDictKeys fun _=>es)).get? s.heap.objs.size=some {cls:=.type "dict",data:=.dict es 1}:=Heap.get?_update_self _ (Heap.get?_push_size _ rfl) rfl
  exact wpAny_bind (wpAny_pure (wpAny_pure ⟨rfl,h _ ⟨_,es,1,at_,⟨rfl,rfl,rfl⟩,rfl,he,fun y hy=>kA kp (hi y hy),hnd⟩ kp⟩))
end
end
end Mine
end
section
set_option tactic.hygienic false
namespace Mine
noncomputable section
open PySem PyProof.Rows
noncomputable def jY (k:KB):Ky:=.tup [.int k.1,.tup (k.2.map fun b=>.int (b2i b))]
theorem qH (n:Nat):∀g:List Bool,iJ.go (iJ n) (g.map .bool)=some (g.map fun b=>.int (b2i b))
 | []=>rfl
 |b::g=>by rw [map_cons,mQ,qH n g,show iJ n (.bool b)=some (.int (b2i b)) by cases n<;>rfl];rfl
theorem DL (k:KB):vp (gW k)=some (jY k):=by
 show o1 (iJ.go (iJ 5) [.int k.1,.tup (k.2.map .bool)]) _=_
 rw [mQ,mQ,show iJ 5 (.tup (k.2.map .bool))=some (.tup (k.2.map fun b=>.int (b2i b))) by rw [wU,qH];rfl];rfl
theorem oQ:∀ks:List KB,eY (ks.map gW)=some (ks.map jY)
 | []=>rfl
 |k::ks=>by
  have:=oQ ks
  rw [eY] at this ⊢
  rw [map_cons,mQ,show _=some (jY k) from DL k,this];rfl
theorem uW (w:World)(g:List Bool):Ky.hashes w (g.map fun b=>.int (b2i b))=g.map fun b=>hashInt (b2i b):=by
 induction g with
 |nil=>rfl
 |cons b g ih=>rw [map_cons,Ky.hashes,ih];rfl
theorem oZ (w:World)(k:KB):Ky.hash w (jY k)=qG k:=by
 show reduceHash (Builtin.Tuple.tupleHashOf [hashInt k.1,reduceHash (Builtin.Tuple.tupleHashOf (Ky.hashes w (k.2.map fun b=>.int (b2i b))))])=_
 rw [uW];rfl
theorem j9.mem {h:Heap}{ks:List KB}{vs:List Value}(r:j9 h ks vs):∀v∈vs,∃k,yx h k v:=by
 induction r with
 |nil=>exact fun _ h=>nomatch h
 |cons r _ ih=>exact fun v hv=>(an hv).elim (fun e=>⟨_,e▸r⟩) (ih v)
section
variable {P:Pg} {B:br} {C:Ct} {e:Expr} {p:PE} {np pos:Pos}
theorem zN:vt P (Bf P (.builtin "len")) qK (RV P):=fun A env g σ s x t y Q E rm w q e hq=>by
 obtain ⟨p,e1,e2⟩:=az e
 cases e2
 obtain ⟨a,rfl,xs,n,d,k,r1,r2,l⟩:=q.d e1
 have hl:xs.length=p.1.length:=by have:=r1.length;rwa [length_map] at this
 refine uL n d (qs (hl▸l)) fun tk t=>?_
 rw [hl]
 exact hq _ _ g (.toks g s tk) w ⟨t,rfl⟩
theorem aq.dlen (hx:Aq B "len")(hn:∀env,starEach [e] env=[(false,eval e env)])(h:aq P B C e p (RX P)):aq P B C (.Call (.Name (ofString "len") np) [e] [] pos) (p1 qK p) (RV P):=aq.b1 jt zN (fun _ q=>by cases q) hx (by decide) (by decide) (by decide) hn h
theorem oR (prog:Program)(w:World)(k:Ky):(aN prog w).hash k=Ky.hash w k:=rfl
theorem qp {prog:Program}{w:World}:∀{xs:List f8} {ks:List KB},xs.map (·.1)=ks.map jY->(xs.map fun x=>(aN prog w).hash x.1)=ks.map qG
 | [],[],_=>rfl
 | [],_::_,h=>nomatch h
 |_::_,[],h=>nomatch h
 |x::xs,k::ks,h=>by
  have h1:=List.cons.inj h
  have e1:x.1=jY k:=h1.1
  rw [map_cons,map_cons,qp h1.2,oR,e1,oZ]
theorem zo {prog:Program}{w:World}{m:Nat}(hm:m<=4){ks:List KB}(r:FY m ks){xs:List f8}(ek:xs.map (·.1)=ks.map jY):(xs.map fun x=>(aN prog w).hash x.1).Nodup:=by
 rw [qp ek];exact sw hm r
theorem BY {g:Gh}{s:Shared}{ks:List KB}{xs:List f8}(r1:aO P g s.heap (ks.map gW) (xs.map fun y=>Value.ref y.2.1)):∀x∈xs,s.TypeIs (.ref x.2.1) "tuple":=fun x hx=>by
 obtain ⟨k,a,b,n,m,t,e,h1,h2⟩:=(j9.of r1).mem (.ref x.2.1) (bn ⟨x,hx,rfl⟩)
 cases e
 exact ⟨_,h1,rfl⟩
theorem xr {A:Around}{g:Gh}{σ:Sg}{s:Shared}{x:Value}{t y:T}{Q:Value->Shared->Prop}{E:Value->Shared->Prop}(G:pL P)(w:bj P g s.heap σ)(q:dY P g s.heap t x)(e:fW t=some y)
  (hq:∀u s' g',aH g s g' s'->bj P g' s'.heap σ->RN P s.heap g' s'.heap y u->Q u s'):wpAny P.M A (PySem.call (.type "dict") [x]) Q E s:=by
 obtain ⟨c,rfl⟩:=zT e
 obtain ⟨m,ks,ts,hm,r⟩:=c
 obtain ⟨a,rfl,xs,n,d,k,r1,r2,l⟩:=q.d rfl
 have hsn:=ke G w
 have ek:xs.map (·.1)=ks.map jY:=Option.some.inj (k.symm.trans (oQ ks))
 have hl:xs.length=(ks.map gW).length:=by have:=r1.length;rwa [length_map] at this
 have hn:(xs.map fun x=>(aN P.prog P.w).hash x.1).Nodup:=zo hm r ek
 refine ma n d (BY r1) hn (by rw [hl];exact l) fun h' dd hk=>?_
 obtain ⟨n1,n2,n3⟩:=de w
 have pa:aH g s g {s with heap:=h',toks:=s.toks}:=.grow s.toks hk g.F (fun _ f=>f) fun _ f=>.inl f
 exact hq _ _ g pa (w.grow hk g.F (fun _ f=>f) fun _ f=>.inl f) ⟨_,rfl,aJ _,n1,n2,n3,C0.back hsn dd k (r1.mono (pa.k w)) (r2.mono (pa.k w)) l⟩
theorem aq.dcopy (hx:Aq B "dict")(hn:∀env,starEach [e] env=[(false,eval e env)])(h:aq P B C e p (RX P)):aq P B C (.Call (.Name (ofString "dict") np) [e] [] pos) (p1 fW p) (RN P):=fun n A env g ρ σ s k Q E X hb hq=>
 aq.b1 Cn (fun A env g σ s x t y Q E rm w q e hq=>xr X.good w q e hq)
  (fun _ q=>by cases q) hx (by decide) (by decide) (by decide) hn h n A env g ρ σ s k Q E X hb hq
end
end
end Mine
end
section
set_option tactic.hygienic false
namespace Mine
noncomputable section
open PySem PyProof.Rows PySem.SeqAt
noncomputable abbrev F2 (h:Heap)(a:Addr)(xs:List f8):Prop:=∀prog w,h.DictOfH (aN prog w) a xs
section
variable {A:Around} {s:Shared}
theorem zP {a b:Addr}{xs ys:List f8}(na:(a==sysModules)=false)(nb:(b==sysModules)=false)(dx:F2 s.heap a xs)(dy:F2 s.heap b ys)(hk:xs.map (·.1)=ys.map (·.1))(hv:∀(i:Nat) (x y:f8),xs[i]?=some x->ys[i]?=some y->EqAt A.in1 s x.2.2 y.2.2 true)(hu:A.units+100 < cLine):RcAt A s (.ref a) (.ref b) true:=fun prog w E Q h=>by
 have Dx:=dx prog w
 have Dy:=dy prog w
 have hl:xs.length=ys.length:=by have:=congrArg List.length hk;simpa using this
 refine wpAny_richCompare_same_room Dx.typeIs Dy.typeIs F.slot_dict_eq (wpAny_call_entry F.slot_dict_eq Dx.typeIs F.entry_dict_eq ?_ (F.args_dict_eq_2 _ _)) (lt_of_le_of_lt (le_add_right _ _) hu)
 show wpAny _ _ (Builtin.Dict.dictSlotArgs "__eq__" ⟨[.ref a,.ref b],[]⟩ >>=_) _ _ s
 refine wpAny_bind ?_
 unfold Builtin.Dict.dictSlotArgs
 refine wpAny_bind (wpAny_notOrdered_dict Dx.typeIs ?_)
 show wpAny _ _ (pure (Value.ref a,Value.ref b)) _ _ s
 refine wpAny_pure ?_
 dsimp only
 refine wpAny_bind (wpAny_isInstance Dy.typeIs isSubtype_dict_dict ?_)
 simp only [Bool.not_true,false_eq_true,if_false]
 refine wpAny_bind (wpAny_pure (wpAny_bind (wpAny_pure (wpAny_bind ?_))))
 obtain ⟨o,es,ep,ho,hc,hdat,he,hi,hnd⟩:=id Dx
 obtain ⟨o2,es2,ep2,ho2,hc2,hdat2,he2,hi2,hnd2⟩:=id Dy
 have z1:es.size=xs.length:=size_of_entries he
 have z2:es2.size=ys.length:=size_of_entries he2
 unfold Builtin.Dict.samePairs
 unfold Builtin.Dict.showsAll
 rw [if_neg (by rw [na];exact Bool.false_ne_true)]
 refine wpAny_bind (wpAny_pure ?_)
 rw [if_neg (by rw [nb];exact Bool.false_ne_true)]
 refine wpAny_bind (wpAny_pure ?_)
 refine wpAny_bind (wpAny_dictEntries ho hdat ?_)
 refine wpAny_bind (wpAny_dictEntries ho2 hdat2 ?_)
 dsimp only
 rw [if_neg (by rw [z1,z2,hl];simp)]
 refine wpAny_bind (wpAny_dictEpoch ho hdat ?_)
 refine wpAny_bind ?_
 rw [Std.Legacy.Range.forIn_eq_forIn_range']
 refine wpAny_forIn_list _ (fun rest b s'=>s'=s/\b=(none,())/\∀i∈rest,i < xs.length) _ ?_ ?_ _ _ ⟨rfl,rfl,fun i hi=>?_⟩
 .rintro i rest b s' ⟨rfl,rfl,hr⟩
  have hx:=hr i (.head _)
  have hy:i < ys.length:=hl▸hx
  have ex:xs[i]?=some xs[i]:=getElem?_eq_getElem hx
  have ey:ys[i]?=some ys[i]:=getElem?_eq_getElem hy
  have ek:xs[i].1=ys[i].1:=by
   have:=congrArg (·[i]?) hk
   simp only [getElem?_map,ex,ey,Option.map_some] at this
   exact Option.some.inj this
  refine wpAny_bind (wpAny_dictEntries ho hdat ?_)
  rw [entry_at he i,ex]
  show wpAny _ _ (holding _ _ >>=_) _ _ _
  refine wpAny_bind (wpAny_holding (wpAny_bind (wpAny_dictFind_heap (knd:=aN prog w) (k:=xs[i].1) (show A.in1.units+6 < cLine by rw [Around.in1_units];omega) (hi _ (getElem_mem hx)) ho2 hdat2 he2 hi2 hnd2 (fun hno=>absurd (by rw [ey,ek]) (hno i ys[i].2)) fun j p hj=>?_)))
  have ej:j=i:=by
   have nd:=List.pairwise_iff_getElem.mp hnd2
   obtain ⟨jl,ejv⟩:=aj hj
   have e1:ys[j].1=ys[i].1:=by rw [ejv];exact ek
   rcases Nat.lt_trichotomy j i with q |q |q
   .exact absurd (by rw [getElem_map,getElem_map];exact e1) (nd j i (by simpa using jl) (by simpa using hy) q)
   .exact q
   .exact absurd (by rw [getElem_map,getElem_map];exact e1.symm) (nd i j (by simpa using hy) (by simpa using jl) q)
  subst ej
  refine wpAny_bind (wpAny_dictEntries ho2 hdat2 ?_)
  rw [entry_at he2 j,ey]
  refine wpAny_holding (hv j _ _ ex ey prog w _ _ ?_)
  rw [if_neg (show ¬(!true)=true by decide)]
  refine wpAny_bind (wpAny_dictEpoch ho hdat ?_)
  rw [if_neg (by simp)]
  exact wpAny_pure ⟨rfl,rfl,fun k hk'=>hr k (.tail _ hk')⟩
 .rintro b s' ⟨rfl,rfl,_⟩
  exact wpAny_pure (wpAny_pure ⟨_,rfl,(fun q=>by cases q),h⟩)
 .have:=List.mem_range'_1.mp hi
  simp only [Std.Legacy.Range.size] at this
  omega
end
end
end Mine
end
section
set_option tactic.hygienic false
namespace Mine
noncomputable section
open PySem PyProof.Rows PySem.SeqAt
noncomputable def kD (k:KB):PyData:=.tuple [.int k.1,.tuple (k.2.map .bool)]
theorem nY (m:Nat):∀g:List Bool,cS (bR m) (g.map .bool)=some (g.map .bool)
 | []=>rfl
 |b::g=>by
  rw [map_cons,cS,show bR m (.bool b)=some (.bool b) by cases m<;>rfl]
  simp only [nY m g];rfl
theorem Ed (m:Nat)(k:KB):bR (m+2) (gW k)=some (kD k):=by
 show (cS (bR (m+1)) [.int k.1,.tup (k.2.map .bool)]).map PyData.tuple=_
 rw [cS,show bR (m+1) (.int k.1)=some (.int k.1) from rfl]
 simp only [cS,show bR (m+1) (.tup (k.2.map .bool))=some (.tuple (k.2.map .bool)) by show (cS (bR m) (k.2.map .bool)).map PyData.tuple=_;rw [nY];rfl]
 rfl
theorem A2 (m:Nat):∀ks:List KB,cS (bR (m+2)) (ks.map gW)=some (ks.map kD)
 | []=>rfl
 |k::ks=>by rw [map_cons,cS,Ed];simp only [A2 m ks];rfl
theorem xt (ks:List KB):bR cf (vq ks)=some (.list (ks.map kD)):=by
 show (cS (bR 49) (ks.map gW)).map PyData.list=_
 rw [A2 47];rfl
theorem nK:∀g:List Bool,PyData.eqvAll (g.map .bool) (g.map .bool)=true
 | []=>rfl
 |b::g=>by
  show ((b==b)&&PyData.eqvAll (g.map .bool) (g.map .bool))=true
  rw [nK g,beq_self_eq_true];rfl
theorem xj:∀ks:List KB,PyData.eqvAll (ks.map kD) (ks.map kD)=true
 | []=>rfl
 |k::ks=>by
  show (((k.1==k.1)&&(PyData.eqvAll (k.2.map .bool) (k.2.map .bool)&&true))&&PyData.eqvAll (ks.map kD) (ks.map kD))=true
  rw [xj ks,nK,beq_self_eq_true];rfl
section
variable {P:Pg} {A:Around} {g:Gh} {s:Shared}
theorem tE {ks:List KB}{x y:Value}(hu:A.units+100 < cLine)(r:dY P g s.heap (vq ks) x)(r':dY P g s.heap (vq ks) y):EqAt A s x y true:=by
 obtain ⟨⟨as,r1⟩,c1,l1⟩:=bH cf _ x _ (xt ks) r
 obtain ⟨⟨bs,r2⟩,c2,l2⟩:=bH cf _ y _ (xt ks) r'
 have:=eqAt_reads _ _ A s x y as bs r1 r2 c1 c2 (lt_of_le_of_lt (add_le_add_left (le_trans (min_le_left _ _) l1) _) (lt_of_le_of_lt (add_le_add_left (by decide:cf<=100) _) hu))
 rwa [show PyData.eqv (.list (ks.map kD)) (.list (ks.map kD))=true from xj ks] at this
theorem xp {ks:List KB}{a:Addr}{xs:List f8}{h:Heap}(d:h.DictOfH (aN P.prog P.w) a xs)(ek:xs.map (·.1)=ks.map jY):F2 h a xs:=fun prog w=>by
 obtain ⟨o,es,ep,ho,hc,hdat,he,hi,hnd⟩:=d
 refine ⟨o,es,ep,ho,hc,hdat,?_,hi,hnd⟩
 rw [he]
 refine map_congr_left fun x hx=>?_
 have:x.1∈ks.map jY:=ek▸bn ⟨x,hx,rfl⟩
 obtain ⟨k,_,e⟩:=aF this
 show DictEntry.mk ((aN P.prog P.w).hash x.1) (.ref x.2.1) x.2.2=DictEntry.mk ((aN prog w).hash x.1) (.ref x.2.1) x.2.2
 rewrite [oR,oR,<-e,oZ,oZ]
 rfl
theorem zO {ks:List KB}{ls:List (List KB)}{x y:Value}(hu:A.units+150 < cLine)(q:dY P g s.heap (.dct (ks.map gW) (ls.map vq)) x)(q':dY P g s.heap (.dct (ks.map gW) (ls.map vq)) y):EqAt A s x y true:=by
 obtain ⟨a,rfl,xs,n,d,k,r1,r2,l⟩:=q.d rfl
 obtain ⟨a',rfl,xs',n',d',k',r1',r2',l'⟩:=q'.d rfl
 have ek:xs.map (·.1)=ks.map jY:=Option.some.inj (k.symm.trans (oQ ks))
 have ek':xs'.map (·.1)=ks.map jY:=Option.some.inj (k'.symm.trans (oQ ks))
 by_cases e:a=a'
 .rw [e];exact EqAt.same _
 .refine EqAt.of_refs e (zP n n' (xp d ek) (xp d' ek') (ek.trans ek'.symm) (fun i x y hx hy=>?_) (by omega))
  have z:xs.length=ls.length:=by have:=r2.length;simpa using this
  have hi:i < ls.length:=z▸(aj hx).1
  have et:(ls.map vq)[i]?=some (vq ls[i]):=by rw [getElem?_map,getElem?_eq_getElem hi];rfl
  obtain ⟨v,h1,h2⟩:=r2.get et
  obtain ⟨v',h1',h2'⟩:=r2'.get et
  rw [getElem?_map,hx] at h1
  rw [getElem?_map,hy] at h1'
  cases h1;cases h1'
  exact tE (by rw [Around.in1_units];omega) (.inl h2) (.inl h2')
theorem Cp:iH P .NotEq y2:=fun A g σ s x x' t t' b Q E rm w q q' e k=>by
 obtain ⟨h,rfl⟩:=DG e
 obtain ⟨ks,ls⟩:=h
 obtain ⟨a,rfl,_,vs,n,h1,_,v1,vs1,e1,r1,v2,vs2,e2,r2,e3⟩:=q.tu rfl
 obtain ⟨a',rfl,_,vs',n',h1',_,v1',vs1',e1',r1',v2',vs2',e2',r2',e3'⟩:=q'.tu rfl
 have e3:vs2=[]:=e3
 have e3':vs2'=[]:=e3'
 subst e3 e2 e3' e2'
 have ev:vs=#[v1,v2]:=Array.toList_inj.mp e1
 have ev':vs'=#[v1',v2']:=Array.toList_inj.mp e1'
 subst ev ev'
 have hu:=rm.units
 refine RcNeAt.tuples (e:=fun _=>true) (items:=#[v1,v2]) (items2:=#[v1',v2']) ⟨_,h1,rfl,n,rfl⟩ ⟨_,h1',rfl,n',rfl⟩ (by omega) (fun j j1 j2=>?_) P.prog P.w E Q (k s.toks)
 match j,j1,j2 with
 | 0,_,_=>exact tE (by rw [Around.in1_units];omega) (.inl r1) (.inl r1')
 | 1,_,_=>exact zO (by rw [Around.in1_units];omega) (.inl r2) (.inl r2')
end
end
end Mine
end
section
set_option tactic.hygienic false
namespace Mine
noncomputable section
open PySem PyProof.Rows
noncomputable abbrev Mo (α:Type):=Nat->Option (α×Nat)
section
variable {α w Z:Type}
noncomputable def mR (a:α):Mo α:=fun s=>some (a,s)
noncomputable def mF:Mo α:=fun _=>none
noncomputable def mB (x:Mo α)(f:α->Mo w):Mo w:=fun s=>Option.rec none (fun q=>Prod.rec f q) (x s)
noncomputable def mN (f:Nat->Mo α):Mo α:=fun s=>f (s % 100000) (s / 100000)
noncomputable def jk (b:Bool)(f:b=true->α)(d:α):α:=Bool.rec (motive:=fun b=>(b=true->α)->α) (fun _=>d) (fun f=>f rfl) b f
noncomputable def mG (b:Bool)(f:b=true->Mo α):Mo α:=jk b f mF
noncomputable def m2 (a b:Mo α):Mo α:=mN fun d=>bif Nat.beq d 0 then a else b
noncomputable def mU {S:w->Prop}(x:Mo {p:w // S p})(f:∀p,S p->Mo α):Mo α:=mB x fun a=>Subtype.rec f a
noncomputable def d6 {α:List Z->Type}(l:List Z)(n:Mo (α []))(f:∀x r,Mo (α (x::r))):Mo (α l):=List.rec (motive:=fun l=>Mo (α l)) n (fun x r _=>f x r) l
noncomputable def ip {α:List Z->Type}(l:List Z)(n:Mo (α [])):Mo (α l):=d6 l n fun _ _=>mF
noncomputable def pR {α:List Z->Type}(l:List Z)(f:∀x,Mo (α [x])):Mo (α l):=d6 l mF fun x r=>ip (α:=fun r=>α (x::r)) r (f x)
noncomputable def yC {α:List Z->Type}(l:List Z)(f:∀x y,Mo (α [x,y])):Mo (α l):=d6 l mF fun x r=>pR (α:=fun r=>α (x::r)) r (f x)
end
theorem qI {b:Bool}(h:(!b)=true):b=false:=(not_eq_true' b).mp h
theorem sb {Z:Type} [BEq Z] [LawfulBEq Z] {α:Z->Prop}{y z:Z}(h:(y==z)=true)(a:α z):α y:=(eq_of_beq h)▸a
noncomputable def tJ (k:Nat)(e:Expr):Bool:=Nat.beq e.ctorIdx k
noncomputable def gS (e:Expr):Bool:=!tJ 22 e&&(!tJ 26 e&&!tJ 7 e)
noncomputable def F4 (e:Expr):Bool:=!tJ 0 e&&(!tJ 3 e&&(!tJ 5 e&&!tJ 15 e))
structure Pl (e:Expr):Prop where
 star:∀es env,starEach (e::es) env=(false,eval e env)::starEach es env
 subs:∀x y,subscripted e false x y=operate [x,y] (getItem x y)
 fold:∀env x,foldedSetIterable e env x=pure x
 beh:∀op,behindInMarks op e=false
 base:tJ 16 e=false->∀name env,attributeBase e name env (eval e env)=eval e env
 tv:F4 e=true->∀env whole,isTrue e env whole=(do let v <-whole;standAt e.pos;holding [v] (truthy v))
 sws:∀a i p l env,swapsWith e (some (.Subscript a i p)) l env=pure false
 swa:∀a x p l env,swapsWith e (some (.Attribute a x p)) l env=pure false
theorem pl {e:Expr}(h:gS e=true):Pl e:=by
 cases e<;>first |exact ⟨fun _ _=>rfl,fun _ _=>rfl,fun _ _=>rfl,fun _=>rfl,fun _ _ _=>rfl,fun _ _ _=>rfl,fun _ _ _ _ _=>rfl,fun _ _ _ _ _=>rfl⟩ |exact ⟨fun _ _=>rfl,fun _ _=>rfl,fun _ _=>rfl,fun _=>rfl,fun _ _ _=>rfl,(fun h=>nomatch h),fun _ _ _ _ _=>rfl,fun _ _ _ _ _=>rfl⟩ |exact ⟨fun _ _=>rfl,fun _ _=>rfl,fun _ _=>rfl,fun _=>rfl,(fun h=>nomatch h),fun _ _ _=>rfl,fun _ _ _ _ _=>rfl,fun _ _ _ _ _=>rfl⟩ |cases h
theorem bt {e:Expr}(h:gS e=true)(pos:Pos)(env:Env):backTo pos (starEach [e] env)=[(false,eval e env)]:=by rw [(pl h).star];rfl
theorem Gc {o1 o2:CmpOp}{m r:Expr}(h:gS r=true)(env:Env):markedEach [o1,o2] [m,r] (evalEach [m,r] env)=[eval m env,eval r env]:=by
 show [eval m env,markedBehindIn o2 r (eval r env)]=_
 unfold markedBehindIn;rw [(pl h).beh o2]
section
variable {α:Expr->Type} (e:Expr)
noncomputable def vC {k:Nat}(d:Mo (α e))(f:e.ctorIdx=k->Mo (α e)):Mo (α e):=jk (tJ k e) (fun h=>f (eq_of_beq_eq_true h)) d
noncomputable def bN (d:Mo (α e))(f:∀y p,Mo (α (.Name y p))):Mo (α e):=vC e d fun h=>Expr.Name.elim (motive_1:=fun e=>Mo (α e)) e h f
noncomputable def kP (d:Mo (α e))(f:∀o x p,Mo (α (.Attribute o x p))):Mo (α e):=vC e d fun h=>Expr.Attribute.elim (motive_1:=fun e=>Mo (α e)) e h f
noncomputable def jL (d:Mo (α e))(f:∀g es p,Mo (α (.Call g es [] p))):Mo (α e):=vC e d fun h=>Expr.Call.elim (motive_1:=fun e=>Mo (α e)) e h fun g es ks p=>ip (α:=fun ks=>α (.Call g es ks p)) ks (f g es p)
noncomputable def A8 (d:Mo (α e))(f:∀es k p,Mo (α (.Tuple es k p))):Mo (α e):=vC e d fun h=>Expr.Tuple.elim (motive_1:=fun e=>Mo (α e)) e h f
noncomputable def yD (f:∀i k p,Mo (α (.Constant (.int i) k p))):Mo (α e):=vC e mF fun h=>Expr.Constant.elim (motive_1:=fun e=>Mo (α e)) e h fun c k p=>jk (Nat.beq c.ctorIdx 2) (fun h=>Const.int.elim (motive:=fun c=>Mo (α (.Constant c k p))) c (eq_of_beq_eq_true h) fun i=>f i k p) mF
noncomputable def Ar (d:Mo (α e))(f:∀elt t i fs s p,Mo (α (.ListComp elt [⟨t,i,fs,0⟩] s p))):Mo (α e):=vC e d fun h=>Expr.ListComp.elim (motive_1:=fun e=>Mo (α e)) e h fun elt gs s p=>pR (α:=fun gs=>α (.ListComp elt gs s p)) gs fun g=>Comprehension.casesOn (motive_3:=fun g=>Mo (α (.ListComp elt [g] s p))) g fun t i fs a=>jk (a==0) (fun h=>Eq.rec (motive:=fun a _=>Mo (α (.ListComp elt [⟨t,i,fs,a⟩] s p))) (f elt t i fs s p) (eq_of_beq h).symm) mF
noncomputable def A9 (d:Mo (α e))(f:∀a b c p,Mo (α (.Slice a b c p))):Mo (α e):=vC e d fun h=>Expr.Slice.elim (motive_1:=fun e=>Mo (α e)) e h f
noncomputable def Gu (f:∀op e p,Mo (α (.UnaryOp op e p))):Mo (α e):=vC e mF fun h=>Expr.UnaryOp.elim (motive_1:=fun e=>Mo (α e)) e h f
end
noncomputable abbrev LT:=List (Str×Nat)×List (Str×Nat)×List (Str×Nat)×List (Str×T)
noncomputable def LT.ms (L:LT)(b:Bool):List (Str×Nat):=bif b then L.2.1 else L.2.2.1
noncomputable def rC (b:Bool):Nat:=bif b then 0 else 10
structure f7 (P:Pg) (L:LT):Prop where
 fn:∀p∈L.1,∃F,P.Ψ p.2=some F/\P.gl p.2=true/\(P.fd p.2).name=p.1
 o:∀b,bo P (rC b) (L.ms b)
 me:∀b,∀p∈L.ms b,∃F,P.Ψ p.2=some F
 g:∀b,P.mg (bif b then ofString "Machine" else ofString "Web")=some (.ref (P.cls (rC b)))
 cs:∀p∈L.2.2.2,∃u,P.mg p.1=some u/\∀g h,Rp P g h p.2 u
theorem mM {α:Type}{y:Str}{t:α}{l:List (Str×α)}(h:l.lookup y=some t):(y,t)∈l:=let ⟨_,_,e,_⟩:=List.lookup_eq_some_iff.mp h;e▸mem_append_right _ mem_cons_self
noncomputable def mO {α w:Type}(l:List (Str×w))(y:Str)(d:Mo α)(f:∀t,(y,t)∈l->Mo α):Mo α:=Option.rec (motive:=fun o=>(∀t,o=some t->Mo α)->Mo α) (fun _=>d) (fun t f=>f t rfl) (l.lookup y) fun t h=>f t (mM h)
noncomputable def KR (P:Pg)(k:Option Bool):RR Value T:=Option.rec (RX P) (fun b=>Bool.rec (RV P) (RN P) b) k
noncomputable abbrev RE (P:Pg)(B:br)(C:Ct)(e:Expr):=(k:Option Bool)×{p:PE // aq P B C e p (KR P k)}
noncomputable abbrev FE (P:Pg):=∀(B:br) (C:Ct) (e:Expr),Mo (RE P B C e)
noncomputable abbrev FT (P:Pg):=∀(B:br) (C:Ct) (e:Expr),Mo {p:PT // cn P B C e p}
noncomputable abbrev Gi (B:br)(y:Str):Bool:=(B.sc.names.lookup y==some .globalImplicit)&&!(y==("__debug__":Str))
theorem gi {B:br}{y:Str}(h:Gi B y=true):B.sc.names.lookup y=some .globalImplicit:=eq_of_beq (fM h)
theorem FA {B:br}{y:Str}(h:Gi B y=true):(y==("__debug__":Str))=false:=qI (gN h)
theorem yu {B:br}{y z:Str}(q:(y==z)=true)(h:Gi B y=true):B.sc.names.lookup z=some .globalImplicit:=eq_of_beq q▸gi h
noncomputable def slot (l:Tb)(y:Str):Nat:=l.findIdx fun o=>Option.rec false (fun q=>q.1==y) o
noncomputable def knd (l:Tb)(i:Nat):NameKind:=((l[i]?.getD none).getD (ofString "",.local)).2
noncomputable def xq (C:Ct)(i:Nat):Ct:=⟨C.O.filter fun j=>!Nat.beq j i,C.U,C.m⟩
noncomputable def CF (C:Ct)(i:Nat):Ct:=⟨C.O.filter (fun j=>Nat.blt j i)++i::C.O.filter (fun j=>Nat.blt i j),C.U,C.m⟩
noncomputable def Ec (C:Ct)(i:Nat):Ct:=⟨C.O,C.U.filter fun j=>!Nat.beq j i,C.m⟩
section
variable {P:Pg} {L:LT} (D:f7 P L) (E:FE P) (Tr:FT P) (B:br) (C:Ct) {w:Type}
section
variable {e:Expr}
noncomputable def rv (p:PE)(h:aq P B C e p (RV P)):Mo (RE P B C e):=mR ⟨some false,p,h⟩
noncomputable def rn (p:PE)(h:aq P B C e p (RN P)):Mo (RE P B C e):=mR ⟨some true,p,h⟩
noncomputable def rx (p:PE)(h:aq P B C e p (RX P)):Mo (RE P B C e):=mR ⟨none,p,h⟩
end
section
variable (e:Expr)
noncomputable def mV (f:∀p,aq P B C e p (RV P)->Mo w):Mo w:=mB (E B C e) fun r=>Option.rec (motive:=fun k=>{p:PE // aq P B C e p (KR P k)}->Mo w) (fun _=>mF) (fun b=>Bool.rec (motive:=fun b=>{p:PE // aq P B C e p (KR P (some b))}->Mo w) (fun a=>Subtype.rec f a) (fun a=>Subtype.rec (fun p h=>f p (dB.nv h)) a) b) r.1 r.2
noncomputable def mX (f:∀p,aq P B C e p (RX P)->Mo w):Mo w:=mB (E B C e) fun r=>Option.rec (motive:=fun k=>{p:PE // aq P B C e p (KR P k)}->Mo w) (fun a=>Subtype.rec f a) (fun b=>Bool.rec (motive:=fun b=>{p:PE // aq P B C e p (KR P (some b))}->Mo w) (fun a=>Subtype.rec (fun p h=>f p (dB.vx h)) a) (fun a=>Subtype.rec (fun p h=>f p (dB.nx h)) a) b) r.1 r.2
noncomputable def mW (f:∀p,aq P B C e p (RN P)->Mo w):Mo w:=mB (E B C e) fun r=>Option.rec (motive:=fun k=>{p:PE // aq P B C e p (KR P k)}->Mo w) (fun _=>mF) (fun b=>Bool.rec (motive:=fun b=>{p:PE // aq P B C e p (KR P (some b))}->Mo w) (fun _=>mF) (fun a=>Subtype.rec f a) b) r.1 r.2
end
noncomputable def wH (y:Str)(d:Mo w)(f:∀(i:Nat) (k:NameKind),B.tab[i]?=some (some (y,k))->Mo w):Mo w:=jk (B.tab[slot B.tab y]?==some (some (y,knd B.tab (slot B.tab y)))) (fun h=>f _ _ (eq_of_beq h)) d
noncomputable def EI (y:Str)(d:Mo w)(f:∀k,B.tab[0]?=some (some (y,k))->Mo w):Mo w:=jk (C.m&&(B.tab[0]?==some (some (y,knd B.tab 0)))) (fun h=>f _ (eq_of_beq (gN h))) d
noncomputable def mA (x:Str)(f:∀(c i:Nat) ms,bo P c ms->(bU c)[i]?=some x->Mo w):Mo w:=
 (fun b=>jk ((bU (rC b))[(bU (rC b)).findIdx (·==x)]?==some x) (fun h=>f (rC b) _ _ (D.o b) (eq_of_beq h)) mF) ((bU 0).contains x)
noncomputable def uk {α:Expr->Type}(e:Expr)(d:∀e,Mo (α e))(f:∀y np x ap (c i:Nat) ms k,bo P c ms->(bU c)[i]?=some x->B.tab[0]?=some (some (y,k))->Mo (α (.Attribute (.Name y np) x ap))):Mo (α e):=
 kP e (d e) fun o x ap=>bN (α:=fun o=>α (.Attribute o x ap)) o (d _) fun y np=>EI B C y (d _) fun k ht=>bif (bU 10).contains x then mA D x fun c i ms O hn=>bif gD c i then f y np x ap c i ms k O hn ht else d _ else d _
noncomputable def Au (es:List Expr):Mo {p:PL // gp P B C es p}:=List.rec (motive:=fun es=>Mo {p:PL // gp P B C es p}) (mR ⟨ar,.nil⟩) (fun e es ih=>mG (gS e) fun h=>mV E B C e fun p hp=>mU ih fun r hr=>mR ⟨ab p r,.cons ((pl h).star es) hp hr⟩) es
noncomputable def Cl (c:Const)(k:Nat)(pos:Pos):Mo (RE P B C (.Constant c k pos)):=
 Const.casesOn (motive:=fun c=>Mo (RE P B C (.Constant c k pos))) c (rv B C (pC .none) .none) (fun b=>rv B C (pC (.bool b)) .bool) (fun i=>rv B C (pC (.int i)) .int) (fun _=>mF) (fun _ _=>mF) (fun y=>mG (PyData.strOk y&&decide (y.length<=lim)) fun h=>rv B C (pC (.str y)) (.str h)) (fun _=>mF) mF
noncomputable def DW (y:Str)(pos:Pos):Mo (RE P B C (.Name y pos)):=
 wH B y (mG (Gi B y) fun hg=>mO L.2.2.2 y mF fun t h=>rv B C (pC t) (.gconst (gi hg) (FA hg) (D.cs _ h)))
  fun i k ht=>jk (bi C i) (fun ho=>rx B C (pV i) (.own ho ht)) (mG (iO C i) fun hv=>rv B C (pV i) (.var hv ht))
noncomputable def FG (l:Expr)(op:Operator)(r:Expr)(pos:Pos):Mo (RE P B C (.BinOp l op r pos)):=
 mX E B C l fun a ha=>mX E B C r fun b hb=>Operator.casesOn (motive:=fun op=>Mo (RE P B C (.BinOp l op r pos))) op
  (rv B C (p2 bM a b) (.bin jt DD ha hb)) (rv B C (p2 jw a b) (.bin jt Dw ha hb))
  (bif tJ 24 l then rn B C (p2 Bq a b) (.bin Cn Dz ha hb) else rv B C (p2 gE a b) (.bin jt DA ha hb))
  mF mF (rv B C (p2 ck a b) (.bin jt DB ha hb)) mF mF mF mF mF mF (rv B C (p2 fk a b) (.bin jt DC ha hb))
noncomputable def GL (op:UnaryOp)(e:Expr)(pos:Pos):Mo (RE P B C (.UnaryOp op e pos)):=mX E B C e fun a ha=>
 UnaryOp.casesOn (motive:=fun op=>Mo (RE P B C (.UnaryOp op e pos))) op mF (rv B C (mL a) (.not ha)) mF (rv B C (p1 oE a) (.neg ha))
noncomputable def D0 (o:Expr)(name:Str)(pos:Pos):Mo (RE P B C (.Attribute o name pos)):=
 bN (α:=fun o=>RE P B C (.Attribute o name pos)) o mF fun y np=>mA D name fun c i ms O hn=>
  EI B C y (mV E B C (.Name y np) fun p h=>rv B C (p1 (iB c i) p) (.attr O hn (fun _=>rfl) (fun _ _=>rfl) h))
   fun k ht=>mG (!bi C 0) fun ho=>rv B C (fh c i) (.rat O hn (qI ho) ht)
noncomputable def tY (P:Pg)(op:CmpOp):Mo {F:T->T->Option Bool // iH P op F}:=
 CmpOp.casesOn (motive:=fun op=>Mo {F:T->T->Option Bool // iH P op F}) op (mR ⟨cA,Eo⟩) (m2 (mR ⟨jW,Ei⟩) (mR ⟨y2,Cp⟩)) (mR ⟨rB,Ej⟩) (mR ⟨CT,Ek⟩) (mR ⟨Cc,Em⟩) (mR ⟨Gg,En⟩) (m2 (mR ⟨_,AT⟩) (mR ⟨_,xI⟩)) (m2 (mR ⟨_,xH⟩) (mR ⟨_,u7⟩))
  (m2 (mR ⟨kF,El⟩) (m2 (mR ⟨B9,xJ⟩) (mR ⟨EO,Cq⟩))) (m2 (mR ⟨hJ,xG⟩) (mR ⟨ig,u6⟩))
noncomputable def FF (l:Expr)(ops:List CmpOp)(rs:List Expr)(pos:Pos):Mo (RE P B C (.Compare l ops rs pos)):=
 d6 (α:=fun ops=>RE P B C (.Compare l ops rs pos)) ops mF fun op os=>d6 (α:=fun rs=>RE P B C (.Compare l (op::os) rs pos)) rs mF fun r rs=>mU (tY P op) fun F hF=>mX E B C l fun a ha=>mX E B C r fun b hb=>
  d6 (α:=fun os=>RE P B C (.Compare l (op::os) (r::rs) pos)) os
   (ip (α:=fun rs=>RE P B C (.Compare l [op] (r::rs) pos)) rs (mG (gS r) fun h=>rv B C (pB (p2 F a b)) (.cmp hF ((pl h).beh op) ha hb)))
   fun o2 os=>ip (α:=fun os=>RE P B C (.Compare l (op::o2::os) (r::rs) pos)) os (pR (α:=fun rs=>RE P B C (.Compare l [op,o2] (r::rs) pos)) rs fun q=>mG (gS q) fun h=>mU (tY P o2) fun G hG=>mX E B C q fun c hc=>rv B C (pB (lk F G a b c)) (.cmp2 hF hG (Gc h) ha hb hc))
noncomputable def Gv (op:BoolOp)(es:List Expr):Mo {p:PE // iF P B C op es p}:=List.rec (motive:=fun es=>Mo {p:PE // iF P B C op es p}) mF
 (fun e es ih=>mV E B C e fun a ha=>List.rec (motive:=fun es=>Mo {p:PE // iF P B C op es p}->Mo {p:PE // iF P B C op (e::es) p}) (fun _=>mR ⟨a,.one ha⟩) (fun e' es _ ih=>mU ih fun r hr=>
  BoolOp.casesOn (motive:=fun op=>iF P B C op (e'::es) r->Mo {p:PE // iF P B C op (e::e'::es) p}) op (fun hr=>mR ⟨eX a r,.and ha hr⟩) (fun hr=>mR ⟨wj a r,.or ha hr⟩) hr) es ih) es
noncomputable def F5 (e:Option Expr):Mo {p:PO // rd P B C e p}:=Option.rec (motive:=fun e=>Mo {p:PO // rd P B C e p}) (mR ⟨tg,.none⟩) (fun e=>mX E B C e fun a ha=>mR ⟨p1 gk a,.some ha⟩) e
noncomputable def DX (i:Expr)(pos:Pos)(a:Expr):Mo (RE P B C (.Subscript a i pos)):=mG (gS i) fun h=>mN fun d=>mX E B C a fun x hx=>mX E B C i fun y hy=>bif Nat.beq d 0 then rv B C (p2 aw x y) (.idx (pl h).subs hx hy) else rv B C (p2 idxD x y) (.idxD (pl h).subs hx hy)
noncomputable def DV (a i:Expr)(pos:Pos):Mo (RE P B C (.Subscript a i pos)):=
 A9 (α:=fun i=>RE P B C (.Subscript a i pos)) i
  (bN (α:=fun a=>RE P B C (.Subscript a i pos)) a
   (uk D B C (α:=fun a=>RE P B C (.Subscript a i pos)) a (DX E B C i pos) fun y np x ap c j ms k O hn ht=>mG (gS i) fun h=>mN fun d=>mV E B C i fun q hq=>
    bif Nat.beq d 0 then rv B C (By c j aw q) (.f2 O hn ht (wm (pl h).subs) hq) else rv B C (By c j idxD q) (.f2 O hn ht (wl (pl h).subs) hq))
   fun y np=>jk (y==("_law_spot":Str))
    (fun _=>yD (α:=fun i=>RE P B C (.Subscript (.Name y np) i pos)) i fun j kk cp=>mG (j==0) fun hj=>wH B y mF fun n k ht=>mG (iO C n) fun hv=>rv B C (nq n) (sb (α:=fun j=>aq P B C (.Subscript (.Name y np) (.Constant (.int j) kk cp) pos) (nq n) (RV P)) hj (.spot hv ht)))
    (DX E B C i pos (.Name y np)))
  fun lo hi st p=>mX E B C a fun x hx=>Option.rec (motive:=fun st=>Mo (RE P B C (.Subscript a (.Slice lo hi st p) pos)))
   (mU (F5 E B C lo) fun l hl=>mU (F5 E B C hi) fun h hh=>rv B C (p3 dc x l h) (.slc hx hl hh))
   (fun st=>Option.rec (motive:=fun lo=>Mo (RE P B C (.Subscript a (.Slice lo hi (some st) p) pos))) (Option.rec (motive:=fun hi=>Mo (RE P B C (.Subscript a (.Slice none hi (some st) p) pos)))
    (Gu (α:=fun st=>RE P B C (.Subscript a (.Slice none none (some st) p) pos)) st fun op e pu=>yD (α:=fun e=>RE P B C (.Subscript a (.Slice none none (some (.UnaryOp op e pu)) p) pos)) e fun j kc pc=>mG (j==1) fun hj=>mG (op==.USub) fun ho=>rv B C (p1 v6 x) (sb (α:=fun j=>aq P B C (.Subscript a (.Slice none none (some (.UnaryOp op (.Constant (.int j) kc pc) pu)) p) pos) (p1 v6 x) (RV P)) hj (sb (α:=fun op=>aq P B C (.Subscript a (.Slice none none (some (.UnaryOp op (.Constant (.int 1) kc pc) pu)) p) pos) (p1 v6 x) (RV P)) ho (.rev hx)))) (fun _=>mF) hi) (fun _=>mF) lo) st
end
end
end Mine
end
section
set_option tactic.hygienic false
namespace Mine
noncomputable section
open PySem PyProof.Rows
noncomputable def Cw (y:Str):BT:=bif y==BT.nm .list then .list else bif y==BT.nm .bool then .bool else bif y==BT.nm .int then .int else bif y==BT.nm .str then .str else .tuple
section
variable {P:Pg} {B:br} {C:Ct} {e o:Expr} {p pe po:PE} {y z name:Str} {pn qn apos pos np:Pos}
theorem Fv (X:BT)(hy:(y==ofString "isinstance")=true)(hT:(z==X.nm)=true)(hx:Gi B y=true)(hz:Gi B z=true)(hp:gS e=true)(h:aq P B C e p (RX P)):aq P B C (.Call (.Name y pn) [e,.Name z qn] [] pos) (p1 (eO X) p) (RV P):=
 sb (α:=fun y=>aq P B C (.Call (.Name y pn) [e,.Name z qn] [] pos) (p1 (eO X) p) (RV P)) hy (sb (α:=fun z=>aq P B C (.Call (.Name (ofString "isinstance") pn) [e,.Name z qn] [] pos) (p1 (eO X) p) (RV P)) hT (.isi X (yu hy hx) (yu hT hz) (fun env=>((pl hp).star _ env).trans rfl) h))
noncomputable abbrev GU (P:Pg)(x:String)(F:T->Option T)(R:RR Value T):Prop:=∀{B:br} {C:Ct} {e:Expr} {p:PE} {pn pos:Pos},Aq B x->(∀env,starEach [e] env=[(false,eval e env)])->aq P B C e p (RX P)->aq P B C (.Call (.Name (ofString x) pn) [e] [] pos) (p1 F p) R
theorem Ad {x:String}{F:T->Option T}{R:RR Value T}(k:GU P x F R)(hx:Gi B y=true)(hp:gS e=true)(h:aq P B C e p (RX P))(hy:(y==ofString x)=true):aq P B C (.Call (.Name y pn) [e] [] pos) (p1 F p) R:=
 sb (α:=fun y=>aq P B C (.Call (.Name y pn) [e] [] pos) (p1 F p) R) hy (k (yu hy hx) ((pl hp).star []) h)
theorem EJ {x id:String}{K:MK}{F:T->T->Option T}(i:vw K (ofString x) id)(k:pK P (C5 P id) F (RV P))(hk:gS o=true)(ho:(!tJ 16 o)=true)(hl:(apos.endLine==pos.line)=true)(hp:gS e=true)(h1:aq P B C o po (RX P))(h2:aq P B C e pe (RX P))(hy:(name==ofString x)=true):aq P B C (.Call (.Attribute o name apos) [e] [] pos) (uC K F po pe) (RV P):=
 sb (α:=fun name=>aq P B C (.Call (.Attribute o name apos) [e] [] pos) (uC K F po pe) (RV P)) hy (.m1 i jt k ((pl hk).base (qI ho) _) hl (bt hp pos) h1 h2)
end
section
variable {P:Pg} {L:LT} (D:f7 P L) (E:FE P) (Tr:FT P) (B:br) (C:Ct)
section
variable (y:Str) (pn:Pos) (pos:Pos)
noncomputable def GO (e:Expr):Mo (RE P B C (.Call (.Name y pn) [e] [] pos)):=mG (Gi B y) fun hx=>mG (gS e) fun hp=>mX E B C e fun a ha=>
 jk (y==ofString "len") (fun hy=>m2 (rv B C (p1 bF a) (Ad .len hx hp ha hy)) (rv B C (p1 qK a) (Ad .dlen hx hp ha hy)))
 (jk (y==ofString "list") (fun hy=>rn B C (p1 gG a) (Ad .listOf hx hp ha hy))
 (jk (y==ofString "any") (fun hy=>rv B C (p1 Ag a) (Ad .anyOf hx hp ha hy))
 (jk (y==ofString "all") (fun hy=>rv B C (p1 js a) (Ad .allOf hx hp ha hy))
 (jk (y==ofString "int") (fun hy=>rv B C (p1 lJ a) (Ad .intOf hx hp ha hy))
 (jk (y==ofString "dict") (fun hy=>m2 (rn B C (p1 tS a) (Ad .dictOf hx hp ha hy)) (rn B C (p1 fW a) (Ad .dcopy hx hp ha hy))) (jk (y==ofString "sorted") (fun hy=>rn B C (p1 gw a) (Ad .sorted hx hp ha hy)) mF))))))
noncomputable def Cm (es:List Expr):Mo (RE P B C (.Call (.Name y pn) es [] pos)):=mG (Gi B y) fun hx=>
 mO L.1 y
  (d6 (α:=fun es=>RE P B C (.Call (.Name y pn) es [] pos)) es mF fun e es=>(fun b=>jk (y==(bif b then ofString "Machine" else ofString "Web"))
    (fun hy=>mO (L.ms b) (ofString "__init__") mF fun f hi=>mG (rA f&&!j4 f) fun hf=>mG (gS e) fun hp=>mU (Au E B C (e::es)) fun r hr=>rv B C (oq (rC b) f r) (sb (α:=fun y=>aq P B C (.Call (.Name y pn) (e::es) [] pos) (oq (rC b) f r) (RV P)) hy (.new (D.o b) hi hf (D.g b) (yu hy hx) (by cases b<;>decide) ((pl hp).star es) hr)))
    (d6 (α:=fun es=>RE P B C (.Call (.Name y pn) (e::es) [] pos)) es
     (uk D B C (α:=fun e=>RE P B C (.Call (.Name y pn) [e] [] pos)) e (GO E B C y pn pos) fun z np x ap c i ms k O hn ht=>mG (y==ofString "len") fun hy=>rv B C (p1 bF (ou c i)) (sb (α:=fun y=>aq P B C (.Call (.Name y pn) [.Attribute (.Name z np) x ap] [] pos) (p1 bF (ou c i)) (RV P)) hy (.lenF O hn ht (yu hy hx) fun _=>rfl)))
     fun t es=>ip (α:=fun es=>RE P B C (.Call (.Name y pn) (e::t::es) [] pos)) es (bN (α:=fun t=>RE P B C (.Call (.Name y pn) [e,t] [] pos)) t mF fun z qn=>mG (y==ofString "isinstance") fun hy=>mG (z==(Cw z).nm) fun hT=>mG (Gi B z) fun hz=>mG (gS e) fun hp=>mX E B C e fun a ha=>rv B C (p1 (eO (Cw z)) a) (Fv (Cw z) hy hT hx hz hp ha))))
   (y==ofString "Machine"))
  fun f hf=>mG (!rA f) fun hm=>mU (Au E B C es) fun r hr=>
   jk (j4 f) (fun h=>rn B C (ax f r) (let ⟨_,h1,h2⟩:=D.fn _ hf;aq.callN h1 h2 (qI hm) h (gi hx) (FA hx) hr)) (mG (!j4 f) fun h=>rv B C (ax f r) (let ⟨_,h1,h2⟩:=D.fn _ hf;aq.call h1 h2 (qI hm) (qI h) (gi hx) (FA hx) hr))
end
section
variable (o:Expr) (name:Str) (apos:Pos) (pos:Pos)
noncomputable def GN (e:Expr):Mo (RE P B C (.Call (.Attribute o name apos) [e] [] pos)):=
 mG (gS o) fun hk=>mG (!tJ 16 o) fun ho=>mG (apos.endLine==pos.line) fun hl=>mG (gS e) fun hp=>mX E B C o fun a ha=>mX E B C e fun b hb=>
  jk (name==ofString "join") (fun hy=>rv B C (uC .str tH a b) (EJ Ca wW hk ho hl hp ha hb hy))
  (jk (name==ofString "split") (fun hy=>rv B C (uC .str od a b) (EJ zy uq hk ho hl hp ha hb hy))
  (jk (name==ofString "index") (fun hy=>rv B C (uC .list fj a b) (EJ tM w7 hk ho hl hp ha hb hy))
  (jk (name==ofString "count") (fun hy=>rv B C (uC .list xE a b) (EJ zz xD hk ho hl hp ha hb hy)) mF)))
noncomputable def GM (e f:Expr):Mo (RE P B C (.Call (.Attribute o name apos) [e,f] [] pos)):=
 mG (gS o) fun hk=>mG (!tJ 16 o) fun ho=>mG (apos.endLine==pos.line) fun hl=>mG (gS e) fun hp=>mG (gS f) fun hq=>mX E B C o fun a ha=>mX E B C e fun b hb=>mX E B C f fun c hc=>
  mG (name==ofString "index") fun hy=>rv B C (Gb .list kC a b c) (.idx3 hy ((pl hk).base (qI ho) _) hl (fun env=>by rw [(pl hp).star,(pl hq).star];rfl) ha hb hc)
noncomputable def AS (b:Bool)(es:List Expr)(d:Mo (RE P B C (.Call (.Attribute o name apos) es [] pos))):Mo (RE P B C (.Call (.Attribute o name apos) es [] pos)):=mO (L.ms b) name d fun f hm=>
 mG (EH (rC b) f name apos pos es.length) fun hb=>
  bN (α:=fun o=>RE P B C (.Call (.Attribute o name apos) es [] pos)) o (mG (gS o) fun hk=>mG (!tJ 16 o) fun ho=>mV E B C o fun a ha=>mU (Au E B C es) fun r hr=>rv B C (mI (rC b) f a r) (let ⟨_,h⟩:=D.me b _ hm;.meth (D.o b) hm h hb ((pl hk).base (qI ho) _) ha hr))
  fun y np=>EI B C y
   (mV E B C (.Name y np) fun a ha=>mU (Au E B C es) fun r hr=>rv B C (mI (rC b) f a r) (let ⟨_,h⟩:=D.me b _ hm;.meth (D.o b) hm h hb (fun _=>rfl) ha hr))
   fun k ht=>mU (Au E B C es) fun r hr=>rv B C (rU (rC b) f r) (let ⟨_,h⟩:=D.me b _ hm;.rmeth (D.o b) hm h hb ht hr)
end
noncomputable def DZ (g:Expr)(es:List Expr)(pos:Pos):Mo (RE P B C (.Call g es [] pos)):=
 bN (α:=fun g=>RE P B C (.Call g es [] pos)) g (kP (α:=fun g=>RE P B C (.Call g es [] pos)) g mF fun o name apos=>AS D E B C o name apos pos true es (AS D E B C o name apos pos false es (d6 (α:=fun es=>RE P B C (.Call (.Attribute o name apos) es [] pos)) es mF fun e es=>d6 (α:=fun es=>RE P B C (.Call (.Attribute o name apos) (e::es) [] pos)) es (GN E B C o name apos pos e) fun f es=>ip (α:=fun es=>RE P B C (.Call (.Attribute o name apos) (e::f::es) [] pos)) es (GM E B C o name apos pos e f))))
 fun y pn=>Cm D E B C y pn pos es
noncomputable def FL (B:br)(sc:Scope)(i:Nat)(x:Str)(k:NameKind):Tb:=(List.range i).map (fun j=>Option.rec none (fun q=>bif sc.names.contains (q.1,.free) then some (q.1,.cell) else none) (B.tab[j]?.getD none))++[some (x,k)]
noncomputable def E6 (c:Bool)(x:Str):Option Str:=bif c then some x else none
noncomputable def Fr (c:Bool):NameKind:=bif c then .cell else .local
theorem Er {P:Pg}{Bc:br}{C Ci:Ct}{i:Nat}{x:Str}{tp:Pos}{c:Bool}(hc:ci C i false Ci=true)(ht:(Bc.tab[i]?==some (some (x,Fr c)))=true):iI P (yh P Bc C Ci (.Name x tp) (bx i) (kR (E6 c x))):=by
 cases c
 .exact bindL hc (eq_of_beq ht)
 .exact bindC hc (eq_of_beq ht)
noncomputable def mK {α:Expr->Type}(target:Expr)(scope:Scope)(f:∀x tp i xc Bc Ci,d5 B Bc scope i xc->C.U.any (Nat.beq i)=true->ci C i false Ci=true->iI P (yh P Bc C Ci (.Name x tp) (bx i) (kR xc))->Mo (α (.Name x tp))):Mo (α target):=
 bN target mF fun x tp=>mN fun i=>(fun c=>(fun tab=>mG (xF B tab scope i (E6 c x)) fun hK=>mG (C.U.any (Nat.beq i)) fun hi=>mG (ci C i false (Ec C i)) fun hc=>mG (tab[i]?==some (some (x,Fr c))) fun ht=>f x tp i (E6 c x) ⟨gx scope B.sc,tab⟩ (Ec C i) (.of hK) hi hc (Er hc ht)) (FL B scope i x (Fr c))) (scope.names.lookup x==some .cell)
noncomputable def De (ifs:List Expr):Mo {p:PT // dI P B C ifs p}:=d6 (α:=fun ifs=>{p:PT // dI P B C ifs p}) ifs (mR ⟨b9,.nil⟩) fun c r=>ip (α:=fun r=>{p:PT // dI P B C (c::r) p}) r (mU (Tr B C c) fun a ha=>mR ⟨a,.one ha⟩)
section
variable {mk:Around->Addr->List T->List Addr->List Addr->(Nat->Gh->Heap->Prop)->Prop} (hb:iI P mk)
noncomputable def Bg (it:Expr):Mo {p:PL // fq P B C it mk p}:=mN fun d=>mV E B C it fun a ha=>bif Nat.beq d 0 then mR ⟨bK a,.seq hb ha⟩ else mR ⟨p1 zX a,.str hb ha⟩
noncomputable def F6 (it:Expr):Mo {p:PL // fq P B C it mk p}:=
 jL (α:=fun it=>{p:PL // fq P B C it mk p}) it (Bg E B C hb it) fun g es pos=>bN (α:=fun g=>{p:PL // fq P B C (.Call g es [] pos) mk p}) g (Bg E B C hb (.Call g es [] pos)) fun y p=>
  jk (y==ofString "range") (fun hy=>mG (Gi B y) fun hx=>mN fun d=>mU (Au E B C es) fun r hr=>bif Nat.beq d 0 then mR ⟨dW r,sb (α:=fun y=>fq P B C (.Call (.Name y p) es [] pos) mk (dW r)) hy (.range hb (yu hy hx) hr)⟩ else mR ⟨EN r,sb (α:=fun y=>fq P B C (.Call (.Name y p) es [] pos) mk (EN r)) hy (.down hb (yu hy hx) hr)⟩)
  (Bg E B C hb (.Call (.Name y p) es [] pos))
end
noncomputable def mC {α:Expr->Type}(elt target iter:Expr)(ifs:List Expr)(scope:Scope)(f:∀x tp i xc Bc Ci pi pc pe,d5 B Bc scope i xc->C.U.any (Nat.beq i)=true->ci C i false Ci=true->fq P B C iter (yh P Bc C Ci (.Name x tp) (bx i) (kR xc)) pi->dI P Bc Ci ifs pc->aq P Bc Ci elt pe (RV P)->(∀env x,foldedSetIterable iter env x=pure x)->Mo (α (.Name x tp))):Mo (α target):=
 mK (P:=P) B C target scope fun x tp i xc Bc Ci K hi hc hb=>mG (gS iter) fun hp=>mU (F6 E B C hb iter) fun pi hI=>mU (De Tr Bc Ci ifs) fun pc hcond=>mV E Bc Ci elt fun pe hel=>f x tp i xc Bc Ci pi pc pe K hi hc hI hcond hel (pl hp).fold
noncomputable def xn (elt target:Expr)(ifs:List Expr)(scope:Scope)(pos:Pos)(iter:Expr):Mo (RE P B C (.ListComp elt [⟨target,iter,ifs,0⟩] scope pos)):=mC E Tr B C (α:=fun target=>RE P B C (.ListComp elt [⟨target,iter,ifs,0⟩] scope pos)) elt target iter ifs scope fun x tp i xc Bc Ci pi pc pe K hi hc hI hcond hel hs=>rn B C (bE pi (bx i) pc pe) (.comp K hi hc hI hcond hel hs)
theorem E2 {e1 e2:Expr}{d1 d2:PE}{x1 x2 z1 z2 y:Str}{q1 q2 r1 r2 ep pt p cp pos:Pos}{op:BoolOp}{kt:Nat}{scope:Scope}(h1:(z1==x1)=true)(h2:(z2==x2)=true)(hd:(!(x1==("__debug__":Str))&&!(x2==("__debug__":Str)))=true)(hb:E3 scope x1 x2=true)(hz:Gi B y=true)(hy:(y==ofString "zip")=true)(hp1:gS e1=true)(hp2:gS e2=true)(k1:aq P B C e1 d1 (RX P))(k2:aq P B C e2 d2 (RX P)):
  aq P B C (.ListComp (.BoolOp op [.Name z1 r1,.Name z2 r2] ep) [⟨.Tuple [.Name x1 q1,.Name x2 q2] kt pt,.Call (.Name y p) [e1,e2] [] cp,[],0⟩] scope pos) (p2 (yz (BoolOp.rec (·&&·) (·||·) op)) d1 d2) (RV P):=by
 have hd:=af hd
 rw [eq_of_beq h1,eq_of_beq h2,eq_of_beq hy]
 cases op
 .exact .zipC (.and (qI hd.1) (qI hd.2)) hb (yu hy hz) ((pl hp1).star _) ((pl hp2).star _) k1 k2
 .exact .zipC (.or (qI hd.1) (qI hd.2)) hb (yu hy hz) ((pl hp1).star _) ((pl hp2).star _) k1 k2
noncomputable def FD (elt t1 t2:Expr)(kt:Nat)(pt:Pos)(iter:Expr)(scope:Scope)(pos:Pos):Mo (RE P B C (.ListComp elt [⟨.Tuple [t1,t2] kt pt,iter,[],0⟩] scope pos)):=
 bN (α:=fun t1=>RE P B C (.ListComp elt [⟨.Tuple [t1,t2] kt pt,iter,[],0⟩] scope pos)) t1 mF fun x1 q1=>bN (α:=fun t2=>RE P B C (.ListComp elt [⟨.Tuple [.Name x1 q1,t2] kt pt,iter,[],0⟩] scope pos)) t2 mF fun x2 q2=>
 jL (α:=fun iter=>RE P B C (.ListComp elt [⟨.Tuple [.Name x1 q1,.Name x2 q2] kt pt,iter,[],0⟩] scope pos)) iter mF fun g es cp=>bN (α:=fun g=>RE P B C (.ListComp elt [⟨.Tuple [.Name x1 q1,.Name x2 q2] kt pt,.Call g es [] cp,[],0⟩] scope pos)) g mF fun y p=>yC (α:=fun es=>RE P B C (.ListComp elt [⟨.Tuple [.Name x1 q1,.Name x2 q2] kt pt,.Call (.Name y p) es [] cp,[],0⟩] scope pos)) es fun e1 e2=>
 mG (!(x1==("__debug__":Str))&&!(x2==("__debug__":Str))) fun hd=>mG (E3 scope x1 x2) fun hb=>mG (Gi B y) fun hz=>mG (y==ofString "zip") fun hy=>mG (gS e1) fun hp1=>mG (gS e2) fun hp2=>mX E B C e1 fun a ha=>mX E B C e2 fun b hb'=>
  (fun α:Expr->Type=>fun k:(∀op z1 r1 z2 r2 ep,(z1==x1)=true->(z2==x2)=true->Mo (α (.BoolOp op [.Name z1 r1,.Name z2 r2] ep)))=>(vC (α:=α) elt mF fun h=>Expr.BoolOp.elim (motive_1:=fun e=>Mo (α e)) elt h fun op es ep=>yC (α:=fun es=>α (.BoolOp op es ep)) es fun a b=>bN (α:=fun a=>α (.BoolOp op [a,b] ep)) a mF fun z1 r1=>bN (α:=fun b=>α (.BoolOp op [.Name z1 r1,b] ep)) b mF fun z2 r2=>mG (z1==x1) fun h1=>mG (z2==x2) fun h2=>k op z1 r1 z2 r2 ep h1 h2:Mo (α elt)))
   (fun elt=>RE P B C (.ListComp elt [⟨.Tuple [.Name x1 q1,.Name x2 q2] kt pt,.Call (.Name y p) [e1,e2] [] cp,[],0⟩] scope pos)) fun op z1 r1 z2 r2 ep h1 h2=>rv B C _ (E2 B C h1 h2 hd hb hz hy hp1 hp2 ha hb')
noncomputable def DY (elt target iter:Expr)(ifs:List Expr)(scope:Scope)(pos:Pos):Mo (RE P B C (.ListComp elt [⟨target,iter,ifs,0⟩] scope pos)):=d6 (α:=fun ifs=>RE P B C (.ListComp elt [⟨target,iter,ifs,0⟩] scope pos)) ifs
 (A8 (α:=fun target=>RE P B C (.ListComp elt [⟨target,iter,[],0⟩] scope pos)) target
   (uk D B C (α:=fun iter=>RE P B C (.ListComp elt [⟨target,iter,[],0⟩] scope pos)) iter (xn E Tr B C elt target [] scope pos) fun y np x ap c j ms k O hn ht=>
    mK (P:=P) B C (α:=fun target=>RE P B C (.ListComp elt [⟨target,.Attribute (.Name y np) x ap,[],0⟩] scope pos)) target scope fun x tp i xc Bc Ci K hi hc hb=>mV E Bc Ci elt fun pe hel=>rn B C (ox c j (bx i) pe) (.compF O hn ht K hi hc hb hel fun _ _=>rfl))
   fun es k p=>yC (α:=fun es=>RE P B C (.ListComp elt [⟨.Tuple es k p,iter,[],0⟩] scope pos)) es fun t1 t2=>FD E B C elt t1 t2 k p iter scope pos)
 fun c cs=>xn E Tr B C elt target (c::cs) scope pos iter
noncomputable def FH (e:Expr):Mo (RE P B C e):=
 bN e (vC e (kP e (jL e (vC e (vC e (vC e (vC e (vC e (vC e (vC e (vC e (Ar e (vC e mF
  fun h=>Expr.Dict.elim (motive_1:=fun e=>Mo (RE P B C e)) e h fun ks vs pos=>ip (α:=fun ks=>RE P B C (.Dict ks vs pos)) ks (ip (α:=fun vs=>RE P B C (.Dict [] vs pos)) vs (rn B C yW .dic)))
  fun elt t i fs s pos=>DY D E Tr B C elt t i fs s pos)
  fun h=>Expr.Subscript.elim (motive_1:=fun e=>Mo (RE P B C e)) e h fun a i pos=>DV D E B C a i pos)
  fun h=>Expr.List.elim (motive_1:=fun e=>Mo (RE P B C e)) e h fun es pos=>mU (Au E B C es) fun r hr=>rn B C (cq r) (.list hr))
  fun h=>Expr.Tuple.elim (motive_1:=fun e=>Mo (RE P B C e)) e h fun es k pos=>mU (Au E B C es) fun r hr=>rv B C (aY r) (.tup hr))
  fun h=>Expr.IfExp.elim (motive_1:=fun e=>Mo (RE P B C e)) e h fun t a b pos=>mU (Tr B C t) fun t ht=>mV E B C a fun a ha=>mV E B C b fun b hb=>rv B C (EG t a b) (.ifExp jt ht ha hb))
  fun h=>Expr.BoolOp.elim (motive_1:=fun e=>Mo (RE P B C e)) e h fun op es pos=>mU (Gv E B C op es) fun r hr=>rv B C r (.boolOp hr))
  fun h=>Expr.Compare.elim (motive_1:=fun e=>Mo (RE P B C e)) e h fun l ops rs pos=>FF E B C l ops rs pos)
  fun h=>Expr.UnaryOp.elim (motive_1:=fun e=>Mo (RE P B C e)) e h fun op e pos=>GL E B C op e pos)
  fun h=>Expr.BinOp.elim (motive_1:=fun e=>Mo (RE P B C e)) e h fun l op r pos=>FG E B C l op r pos)
  fun g es pos=>DZ D E B C g es pos)
  fun o x pos=>D0 D E B C o x pos)
  fun h=>Expr.Constant.elim (motive_1:=fun e=>Mo (RE P B C e)) e h fun c k pos=>Cl B C c k pos)
  fun y pos=>DW D B C y pos
noncomputable def Gw (op:BoolOp)(es:List Expr):Mo {p:PT // hY P B C op es p}:=List.rec (motive:=fun es=>Mo {p:PT // hY P B C op es p})
 (BoolOp.casesOn (motive:=fun op=>Mo {p:PT // hY P B C op [] p}) op (mR ⟨b9,.andNil⟩) (mR ⟨cj,.orNil⟩))
 (fun e es ih=>mU (Tr B C e) fun a ha=>mU ih fun r hr=>BoolOp.casesOn (motive:=fun op=>hY P B C op es r->Mo {p:PT // hY P B C op (e::es) p}) op (fun hr=>mR ⟨yS a r,.and ha hr⟩) (fun hr=>mR ⟨gq a r,.or ha hr⟩) hr) es
noncomputable def E9 (l:Expr)(ops:List CmpOp)(rs:List Expr)(pos:Pos):Mo {p:PT // cn P B C (.Compare l ops rs pos) p}:=
 d6 (α:=fun ops=>{p:PT // cn P B C (.Compare l ops rs pos) p}) ops mF fun op os=>d6 (α:=fun rs=>{p:PT // cn P B C (.Compare l (op::os) rs pos) p}) rs mF fun r rs=>mU (tY P op) fun F hF=>mX E B C l fun a ha=>
  d6 (α:=fun os=>{p:PT // cn P B C (.Compare l (op::os) (r::rs) pos) p}) os
   (ip (α:=fun rs=>{p:PT // cn P B C (.Compare l [op] (r::rs) pos) p}) rs (uk D B C (α:=fun r=>{p:PT // cn P B C (.Compare l [op] [r] pos) p}) r (fun r=>mG (gS r) fun h=>mX E B C r fun b hb=>mR ⟨p2 F a b,.cmp hF ((pl h).beh op) ha hb⟩)
    fun y np x ap c i ms k O hn ht=>mR ⟨p2 F a (ou c i),.cmpY hF rfl ha (.fld O hn ht)⟩))
   fun o2 os=>ip (α:=fun os=>{p:PT // cn P B C (.Compare l (op::o2::os) (r::rs) pos) p}) os (pR (α:=fun rs=>{p:PT // cn P B C (.Compare l [op,o2] (r::rs) pos) p}) rs fun q=>mG (gS q) fun h=>mX E B C r fun b hb=>mU (tY P o2) fun G hG=>mX E B C q fun c hc=>mR ⟨lk F G a b c,.cmp2 hF hG (Gc h) ha hb hc⟩)
noncomputable def Fa (e:Expr):Mo {p:PT // cn P B C e p}:=
 vC (α:=fun e=>{p:PT // cn P B C e p}) e (vC (α:=fun e=>{p:PT // cn P B C e p}) e (vC (α:=fun e=>{p:PT // cn P B C e p}) e (mG (gS e) fun hp=>mG (F4 e) fun h=>mX E B C e fun a ha=>mR ⟨qE a,.val ha ((pl hp).tv h)⟩)
  fun h=>Expr.Compare.elim (motive_1:=fun e=>Mo {p:PT // cn P B C e p}) e h fun l ops rs pos=>E9 D E B C l ops rs pos)
  fun h=>Expr.BoolOp.elim (motive_1:=fun e=>Mo {p:PT // cn P B C e p}) e h fun op es pos=>mU (Gw Tr B C op es) fun r hr=>mR ⟨r,.boolOp hr⟩)
  fun h=>Expr.UnaryOp.elim (motive_1:=fun e=>Mo {p:PT // cn P B C e p}) e h fun op e pos=>mG (op==.Not) fun ho=>mU (Tr B C e) fun a ha=>mR ⟨cW a,sb (α:=fun op=>cn P B C (.UnaryOp op e pos) (cW a)) ho (.not ha)⟩
end
noncomputable def F7 {P:Pg}{L:LT}(D:f7 P L)(n:Nat):FE P×FT P:=Nat.rec ⟨fun _ _ _=>mF,fun _ _ _=>mF⟩ (fun _ r=>⟨fun B C=>FH D r.1 r.2 B C,fun B C=>Fa D r.1 r.2 B C⟩) n
end
end Mine
end
section
set_option tactic.hygienic false
namespace Mine
noncomputable section
open PySem PyProof.Rows
noncomputable def KS (P:Pg)(B:br)(C:Ct)(fr:Bool)(W:WP Flow)(p:PS)(o:Option Ct):Prop:=Option.rec (∀C',dH P B C fr C' W p) (fun C'=>dH P B C fr C' W p) o
noncomputable abbrev RS (P:Pg)(B:br)(C:Ct)(fr:Bool)(W:WP Flow):=(o:Option Ct)×{p:PS // KS P B C fr W p o}
noncomputable abbrev cJ (P:Pg)(B:br)(C:Ct)(fr:Bool)(st:Stmt):=RS P B C fr (P.W fun env=>exec st env)
noncomputable abbrev RZ (P:Pg)(B:br)(C:Ct)(fr:Bool)(ss:List Stmt):=RS P B C fr (P.W fun env=>execs ss env)
noncomputable abbrev FS (P:Pg):=∀(B:br) (C:Ct) (fr:Bool) (ss:List Stmt),Mo (RZ P B C fr ss)
noncomputable def Gk (a b:Ct):Bool:=a.O==b.O&&(a.U==b.U&&a.m==b.m)
theorem Co {a b:Ct}(h:Gk a b=true):a=b:=
 have ⟨h1,h2⟩:=af h
 have ⟨h2,h3⟩:=af h2
 show (⟨a.O,a.U,a.m⟩:Ct)=⟨b.O,b.U,b.m⟩ by rw [eq_of_beq h1,eq_of_beq h2,eq_of_beq h3]
section
variable {P:Pg} {B:br} {C:Ct} {fr:Bool} {W:WP Flow} {u:Type}
noncomputable def ra (C':Ct)(p:PS)(h:dH P B C fr C' W p):Mo (RS P B C fr W):=mR ⟨some C',p,h⟩
noncomputable def rl (p:PS)(h:∀C',dH P B C fr C' W p):Mo (RS P B C fr W):=mR ⟨none,p,h⟩
noncomputable def mS (x:Mo (RS P B C fr W))(fa:∀C' p,dH P B C fr C' W p->Mo u)(fl:∀p,(∀C',dH P B C fr C' W p)->Mo u):Mo u:=mB x fun r=>Option.rec (motive:=fun o=>{p:PS // KS P B C fr W p o}->Mo u) (fun a=>Subtype.rec fl a) (fun C' a=>Subtype.rec (fa C') a) r.1 r.2
noncomputable def mT (C':Ct)(x:Mo (RS P B C fr W))(f:∀p,dH P B C fr C' W p->Mo u):Mo u:=mS x (fun C1 p h=>mG (Gk C1 C') fun e=>f p (Co e▸h)) fun p h=>f p (h C')
end
theorem DP {k:NameKind}(h:(k==.local||k==.cell)=true):k=.local\/k=.cell:=(Bool.or_eq_true_iff.mp h).imp eq_of_beq eq_of_beq
theorem aM.unp {P:Pg}{B:br}{C:Ct}{fr:Bool}{e:Expr}{p:PE}{zs:List g8}{kt:Nat}{pt pos:Pos}(hz:AI B C zs=true)(hs:∀env,swapsWithSole [.Tuple (zs.map g8.e) kt pt] e pos.line env=pure false)(hw:∀env,swappedStores [.Tuple (zs.map g8.e) kt pt] e env=pure none)(h:aq P B C e p (RV P)):aM P B C fr C (.Assign [.Tuple (zs.map g8.e) kt pt] e pos) (vy (zs.map (·.i)) p):=fun n A env g ρ σ s k Q E X hb hq hr=>by
 refine Assign_Tuple (h n A env g ρ σ s _ _ E X hb fun x s₁ g1 t σ₁ e1 pa w1 r1=>?_) (hs env) (hw env)
 have hb1:=fun q=>hb (e1.trans q)
 obtain ⟨ρ',e2⟩:=bV hb1
 obtain ⟨ts,e3,e4⟩:=az e2
 cases jI e3
 obtain ⟨a,rfl,f,us,m,b1,_,rb⟩:=r1
 exact iC hz e4 (X.post pa w1) b1 rb fun s' p' X'=>hq s' g1 ρ' σ₁ (e1.trans (by rw [e2];rfl)) (pa.toS.trans p'.toS) X'
noncomputable def GE (B:br)(es:List Expr):Mo {zs:List g8 // es=zs.map g8.e}:=List.rec (motive:=fun es=>Mo {zs:List g8 // es=zs.map g8.e}) (mR ⟨[],rfl⟩)
 (fun e es ih=>bN (α:=fun e=>{zs:List g8 // e::es=zs.map g8.e}) e mF fun y p=>mU ih fun r hr=>mR ⟨⟨slot B.tab y,y,knd B.tab (slot B.tab y),p⟩::r,congrArg (Expr.Name y p::·) hr⟩) es
section
variable {P:Pg} {L:LT} (D:f7 P L) (E:FE P) (Tr:FT P) (S:FS P) (B:br) (C:Ct) (fr:Bool)
noncomputable def Do (y:Str)(px:Pos)(e:Expr)(pos:Pos):Mo (cJ P B C fr (.Assign [.Name y px] e pos)):=wH B y mF fun i k ht=>mN fun m=>mG (k==.local||k==.cell) fun hk=>
 bif Nat.ble m 1 then mG (!vk e y px pos.line B.sc) fun hw=>bif Nat.beq m 0 then mG (ci C i false (xq C i)) fun hc=>mV E B C e fun a ha=>ra (xq C i) (aI i a) (aM.set hc ht (DP hk) (qI hw) ha)
   else mG (ci C i true (CF C i)) fun hc=>mW E B C e fun a ha=>ra (CF C i) (aI i a) (aM.setN hc ht (DP hk) (qI hw) ha)
 else bif Nat.beq m 2 then Ar (α:=fun e=>cJ P B C fr (.Assign [.Name y px] e pos)) e mF fun elt t it fs s p=>mN fun o=>(fun C'=>mG (ci C i (Nat.beq o 1) C') fun hc=>mG (k==.local) fun hl=>
   mC E Tr B C (α:=fun t=>cJ P B C fr (.Assign [.Name y px] (.ListComp elt [⟨t,it,fs,0⟩] s p) pos)) elt t it fs s fun x tp j xc Bc Ci pi pc pe K hi hj hI hcond hel hs=>mG (vk (.ListComp elt [⟨.Name x tp,it,fs,0⟩] s p) y px pos.line B.sc) fun hw=>
    ra C' (aI i (bE pi (bx j) pc pe)) (aM.setCompG (Nat.beq o 1) hc (eq_of_beq hl▸ht) hw K hi hj hI hcond hel hs)) (bif Nat.beq o 1 then CF C i else xq C i)
 else jL (α:=fun e=>cJ P B C fr (.Assign [.Name y px] e pos)) e mF fun g es cpos=>kP (α:=fun g=>cJ P B C fr (.Assign [.Name y px] (.Call g es [] cpos) pos)) g mF fun o name apos=>bN (α:=fun o=>cJ P B C fr (.Assign [.Name y px] (.Call (.Attribute o name apos) es [] cpos) pos)) o mF fun z np=>pR (α:=fun es=>cJ P B C fr (.Assign [.Name y px] (.Call (.Attribute (.Name z np) name apos) es [] cpos) pos)) es fun x=>yD (α:=fun x=>cJ P B C fr (.Assign [.Name y px] (.Call (.Attribute (.Name z np) name apos) [x] [] cpos) pos)) x fun n kk cp=>
  wH B z mF fun j k' hz=>mG (bi C j) fun hv=>mG (ci C i false C) fun hc=>mG (apos.endLine==cpos.line) fun hl=>mG (n==0) fun hn=>mG (name==ofString "pop") fun hy=>mG (!vk (.Call (.Attribute (.Name z np) (ofString "pop") apos) [.Constant (.int 0) kk cp] [] cpos) y px pos.line B.sc) fun hw=>
   ra C (qi j i) (sb (α:=fun name=>aM P B C fr C (.Assign [.Name y px] (.Call (.Attribute (.Name z np) name apos) [.Constant (.int n) kk cp] [] cpos) pos) (qi j i)) hy (sb (α:=fun n=>aM P B C fr C (.Assign [.Name y px] (.Call (.Attribute (.Name z np) (ofString "pop") apos) [.Constant (.int n) kk cp] [] cpos) pos) (qi j i)) hn (aM.pop0 hv hz hc ht (DP hk) (qI hw) (fun _=>rfl) hl fun _=>rfl)))
noncomputable def Dp (o:Expr)(name:Str)(apos:Pos)(e:Expr)(pos:Pos):Mo (cJ P B C fr (.Assign [.Attribute o name apos] e pos)):=
 bN (α:=fun o=>cJ P B C fr (.Assign [.Attribute o name apos] e pos)) o mF fun y np=>mA D name fun c i ms O hn=>EI B C y mF fun k ht=>mG (gS e) fun hp=>
  jk (gD c i) (fun ho=>mW E B C e fun a ha=>ra C (rT c i a) (aM.saN O hn ho ht ((pl hp).swa _ _ _ _) ha)) (mG (!gD c i) fun ho=>mV E B C e fun a ha=>ra C (rT c i a) (aM.sa O hn (qI ho) ht ((pl hp).swa _ _ _ _) ha))
noncomputable def Ff (es:List Expr)(kt:Nat)(pt:Pos)(e:Expr)(pos:Pos):Mo (cJ P B C fr (.Assign [.Tuple es kt pt] e pos)):=mU (GE B es) fun zs he=>mG (AI B C zs) fun hz=>
 m2 (jL (α:=fun e=>cJ P B C fr (.Assign [.Tuple es kt pt] e pos)) e mF fun g as cpos=>kP (α:=fun g=>cJ P B C fr (.Assign [.Tuple es kt pt] (.Call g as [] cpos) pos)) g mF fun o name apos=>bN (α:=fun o=>cJ P B C fr (.Assign [.Tuple es kt pt] (.Call (.Attribute o name apos) as [] cpos) pos)) o mF fun y np=>ip (α:=fun as=>cJ P B C fr (.Assign [.Tuple es kt pt] (.Call (.Attribute (.Name y np) name apos) as [] cpos) pos)) as
  (wH B y mF fun j k ht=>mG (bi C j) fun hv=>mG (apos.endLine==cpos.line) fun hl=>mG (name==ofString "pop") fun hy=>ra C (yV j (zs.map (·.i))) (sb (α:=fun name=>aM P B C fr C (.Assign [.Tuple es kt pt] (.Call (.Attribute (.Name y np) name apos) [] [] cpos) pos) (yV j (zs.map (·.i)))) hy (he▸aM.pop hz hv ht (fun _=>rfl) (fun _=>rfl) (fun _=>rfl) hl))))
 ((fun k:∀e,(∀l env,swapsWithSole [.Tuple (zs.map g8.e) kt pt] e l env=pure false)->(∀env,swappedStores [.Tuple (zs.map g8.e) kt pt] e env=pure none)->Mo (cJ P B C fr (.Assign [.Tuple es kt pt] e pos))=>
   bN (α:=fun e=>cJ P B C fr (.Assign [.Tuple es kt pt] e pos)) e (jL (α:=fun e=>cJ P B C fr (.Assign [.Tuple es kt pt] e pos)) e (vC (α:=fun e=>cJ P B C fr (.Assign [.Tuple es kt pt] e pos)) e mF
    fun h=>Expr.Subscript.elim (motive_1:=fun e=>Mo (cJ P B C fr (.Assign [.Tuple es kt pt] e pos))) e h fun a i p=>k (.Subscript a i p) (fun _ _=>rfl) fun _=>rfl)
    fun g es p=>k (.Call g es [] p) (fun _ _=>rfl) fun _=>rfl)
    fun y p=>k (.Name y p) (fun _ _=>rfl) fun _=>rfl)
  fun e hs hw=>mV E B C e fun a ha=>ra C (vy (zs.map (·.i)) a) (he▸aM.unp hz (hs _) hw ha))
noncomputable def Fg (a i:Expr)(ps:Pos)(e:Expr)(pos:Pos):Mo (cJ P B C fr (.Assign [.Subscript a i ps] e pos)):=mG (gS e) fun hp=>mV E B C e fun v hv=>
 bN (α:=fun a=>cJ P B C fr (.Assign [.Subscript a i ps] e pos)) a
  (uk D B C (α:=fun a=>cJ P B C fr (.Assign [.Subscript a i ps] e pos)) a (fun _=>mF) fun y np x ap c j ms k O hn ht=>mV E B C i fun q hq=>ra C (qk c j q v) (aM.fput O hn ht ((pl hp).sws _ _ _ _) hq hv))
 fun y np=>wH B y mF fun j k ht=>jk (bi C j)
  (fun ho=>mN fun d=>mX E B C i fun q hq=>bif Nat.beq d 0 then ra C (C6 j Ds q v) (aM.put wc ho ht ((pl hp).sws _ _ _ _) hq hv) else ra C (C6 j i0 q v) (aM.put te ho ht ((pl hp).sws _ _ _ _) hq hv))
  (yD (α:=fun i=>cJ P B C fr (.Assign [.Subscript (.Name y np) i ps] e pos)) i fun n kk cp=>mG (iO C j) fun ho=>mG (n==0) fun hn=>ra C (i5 j v) (sb (α:=fun n=>aM P B C fr C (.Assign [.Subscript (.Name y np) (.Constant (.int n) kk cp) ps] e pos) (i5 j v)) hn (aM.spot ho ht ((pl hp).sws _ _ _ _) hv)))
noncomputable def Fh (e:Expr)(pos:Pos):Mo (cJ P B C fr (.Return (some e) pos)):=Bool.rec (motive:=fun fr=>Mo (cJ P B C fr (.Return (some e) pos)))
 (mV E B C e fun a ha=>rl (aD a) fun _=>aM.ret ha)
 (bN (α:=fun e=>cJ P B C true (.Return (some e) pos)) e (mW E B C e fun a ha=>rl (aD a) fun _=>aM.retN ha) fun y p=>wH B y mF fun i k ht=>mG (bi C i) fun hv=>rl (aD (pV i)) fun _=>aM.retO hv ht) fr
noncomputable def Fj (e:Expr)(pos:Pos):Mo (cJ P B C fr (.Expr e pos)):=jL (α:=fun e=>cJ P B C fr (.Expr e pos)) e mF fun g es cpos=>m2 (mX E B C (.Call g es [] cpos) fun a ha=>ra C (kO a) (aM.expr (fun _=>rfl) ha))
 (kP (α:=fun g=>cJ P B C fr (.Expr (.Call g es [] cpos) pos)) g mF fun o name apos=>pR (α:=fun es=>cJ P B C fr (.Expr (.Call (.Attribute o name apos) es [] cpos) pos)) es fun x=>mG (apos.endLine==cpos.line) fun hl=>mG (gS x) fun hp=>
   bN (α:=fun o=>cJ P B C fr (.Expr (.Call (.Attribute o name apos) [x] [] cpos) pos)) o
    (uk D B C (α:=fun o=>cJ P B C fr (.Expr (.Call (.Attribute o name apos) [x] [] cpos) pos)) o (fun _=>mF) fun y np at' ap' c i ms k O hn ht=>mG (name==ofString "append") fun hy=>mV E B C x fun a ha=>ra C (ql c i a) (sb (α:=fun name=>aM P B C fr C (.Expr (.Call (.Attribute (.Attribute (.Name y np) at' ap') name apos) [x] [] cpos) pos) (ql c i a)) hy (aM.fap O hn ht (fun _=>rfl) hl (bt hp _) (fun _=>rfl) ha)))
   fun y np=>wH B y mF fun i k ht=>mG (bi C i) fun hv=>
    jk (name==ofString "append") (fun hy=>mV E B C x fun a ha=>ra C (iL i eV a) (sb (α:=fun name=>aM P B C fr C (.Expr (.Call (.Attribute (.Name y np) name apos) [x] [] cpos) pos) (iL i eV a)) hy (aM.app hv ht hl (fun _=>rfl) (bt hp _) (fun _=>rfl) ha)))
    (mG (name==ofString "extend") fun hy=>mX E B C x fun a ha=>ra C (iL i hU a) (sb (α:=fun name=>aM P B C fr C (.Expr (.Call (.Attribute (.Name y np) name apos) [x] [] cpos) pos) (iL i hU a)) hy (aM.ext hv ht hl (fun _=>rfl) (bt hp _) (fun _=>rfl) ha))))
noncomputable def Fi (target iter:Expr)(body:List Stmt)(pos:Pos):Mo (cJ P B C fr (.For target iter body [] pos)):=
 bN (α:=fun target=>cJ P B C fr (.For target iter body [] pos)) target
  (A8 (α:=fun target=>cJ P B C fr (.For target iter body [] pos)) target mF fun es kt pt=>yC (α:=fun es=>cJ P B C fr (.For (.Tuple es kt pt) iter body [] pos)) es fun t1 t2=>bN (α:=fun t1=>cJ P B C fr (.For (.Tuple [t1,t2] kt pt) iter body [] pos)) t1 mF fun x1 p1=>bN (α:=fun t2=>cJ P B C fr (.For (.Tuple [.Name x1 p1,t2] kt pt) iter body [] pos)) t2 mF fun x2 p2=>
   jL (α:=fun iter=>cJ P B C fr (.For (.Tuple [.Name x1 p1,.Name x2 p2] kt pt) iter body [] pos)) iter mF fun g as cp=>bN (α:=fun g=>cJ P B C fr (.For (.Tuple [.Name x1 p1,.Name x2 p2] kt pt) (.Call g as [] cp) body [] pos)) g mF fun y p=>pR (α:=fun as=>cJ P B C fr (.For (.Tuple [.Name x1 p1,.Name x2 p2] kt pt) (.Call (.Name y p) as [] cp) body [] pos)) as fun x=>
    wH B x1 mF fun i1 k1 _=>wH B x2 mF fun i2 k2 _=>mG (AI B C [⟨i1,x1,k1,p1⟩,⟨i2,x2,k2,p2⟩]) fun hz=>mG (Gi B y) fun hx=>mG (y==ofString "enumerate") fun hy=>mG (gS x) fun hp=>mV E B C x fun a ha=>mT C (S B C fr body) fun b hb=>
     ra C (cU (qB a) (yB i1 i2) b) (sb (α:=fun y=>aM P B C fr C (.For (.Tuple [.Name x1 p1,.Name x2 p2] kt pt) (.Call (.Name y p) [x] [] cp) body [] pos) (cU (qB a) (yB i1 i2) b)) hy (aM.for (fun _ _=>rfl) (fq.enum (z1:=⟨i1,x1,k1,p1⟩) (z2:=⟨i2,x2,k2,p2⟩) hz (yu hy hx) ((pl hp).star []) ha) hb)))
 fun y p=>wH B y mF fun i k ht=>mG (ci C i false C) fun hc=>mG (k==.local||k==.cell) fun hk=>mG (gS iter) fun hp=>mU (F6 E B C (iI.one hc ht (DP hk)) iter) fun it hi=>mT C (S B C fr body) fun b hb=>
  ra C (cU it (bx i) b) (aM.for (pl hp).fold hi hb)
noncomputable def GB (t:Expr)(a b:List Stmt)(pos:Pos):Mo (cJ P B C fr (.If t a b pos)):=mU (Tr B C t) fun t ht=>mS (S B C fr a)
 (fun C1 p h=>mT C1 (S B C fr b) fun q k=>ra C1 (bG t p q) (aM.if ht h k))
 fun p h=>mS (S B C fr b) (fun C1 q k=>ra C1 (bG t p q) (aM.if ht (h C1) k)) fun q k=>rl (bG t p q) fun C'=>aM.if ht (h C') (k C')
noncomputable def vS {α:Stmt->Type}{k:Nat}(st:Stmt)(d:Mo (α st))(f:st.ctorIdx=k->Mo (α st)):Mo (α st):=jk (Nat.beq st.ctorIdx k) (fun h=>f (eq_of_beq_eq_true h)) d
noncomputable def Fk (st:Stmt):Mo (cJ P B C fr st):=
 vS (α:=fun st=>cJ P B C fr st) st (vS (α:=fun st=>cJ P B C fr st) st (vS (α:=fun st=>cJ P B C fr st) st (vS (α:=fun st=>cJ P B C fr st) st (vS (α:=fun st=>cJ P B C fr st) st (vS (α:=fun st=>cJ P B C fr st) st (vS (α:=fun st=>cJ P B C fr st) st mF
  fun h=>Stmt.Raise.elim (motive_2:=fun st=>Mo (cJ P B C fr st)) st h fun e c pos=>rl g9 fun _=>aM.bad)
  fun h=>Stmt.Expr.elim (motive_2:=fun st=>Mo (cJ P B C fr st)) st h fun e pos=>Fj D E B C fr e pos)
  fun h=>Stmt.While.elim (motive_2:=fun st=>Mo (cJ P B C fr st)) st h fun t b o pos=>ip (α:=fun o=>cJ P B C fr (.While t b o pos)) o (mN fun m=>mU (Tr B C t) fun t ht=>mT C (S B C fr b) fun b hb=>ra C (ju m t b) (aM.while m ht hb)))
  fun h=>Stmt.For.elim (motive_2:=fun st=>Mo (cJ P B C fr st)) st h fun t i b o pos=>ip (α:=fun o=>cJ P B C fr (.For t i b o pos)) o (Fi E S B C fr t i b pos))
  fun h=>Stmt.If.elim (motive_2:=fun st=>Mo (cJ P B C fr st)) st h fun t a b pos=>GB Tr S B C fr t a b pos)
  fun h=>Stmt.Return.elim (motive_2:=fun st=>Mo (cJ P B C fr st)) st h fun e pos=>Option.rec (motive:=fun e=>Mo (cJ P B C fr (.Return e pos))) mF (fun e=>Fh E B C fr e pos) e)
  fun h=>Stmt.Assign.elim (motive_2:=fun st=>Mo (cJ P B C fr st)) st h fun ts e pos=>pR (α:=fun ts=>cJ P B C fr (.Assign ts e pos)) ts fun t=>
   bN (α:=fun t=>cJ P B C fr (.Assign [t] e pos)) t (kP (α:=fun t=>cJ P B C fr (.Assign [t] e pos)) t (A8 (α:=fun t=>cJ P B C fr (.Assign [t] e pos)) t (vC (α:=fun t=>cJ P B C fr (.Assign [t] e pos)) t mF
    fun h=>Expr.Subscript.elim (motive_1:=fun t=>Mo (cJ P B C fr (.Assign [t] e pos))) t h fun a i ps=>Fg D E B C fr a i ps e pos) fun es k p=>Ff E B C fr es k p e pos) fun o x p=>Dp D E B C fr o x p e pos) fun y px=>Do E Tr B C fr y px e pos
noncomputable def E5 (ss:List Stmt):Mo (RZ P B C fr ss):=mN fun m=>Nat.rec
 (d6 (α:=fun ss=>RZ P B C fr ss) ss (ra C am dH.nil) fun st ss=>mS (Fk D E Tr S B C fr st)
  (fun C1 p h=>mS (S B C1 fr ss) (fun C2 q k=>ra C2 (ai p q) (dH.cons h k)) fun q k=>rl (ai p q) fun C'=>dH.cons h (k C'))
  fun p h=>ip (α:=fun ss=>RZ P B C fr (st::ss)) ss (rl (ai p am) fun C'=>dH.cons (h C') dH.nil))
 (fun i _=>mG (bi C i) fun hv=>mG (ci C i false (xq C i)) fun hc=>mG (B.tab[i]?==some (some ((B.tab[i]?.getD none).getD (ofString "",.local)))) fun ht=>
  mS (S B (xq C i) fr ss) (fun C' p h=>ra C' p (dH.fz hv hc (eq_of_beq ht) h)) fun p h=>rl p fun C'=>dH.fz hv hc (eq_of_beq ht) (h C')) m
end
noncomputable def Dd {P:Pg}{L:LT}(D:f7 P L)(n:Nat):FS P:=Nat.rec (fun _ _ _ _=>mF) (fun _ r B C fr ss=>E5 D (F7 D 20).1 (F7 D 20).2 r B C fr ss) n
theorem As {P:Pg}{L:LT}{D:f7 P L}{B:br}{C:Ct}{fr:Bool}{ss:List Stmt}{p:PS}{n s:Nat}(h:(Dd D n B C fr ss s).map (·.1.2.1)=some p):∃C',gO P B C fr C' ss p:=
 let ⟨r,_,h⟩:=av h
 h▸Option.rec (motive:=fun o=>∀a:{p:PS // KS P B C fr (P.W fun env=>execs ss env) p o},∃C',gO P B C fr C' ss a.1) (fun a=>⟨C,a.2 C⟩) (fun C' a=>⟨C',a.2⟩) r.1.1 r.1.2
theorem zH {P:Pg}{f:Nat}{F:gj}{mN:Str->Option Value}{gl:Bool}{nm:Str}{sc:Scope}{bd:List Stmt}{ps:List Str}{tab:List (Option (Str×NameKind))}{U:List Nat}(x:mz P.h₀ P.mg mN gl nm sc bd ps (P.fnA f) (P.fd f))(h:EP sc tab ps U F.np=true)(sim:∃C',gO P ⟨sc,tab⟩ ⟨[],U,rA f⟩ (j4 f) C' bd F.body):vg P f F:=let ⟨_,q⟩:=sim;zI x h q
end
end Mine
end
section
set_option tactic.hygienic false
namespace Mine
noncomputable section
open PySem PySem.W PyProof.Rows
noncomputable def sy {Z:Type}(s:Stmt)(d:Z)(f:Arguments->List Stmt->Scope->Z):Z:=jk (Nat.beq s.ctorIdx 0) (fun h=>Stmt.FunctionDef.elim (motive_2:=fun _=>Z) s (eq_of_beq_eq_true h) fun _ a b _ _ _ sc _ _ _=>f a b sc) d
noncomputable def b8 (q:Program)(k:Nat):Stmt:=(q.main.body[k]?).getD (.Pass default)
noncomputable def oG (q:Program)(k j:Nat):Stmt:=jk (Nat.beq (b8 q k).ctorIdx 2) (fun h=>Stmt.ClassDef.elim (motive_2:=fun _=>Stmt) (b8 q k) (eq_of_beq_eq_true h) fun _ _ _ b _ _ _ _ _ _ _=>(b[j]?).getD (.Pass default)) (.Pass default)
noncomputable abbrev FI:=Nat×Stmt×Str×Bool×Tb×List Nat×Nat
section
variable (I:List FI) (Ψ:Nat->Option gj) (L:LT) (f:Nat)
noncomputable def gI:Stmt×Str×Bool×Tb×List Nat×Nat:=((I.find? fun r=>Nat.beq r.1 f).map (·.2)).getD (.Pass default,ofString "",true,[],[],0)
noncomputable def jy:Str:=(gI I f).2.1
noncomputable def j0:Bool:=(gI I f).2.2.1
noncomputable def ib:Tb:=(gI I f).2.2.2.1
noncomputable def kQ:List Nat:=(gI I f).2.2.2.2.1
noncomputable def Fy:Nat:=(gI I f).2.2.2.2.2
noncomputable def sN:List Stmt:=sy (gI I f).1 [] fun _ b _=>b
noncomputable def rt:Scope:=sy (gI I f).1 default fun _ _ s=>s
noncomputable def Dv:Arguments:=sy (gI I f).1 default fun a _ _=>a
noncomputable def wu:Nat:=((Ψ f).map gj.np).getD 0
noncomputable def hH:List Str:=((ib I f).take (wu Ψ f)).filterMap (·.map (·.1))
noncomputable def uH:Bool:=L.2.1.any fun p=>Nat.beq p.2 f
end
noncomputable def Ep (b:Bool):Str:=bif b then ofString "Machine" else ofString "Web"
noncomputable def Az (q:Program)(I:List FI)(L:LT)(f:Nat):Option (Scope×List Stmt×Arguments):=bif j0 I f then tP q (jy I f) else (l0 q (looseW q []) (Ep (uH L f))).bind (wE · (jy I f))
noncomputable def A0 (I:List FI)(Ψ:Nat->Option gj)(qual:Str)(pm cd doc:Value)(vs:List Value)(f:Nat):Option (Sem (List (Str×Value))×Sem (List (Str×Value))):=bif Nat.beq vs.length (hH I Ψ f).length then some (bindArgs (Calls.docDef (jy I f) (Dv I f) (sN I f) (rt I f) pm cd doc) ⟨vs,[]⟩,bindArgs (methDef (jy I f) qual (Dv I f) (sN I f) (rt I f) pm cd doc) ⟨vs,[]⟩) else none
noncomputable def AZ (I:List FI)(Ψ:Nat->Option gj)(vs:List Value)(f:Nat):Option (Sem (List (Str×Value))×Sem (List (Str×Value))):=bif Nat.beq vs.length (hH I Ψ f).length then some (pure ((hH I Ψ f).zip vs),pure ((hH I Ψ f).zip vs)) else none
structure pM (q:Program) (Ψ:Nat->Option gj) (ks:List Nat) (I:List FI) (L:LT):Prop where
 r:ks.map (Az q I L)=ks.map fun f=>some (rt I f,sN I f,Dv I f)
 b1:∀u pm cd doc a,ks.map (A0 I Ψ u pm cd doc [a])=ks.map (AZ I Ψ [a])
 b2:∀u pm cd doc a b,ks.map (A0 I Ψ u pm cd doc [a,b])=ks.map (AZ I Ψ [a,b])
 b3:∀u pm cd doc a b c,ks.map (A0 I Ψ u pm cd doc [a,b,c])=ks.map (AZ I Ψ [a,b,c])
 b4:∀u pm cd doc a b c d,ks.map (A0 I Ψ u pm cd doc [a,b,c,d])=ks.map (AZ I Ψ [a,b,c,d])
 b5:∀u pm cd doc a b c d e,ks.map (A0 I Ψ u pm cd doc [a,b,c,d,e])=ks.map (AZ I Ψ [a,b,c,d,e])
 p:ks.all (fun f=>(Nat.ble 1 (hH I Ψ f).length&&Nat.ble (hH I Ψ f).length 5)&&EP (rt I f) (ib I f) (hH I Ψ f) (kQ I f) (wu Ψ f))=true
 m:∀b,(L.ms b).all (fun p=>(Ψ p.2).isSome&&(!j0 I p.2&&((jy I p.2==p.1)&&(uH L p.2==b))))=true
 f:L.1.all (fun p=>(Ψ p.2).isSome&&(j0 I p.2&&jy I p.2==p.1))=true
 a:∀b,(l0 q (looseW q []) (Ep b)).map (fun c=>(bU (rC b)).all (c.statics.contains ·))=some true
 o:∀b,(L.ms b).map (fun p=>(fastLookup "object" p.1).isSome)=(L.ms b).map fun _=>true
 n:iA.all (tO q (looseW q []))=true
theorem Cz:∀b,(bU (rC b)).map (fastLookup "object")=(bU (rC b)).map fun _=>some none
 |true=>by kernel_rfl
 |false=>by kernel_rfl
theorem all_cons {α:Type}{p:α->Prop}{a:α}{l:List α}(h:p a)(hl:∀r∈l,p r):∀r∈a::l,p r:=fun r hr=>(an hr).elim (fun e=>e▸h) (hl r)
theorem GA {α:Type}{p:Bool->α->Prop}(h:∀b,∃x,p b x):∃f:Bool->α,∀b,p b (f b):=⟨fun b=>(h b).choose,fun b=>(h b).choose_spec⟩
theorem xY {a b:Bool}(h:(a&&b)=true):a=true/\b=true:=af h
theorem y5 {α z:Type}{f g:α->z}{l:List α}(h:l.map f=l.map g){a:α}(ha:a∈l):f a=g a:=List.map_inj_left.mp h a ha
theorem l5 {α:Type}{p:List α->Prop}(h1:∀a,p [a])(h2:∀a b,p [a,b])(h3:∀a b c,p [a,b,c])(h4:∀a b c d,p [a,b,c,d])(h5:∀a b c d e,p [a,b,c,d,e])(l:List α):Nat.ble 1 l.length=true->Nat.ble l.length 5=true->p l:=
 List.rec (motive:=fun l=>Nat.ble 1 l.length=true->Nat.ble l.length 5=true->p l) (fun h=>nomatch h) (fun a l _ _=>List.rec (motive:=fun l=>Nat.ble (a::l).length 5=true->p (a::l)) (fun _=>h1 a) (fun b l _=>List.rec (motive:=fun l=>Nat.ble (a::b::l).length 5=true->p (a::b::l)) (fun _=>h2 a b)
  (fun c l _=>List.rec (motive:=fun l=>Nat.ble (a::b::c::l).length 5=true->p (a::b::c::l)) (fun _=>h3 a b c) (fun d l _=>List.rec (motive:=fun l=>Nat.ble (a::b::c::d::l).length 5=true->p (a::b::c::d::l)) (fun _=>h4 a b c d) (fun e l _=>List.rec (motive:=fun l=>Nat.ble (a::b::c::d::e::l).length 5=true->p (a::b::c::d::e::l)) (fun _=>h5 a b c d e) (fun _ _ _ h=>nomatch h) l) l) l) l) l) l
structure Ap (q:Program) (mg:Str->Option Value) (h:Heap) (b:Bool) (x:ClsRec×Addr×Addr×(Str->Option Value)):Prop where
 c:l0 q (looseW q []) (Ep b)=some x.1
 g:mg (Ep b)=some (.ref x.2.1)
 A:PlainAt h x.1.withCmp x.2.1 x.2.2.1 x.2.2.2
section
variable {q:Program} {Ψ:Nat->Option gj} {ks:List Nat} {I:List FI} {L:LT} (X:pM q Ψ ks I L)
include X
theorem pM.bind {f:Nat}(hf:f∈ks)(u:Str)(pm cd doc:Value)(vs:List Value)(hv:vs.length=(hH I Ψ f).length):A0 I Ψ u pm cd doc vs f=AZ I Ψ vs f:=by
 have h:=(xY (xY (aB X.p f hf)).1)
 rw [<-hv] at h
 exact l5 (p:=fun vs=>A0 I Ψ u pm cd doc vs f=AZ I Ψ vs f) (fun a=>y5 (X.b1 u pm cd doc a) hf) (fun a b=>y5 (X.b2 u pm cd doc a b) hf) (fun a b c=>y5 (X.b3 u pm cd doc a b c) hf) (fun a b c d=>y5 (X.b4 u pm cd doc a b c d) hf) (fun a b c d e=>y5 (X.b5 u pm cd doc a b c d e) hf) vs h.1 h.2
theorem pM.bnd {f:Nat}(hf:f∈ks)(u:Str)(pm cd doc:Value)(vs:List Value)(hv:vs.length=(hH I Ψ f).length):bindArgs (Calls.docDef (jy I f) (Dv I f) (sN I f) (rt I f) pm cd doc) ⟨vs,[]⟩=pure ((hH I Ψ f).zip vs)/\bindArgs (methDef (jy I f) u (Dv I f) (sN I f) (rt I f) pm cd doc) ⟨vs,[]⟩=pure ((hH I Ψ f).zip vs):=by
 have h:=X.bind hf u pm cd doc vs hv
 unfold A0 AZ at h
 rw [show Nat.beq vs.length (hH I Ψ f).length=true from hv▸beq_refl _] at h
 exact Prod.mk.inj (Option.some.inj h)
theorem pM.fnAt {mean:ExcName->Option Value}{mg mb:Str->Option Value}{h:Heap}(T:Top q (looseW q []) mean mg mb h){κ:Bool->ClsRec×Addr×Addr×(Str->Option Value)}(K:∀b,Ap q mg h b (κ b)){f:Nat}(hf:f∈ks):
  ∃a d,mz h mg (κ (uH L f)).2.2.2 (j0 I f) (jy I f) (rt I f) (sN I f) (hH I Ψ f) a d:=by
 have r:=y5 X.r hf
 unfold Az at r
 cases hg:j0 I f with
 |true=>rw [hg] at r;exact zK T _ r fun pm cd doc vs hv=>(X.bnd hf (ofString "") pm cd doc vs hv).1
 |false=>rw [hg] at r;exact y6 (K _).A _ (by rw [(K (uH L f)).c] at r;exact r) fun u pm cd doc vs hv=>(X.bnd hf u pm cd doc vs hv).2
end
theorem wp {x:Str}{y:Option Value}(h:fastLookup "object" x=some y):typeLookup (.type "object") x=pure y:=by rw [typeLookup_type,builtinLookup_eq_fast,h]
theorem pM.laid {q:Program}{ks:List Nat}{I:List FI}{L:LT}{P:Pg}(X:pM q P.Ψ ks I L){κ:Bool->ClsRec×Addr×Addr×(Str->Option Value)}(K:∀b,Ap q P.mg P.h₀ b (κ b))(hcl:∀b,P.cls (rC b)=(κ b).2.1)(hgl:P.gl=j0 I)(cs:∀p∈L.2.2.2,∃u,P.mg p.1=some u/\∀g h,Rp P g h p.2 u)
  (hF:∀(f:Nat) (F:gj),P.Ψ f=some F->mz P.h₀ P.mg (κ (uH L f)).2.2.2 (j0 I f) (jy I f) (rt I f) (sN I f) (hH I P.Ψ f) (P.fnA f) (P.fd f)):f7 P L where
 fn:=fun p hp=>by
  obtain ⟨h1,h2⟩:=xY (aB X.f p hp)
  obtain ⟨F,h1⟩:=aG h1
  exact ⟨F,h1,by rw [hgl];exact (xY h2).1,(hF _ F h1).name.trans (eq_of_beq (xY h2).2)⟩
 o:=fun b=>uE (K b).A (hcl b) (by have:=X.a b;rw [(K b).c] at this;exact Option.some.inj this) (fun x hx=>wp (y5 (Cz b) hx)) (fun p hp=>by
  obtain ⟨h1,h2⟩:=xY (aB (X.m b) p hp)
  obtain ⟨F,h1⟩:=aG h1
  obtain ⟨h2,h3⟩:=xY h2
  obtain ⟨h3,h4⟩:=xY h3
  have y:=(hF _ F h1).asMeth (qI h2)
  rw [eq_of_beq h3,eq_of_beq h4] at y
  exact y) fun p hp=>let ⟨y,h⟩:=aG (y5 (X.o b) hp);⟨y,wp h⟩
 me:=fun b p hp=>aG (xY (aB (X.m b) p hp)).1
 g:=fun b=>(hcl b)▸(K b).g
 cs:=cs
noncomputable abbrev yg (P:Pg)(I:List FI)(f:Nat)(p:PS):Prop:=∃C',gO P ⟨rt I f,ib I f⟩ ⟨[],kQ I f,rA f⟩ (j4 f) C' (sN I f) p
noncomputable def Df {P:Pg}{L:LT}(D:f7 P L)(I:List FI)(f:Nat):Option PS:=bif Nat.beq f 35||Nat.beq f 999 then none else (Dd D 60 ⟨rt I f,ib I f⟩ ⟨[],kQ I f,rA f⟩ (j4 f) (sN I f) (Fy I f)).map (·.1.2.1)
noncomputable def Dt (Ψ:Nat->Option gj)(f:Nat):Option PS:=bif Nat.beq f 35||Nat.beq f 999 then none else (Ψ f).map gj.body
theorem Fd {P:Pg}{L:LT}{D:f7 P L}{I:List FI}{ks:List Nat}(h:ks.map (Df D I)=ks.map (Dt P.Ψ))(h35:∀F,P.Ψ 35=some F->yg P I 35 F.body)(h9:∀F,P.Ψ 999=some F->F.body=g9){f:Nat}{F:gj}(hf:f∈ks)(e:P.Ψ f=some F):yg P I f F.body:=by
 have h:=y5 h hf
 unfold Df Dt at h
 cases q5:Nat.beq f 35 with
 |true=>cases eq_of_beq_eq_true q5;exact h35 F e
 |false=>
  cases q9:Nat.beq f 999 with
  |true=>cases eq_of_beq_eq_true q9;rw [h9 F e];exact ⟨⟨[],[],false⟩,dH.badZ⟩
  |false=>rw [q5,q9,e] at h;exact As h
theorem B0 {rows:List (Nat×gj)}{f:Nat}{F:gj}(e:(rows.find? fun r=>Nat.beq r.1 f).map (·.2)=some F):f∈rows.map (·.1):=
 let ⟨_,h1,_⟩:=av e
 eq_of_beq_eq_true (find?_some (p:=fun r:Nat×gj=>Nat.beq r.1 f) h1)▸List.mem_map_of_mem (List.mem_of_find?_eq_some h1)
section
variable {q:Program} {mean:ExcName->Option Value} {ks:List Nat} {I:List FI} {L:LT} {A:Around} {n m:Nat} {F:gj} {bd:List Stmt} {y:Str} {k:NameKind} {s0:Int} {kk:Nat} {q1 q2 q3 q4:Pos} {p:PS} {fa l:Addr} {vs:List Value} {ns:List Int} {σ:Sg} {hint:Nat} {s:Shared}
theorem BU {P:Pg}(X:pM q P.Ψ ks I L)(hk:∀f F,P.Ψ f=some F->f∈ks)(T:Top q (looseW q []) mean P.mg P.mb P.h₀){κ:Bool->ClsRec×Addr×Addr×(Str->Option Value)}(K:∀b,Ap q P.mg P.h₀ b (κ b))(hcl:∀b,P.cls (rC b)=(κ b).2.1)(hg:P.gl=j0 I)(cs:∀p∈L.2.2.2,∃u,P.mg p.1=some u/\∀g h,Rp P g h p.2 u)
  (hF:∀(f:Nat) (F:gj),P.Ψ f=some F->mz P.h₀ P.mg (κ (uH L f)).2.2.2 (j0 I f) (jy I f) (rt I f) (sN I f) (hH I P.Ψ f) (P.fnA f) (P.fd f))
  (sm:∀D:f7 P L,ks.map (Df D I)=ks.map (Dt P.Ψ))(h35:f7 P L->∀F,P.Ψ 35=some F->yg P I 35 F.body)(hL:P.Ψ 999=some F)(h9:F.body=g9)
  (hb:sN I 999=.Assign [.Name y q1] (.List [.Constant (.int s0) kk q2] q3) q4::bd)(ht:(ib I 999)[1]?=some (some (y,k)))(hk':(k==.local||k==.cell)=true)(hw:vk (.List [.Constant (.int s0) kk q2] q3) y q1 q4.line (rt I 999)=false)(hc:ci ⟨[],kQ I 999,false⟩ 1 false ⟨[],kQ I 999,false⟩=true)(hnp:wu P.Ψ 999=1)(hgl:j0 I 999=true)
  (hlaw:∀D:f7 P L,(Dd D 60 ⟨rt I 999,ib I 999⟩ ⟨[],kQ I 999,false⟩ false bd hint).map (·.1.2.1)=some p)(room:mw A (n+1))(hmg:P.mg (jy I 999)=some (.ref fa))(hs:P.h₀=s.heap)(hl:s.heap.IsList l vs.toArray)(hi:IntsAre vs ns)(hn:ns.length<=63)(hp:p (P.cx n) (frame [.scr ns,.spot] m) ⟨s0,none⟩ (fun _ σ=>.ret .none σ)=.ret (.bool true) σ):
  wpAny P.M A (PySem.call (.ref fa) [.ref l]) (fun v s'=>v=.bool true/\∃h' tk,s'={s with heap:=h',toks:=tk}/\∀a o,s.heap.get? a=some o->h'.get? a=some o) (fun _ _=>False) s:=by
 have D:f7 P L:=X.laid K hcl hg cs hF
 have xl:=hF 999 F hL
 have h9':∀F,P.Ψ 999=some F->F.body=g9:=fun F' e=>by rw [hL] at e;cases e;exact h9
 have hok:∀f F,P.Ψ f=some F->vg P f F:=fun f F e=>zH (hF f F e) (by have:=(xY (aB X.p f (hk f F e))).2;unfold wu at this;rw [e] at this;exact this) (Fd (sm D) (h35 D) h9' (hk f F e) e)
 obtain ⟨C',sl⟩:=As (hlaw D)
 have kl:EB P 999 1 (ib I 999) (hH I P.Ψ 999) (sN I 999) (kQ I 999):=xh xl (by have:=(xY (aB X.p 999 (hk 999 F hL))).2;rw [hnp] at this;exact this)
 rw [hb] at kl
 have hfa:P.fnA 999=fa:=Value.ref.inj (Option.some.inj ((xl.ns hgl).symm.trans hmg))
 rw [<-hfa]
 exact wT (zA T X.n fun f F e=>⟨_,_,_,_,_,hg▸hF f F e⟩) hok hL kl ht (DP hk') (by rw [xl.sc];exact hw) hc (by rw [xl.sc];exact sl) hs room hl hi hn hp
theorem wR {pg:Program}{w:World}{mg mb:Str->Option Value}{Ψ:Nat->Option gj}
  (X:pM q Ψ ks I L)(hk:∀f F,Ψ f=some F->f∈ks)(T:Top q (looseW q []) mean mg mb s.heap)(TE:TopE q (looseW q []) mg s.heap)(cs:∀P:Pg,∀p∈L.2.2.2,∃u,mg p.1=some u/\∀g h,Rp P g h p.2 u)
  (sm:∀P:Pg,∀D:f7 P L,ks.map (Df D I)=ks.map (Dt Ψ))(h35:∀P:Pg,f7 P L->∀F,Ψ 35=some F->yg P I 35 F.body)(hL:Ψ 999=some F)(h9:F.body=g9)
  (hb:sN I 999=.Assign [.Name y q1] (.List [.Constant (.int s0) kk q2] q3) q4::bd)(ht:(ib I 999)[1]?=some (some (y,k)))(hk':(k==.local||k==.cell)=true)(hw:vk (.List [.Constant (.int s0) kk q2] q3) y q1 q4.line (rt I 999)=false)(hc:ci ⟨[],kQ I 999,false⟩ 1 false ⟨[],kQ I 999,false⟩=true)(hnp:wu Ψ 999=1)(hgl:j0 I 999=true)
  (hlaw:∀P:Pg,∀D:f7 P L,(Dd D 60 ⟨rt I 999,ib I 999⟩ ⟨[],kQ I 999,false⟩ false bd hint).map (·.1.2.1)=some p)(room:mw A (n+1))(hmg:mg (jy I 999)=some (.ref fa))(hl:s.heap.IsList l vs.toArray)(hi:IntsAre vs ns)(hn:ns.length<=63)(hp:p ⟨ah Ψ n⟩ (frame [.scr ns,.spot] m) ⟨s0,none⟩ (fun _ σ=>.ret .none σ)=.ret (.bool true) σ):
  wpAny (model pg w) A (PySem.call (.ref fa) [.ref l]) (fun v s'=>v=.bool true/\∃h' tk,s'={s with heap:=h',toks:=tk}/\∀a o,s.heap.get? a=some o->h'.get? a=some o) (fun _ _=>False) s:=by
 obtain ⟨κ,K⟩:=GA (p:=Ap q mg s.heap) fun b=>by
  obtain ⟨c,C,N,mN,h1,h2,h3⟩:=Cr (x:=Ep b) TE (by have:=congrArg Option.isSome (X.a b);rw [Option.isSome_map] at this;exact this)
  exact ⟨(c,C,N,mN),h1,h2,h3⟩
 obtain ⟨fA,fD,hF⟩:=Bn (fun f F e=>X.fnAt T K (hk f F e)) hL
 exact BU (P:=⟨pg,w,s.heap,fun c=>(κ (Nat.beq c 0)).2.1,Ψ,fA,fD,j0 I,mg,mb⟩) X hk T K (fun b=>by cases b<;>rfl) rfl (cs _) hF (sm _) (h35 _) hL h9 hb ht hk' hw hc hnp hgl (hlaw _) room hmg rfl hl hi hn hp
end
end
end Mine
end
section
set_option maxRecDepth 100000
namespace Mine.L06
noncomputable section
open PySem
@[reducible] noncomputable def fy:PS:=
  (ai (bG (gq (cW (qE (p1 (eO .str) (pV 0)))) (gq (p2 Cc (p1 bF (pV 0)) (pC (.int 6))) cj))
  (ai (aD (pC (.bool false)))
  am)
  am)
  (ai (aD (p1 js (bE (p1 zX (pV 0)) (bx 1) b9 (pB (p2 EO (pV 1) (pC (.str (ofString "abcdefghijklmnopqrstuvwxyz"))))))))
  am))
@[reducible] noncomputable def eG:PS:=
  (ai (bG (p2 cA (p2 aw (pV 0) (pC (.int 0))) (pC (.str (ofString "mark"))))
  (ai (aD (cq ar))
  am)
  am)
  (ai (aD (p1 gG (p3 dc (pV 0) (p1 gk (pC (.int 1))) tg)))
  am))
@[reducible] noncomputable def eJ:PS:=
  (ai (bG (gq (cW (qE (p1 (eO .tuple) (pV 0)))) (gq (p2 cA (p1 bF (pV 0)) (pC (.int 0))) (gq (cW (qE (p1 (eO .str) (p2 aw (pV 0) (pC (.int 0)))))) cj)))
  (ai (aD (pC (.bool false)))
  am)
  am)
  (ai (bG (p2 cA (p2 aw (pV 0) (pC (.int 0))) (pC (.str (ofString "mark"))))
  (ai (aD (eX (pB (p2 cA (p1 bF (pV 0)) (pC (.int 2)))) (eX (ax 1 (ab (p2 aw (pV 0) (pC (.int 1))) ar)) (pB (p2 jW (p2 aw (pV 0) (pC (.int 1))) (pC (.str (ofString ""))))))))
  am)
  am)
  (ai (bG (p2 cA (p2 aw (pV 0) (pC (.int 0))) (pC (.str (ofString "yes"))))
  (ai (aD (pB (p2 cA (p1 bF (pV 0)) (pC (.int 1)))))
  am)
  am)
  (ai (bG (p2 kF (p2 aw (pV 0) (pC (.int 0))) (aY (ab (pC (.str (ofString "not"))) (ab (pC (.str (ofString "next"))) (ab (pC (.str (ofString "always"))) (ab (pC (.str (ofString "again"))) ar))))))
  (ai (aD (pB (p2 cA (p1 bF (pV 0)) (pC (.int 2)))))
  am)
  am)
  (ai (aD (eX (pB (p2 kF (p2 aw (pV 0) (pC (.int 0))) (aY (ab (pC (.str (ofString "and"))) (ab (pC (.str (ofString "or"))) (ab (pC (.str (ofString "till"))) ar)))))) (pB (p2 cA (p1 bF (pV 0)) (pC (.int 3))))))
  am)))))
@[reducible] noncomputable def dN:PS:=
  (ai (bG (gq (p2 cA (pV 1) (pC (.int 0))) (gq (cW (qE (ax 3 (ab (pV 0) ar)))) cj))
  (ai (aD (pC (.bool false)))
  am)
  am)
  (ai (aD (p1 js (bE (bK (ax 2 (ab (pV 0) ar))) (bx 2) b9 (ax 4 (ab (pV 2) (ab (p2 jw (pV 1) (pC (.int 1))) ar))))))
  am))
@[reducible] noncomputable def dO:PS:=
  (ai (aD (ax 4 (ab (pV 0) (ab (pC (.int 5)) ar))))
  am)
@[reducible] noncomputable def dM:PS:=
  (ai (bG (p2 kF (p2 aw (pV 0) (pC (.int 0))) (aY (ab (pC (.str (ofString "next"))) (ab (pC (.str (ofString "till"))) (ab (pC (.str (ofString "always"))) ar)))))
  (ai (aD (cq (ab (pV 0) ar)))
  am)
  am)
  (ai (bG (p2 cA (p2 aw (pV 0) (pC (.int 0))) (pC (.str (ofString "again"))))
  (ai (aI 1 (aY (ab (pC (.str (ofString "till"))) (ab (aY (ab (pC (.str (ofString "yes"))) ar)) (ab (p2 aw (pV 0) (pC (.int 1))) ar)))))
  (ai (aD (cq (ab (pV 1) (ab (aY (ab (pC (.str (ofString "always"))) (ab (pV 1) ar))) ar))))
  am))
  am)
  (ai (aD (cq ar))
  am)))
@[reducible] noncomputable def eK:PS:=
  (ai (aI 1 (cq ar))
  (ai (cU (bK (ax 2 (ab (pV 0) ar))) (bx 2)
  (ai (iL 1 hU (bE (bK (ax 500 (ab (pV 2) ar))) (bx 3) (p2 hJ (pV 3) (pV 1)) (pV 3)))
  am))
  (ai (iL 1 hU (bE (bK (ax 6 (ab (pV 0) ar))) (bx 4) (p2 hJ (pV 4) (pV 1)) (pV 4)))
  (ai (aD (pV 1))
  am))))
@[reducible] noncomputable def cM:PS:=
  (ai (bG (cW (qE (ax 5 (ab (pV 0) ar))))
  (ai g9
  am)
  am)
  (ai (bG (p2 Cc (p1 bF (ax 500 (ab (pV 0) ar))) (pC (.int 4)))
  (ai g9
  am)
  am)
  (ai (aD (pV 0))
  am)))
@[reducible] noncomputable def cO:PS:=
  (ai (aI 1 (cq (ab (aY ar) ar)))
  (ai (cU (bK (pV 0)) (bx 2)
  (ai (aI 1 (p2 bM (bE (bK (pV 1)) (bx 3) b9 (p2 bM (pV 3) (aY (ab (pC (.bool false)) ar)))) (bE (bK (pV 1)) (bx 4) b9 (p2 bM (pV 4) (aY (ab (pC (.bool true)) ar))))))
  am))
  (ai (aD (pV 1))
  am)))
@[reducible] noncomputable def fB:PS:=
  (ai (aD (p2 aw (pV 2) (uC .list fj (pV 1) (pV 0))))
  am)
@[reducible] noncomputable def i4:PS:=
  (ai (aI 4 (p2 aw (pV 0) (pC (.int 0))))
  (ai (bG (p2 cA (pV 4) (pC (.str (ofString "mark"))))
  (ai (aD (pB (p2 cA (pV 1) (p2 aw (pV 0) (pC (.int 1))))))
  am)
  am)
  (ai (bG (p2 cA (pV 4) (pC (.str (ofString "yes"))))
  (ai (aD (pC (.bool true)))
  am)
  am)
  (ai (bG (p2 cA (pV 4) (pC (.str (ofString "not"))))
  (ai (aD (mL (ax 10 (ab (p2 aw (pV 0) (pC (.int 1))) (ab (pV 1) (ab (pV 2) (ab (pV 3) ar)))))))
  am)
  am)
  (ai (bG (p2 cA (pV 4) (pC (.str (ofString "and"))))
  (ai (aD (eX (ax 10 (ab (p2 aw (pV 0) (pC (.int 1))) (ab (pV 1) (ab (pV 2) (ab (pV 3) ar))))) (ax 10 (ab (p2 aw (pV 0) (pC (.int 2))) (ab (pV 1) (ab (pV 2) (ab (pV 3) ar)))))))
  am)
  am)
  (ai (bG (p2 cA (pV 4) (pC (.str (ofString "or"))))
  (ai (aD (wj (ax 10 (ab (p2 aw (pV 0) (pC (.int 1))) (ab (pV 1) (ab (pV 2) (ab (pV 3) ar))))) (ax 10 (ab (p2 aw (pV 0) (pC (.int 2))) (ab (pV 1) (ab (pV 2) (ab (pV 3) ar)))))))
  am)
  am)
  (ai (bG (p2 cA (pV 4) (pC (.str (ofString "again"))))
  (ai (aD (ax 9 (ab (aY (ab (pC (.str (ofString "always"))) (ab (aY (ab (pC (.str (ofString "till"))) (ab (aY (ab (pC (.str (ofString "yes"))) ar)) (ab (p2 aw (pV 0) (pC (.int 1))) ar)))) ar))) (ab (pV 2) (ab (pV 3) ar)))))
  am)
  am)
  (ai (aD (ax 9 (ab (pV 0) (ab (pV 2) (ab (pV 3) ar)))))
  am))))))))
@[reducible] noncomputable def gA:PS:=
  (ai (bG (p2 cA (p2 aw (pV 0) (pC (.int 0))) (pC (.str (ofString "next"))))
  (ai (aD (ax 10 (ab (p2 aw (pV 0) (pC (.int 1))) (ab (p2 aw (pV 3) (pC (.int 0))) (ab (pV 1) (ab (p2 aw (pV 3) (pC (.int 1))) ar))))))
  am)
  am)
  (ai (bG (p2 cA (p2 aw (pV 0) (pC (.int 0))) (pC (.str (ofString "till"))))
  (ai (bG (qE (ax 10 (ab (p2 aw (pV 0) (pC (.int 2))) (ab (p2 aw (pV 2) (pC (.int 0))) (ab (pV 1) (ab (p2 aw (pV 2) (pC (.int 1))) ar))))))
  (ai (aD (pC (.bool true)))
  am)
  am)
  (ai (aD (eX (ax 10 (ab (p2 aw (pV 0) (pC (.int 1))) (ab (p2 aw (pV 2) (pC (.int 0))) (ab (pV 1) (ab (p2 aw (pV 2) (pC (.int 1))) ar))))) (ax 9 (ab (pV 0) (ab (pV 1) (ab (p2 aw (pV 3) (pC (.int 1))) ar))))))
  am))
  am)
  (ai (aD (eX (ax 10 (ab (p2 aw (pV 0) (pC (.int 1))) (ab (p2 aw (pV 2) (pC (.int 0))) (ab (pV 1) (ab (p2 aw (pV 2) (pC (.int 1))) ar))))) (ax 9 (ab (pV 0) (ab (pV 1) (ab (p2 aw (pV 3) (pC (.int 1))) ar))))))
  am)))
@[reducible] noncomputable def fC:PS:=
  (ai (cU (bK (pV 0)) (bx 3)
  (ai (bG (p2 jW (ax 9 (ab (pV 3) (ab (pV 0) (ab (p2 aw (pV 1) (pC (.int 1))) ar)))) (ax 11 (ab (pV 3) (ab (pV 0) (ab (pV 1) (ab (pV 2) ar))))))
  (ai (aD (pC (.bool false)))
  am)
  am)
  am))
  (ai (aD (pC (.bool true)))
  am))
@[reducible] noncomputable def cL:PS:=
  (ai (aD (p2 bM (cq (ab (pC .none) ar)) (bE (bK (ax 500 (ab (pV 0) ar))) (bx 1) (p2 kF (p2 aw (pV 1) (pC (.int 0))) (aY (ab (pC (.str (ofString "till"))) (ab (pC (.str (ofString "always"))) ar)))) (pV 1))))
  am)
@[reducible] noncomputable def gC:PS:=
  (ai (bG (p2 zu (pV 0) (pC .none))
  (ai (aD (pC (.bool true)))
  am)
  am)
  (ai (bG (p2 cA (p2 aw (pV 0) (pC (.int 0))) (pC (.str (ofString "till"))))
  (ai (aD (wj (mL (ax 9 (ab (pV 0) (ab (pV 2) (ab (pV 3) ar))))) (ax 10 (ab (p2 aw (pV 0) (pC (.int 2))) (ab (pV 1) (ab (pV 2) (ab (pV 3) ar)))))))
  am)
  am)
  (ai (aD (wj (ax 9 (ab (pV 0) (ab (pV 2) (ab (pV 3) ar)))) (mL (ax 10 (ab (p2 aw (pV 0) (pC (.int 1))) (ab (pV 1) (ab (pV 2) (ab (pV 3) ar))))))))
  am)))
@[reducible] noncomputable def eH:PS:=
  (ai (aD (eX (p1 (eO .int) (pV 0)) (eX (mL (p1 (eO .bool) (pV 0))) (pB (lk CT rB (pC (.int 0)) (pV 0) (pV 1))))))
  am)
@[reducible] noncomputable def cN:PS:=
  (ai (bG (gq (cW (qE (p1 (eO .list) (pV 0)))) (gq (p2 cA (p1 bF (pV 0)) (pC (.int 0))) cj))
  (ai g9
  am)
  am)
  (ai (cU (qB (pV 0)) (yB 2 3)
  (ai (bG (gq (cW (qE (ax 15 (ab (pV 3) (ab (pV 1) ar))))) (gq (p2 kF (pV 3) (p3 dc (pV 0) tg (p1 gk (pV 2)))) cj))
  (ai g9
  am)
  am)
  am))
  am))
@[reducible] noncomputable def cv:PS:=
  (ai (bG (p2 rB (pV 1) (p1 bF (pV 0)))
  (ai (aD (p2 aw (pV 0) (pV 1)))
  am)
  am)
  (ai (aD (pC (.int 0)))
  am))
@[reducible] noncomputable def dS:PS:=
  (ai (i5 1 (p2 bM (nq 1) (pC (.int 1))))
  (ai (aI 2 (p2 jw (nq 1) (pC (.int 1))))
  (ai (bG (p2 rB (pV 2) (p1 bF (pV 0)))
  (ai (aD (p2 aw (pV 0) (pV 2)))
  am)
  am)
  (ai (bG (yS (p2 Cc (p1 bF (pV 0)) (pC (.int 4))) (yS (p2 rB (pV 2) (pC (.int 50))) b9))
  (ai (aD (p2 ck (p2 gE (p2 bM (p2 aw (pV 0) (p2 ck (pV 2) (p1 bF (pV 0)))) (p2 gE (pC (.int 7919)) (pV 2))) (pC (.int 48271))) (pC (.int 1000003))))
  am)
  am)
  (ai (aD (pC (.int 0)))
  am)))))
@[reducible] noncomputable def dg:PS:=
  (ai (aI 1 (pC (.str (ofString "abcdefghijklmnopqrstuvwxyz"))))
  (ai (aI 2 (uC .str tH (pC (.str (ofString ""))) (bE (dW (ab (pC (.int 6)) ar)) (bx 8) b9 (p2 aw (pV 1) (p2 ck (p2 bM (p2 fk (pV 0) (pC (.int 7))) (p2 gE (pC (.int 5)) (pV 8))) (pC (.int 26)))))))
  (ai (bG (p2 cA (p2 ck (pV 0) (pC (.int 3))) (pC (.int 2)))
  (ai (aI 3 (p2 bM (pC (.int 1)) (p2 ck (p2 fk (pV 0) (pC (.int 3))) (pC (.int 4)))))
  (ai (aD (bE (dW (ab (pC (.int 3)) ar)) (bx 9) b9 (p3 dc (pV 2) tg (p1 gk (p2 bM (pV 3) (pV 9))))))
  am))
  am)
  (ai (aI 3 (p2 ck (p2 fk (pV 0) (pC (.int 3))) (pC (.int 6))))
  (ai (aI 4 (p2 ck (p2 fk (pV 0) (pC (.int 18))) (p2 bM (pV 3) (pC (.int 1)))))
  (ai (aI 5 (cq ar))
  (ai (cU (dW (ab (pC (.int 3)) ar)) (bx 6)
  (ai (aI 7 (p2 aw (pV 1) (p2 ck (p2 bM (p2 fk (pV 0) (pC (.int 90))) (p2 gE (pC (.int 7)) (pV 6))) (pC (.int 26)))))
  (ai (iL 5 eV (p2 bM (p2 bM (p3 dc (pV 2) tg (p1 gk (pV 4))) (pV 7)) (p3 dc (pV 2) (p1 gk (pV 4)) (p1 gk (pV 3)))))
  am)))
  (ai (aD (pV 5))
  am))))))))
@[reducible] noncomputable def dQ:PS:=
  (ai (aI 4 (ax 18 (ab (pV 0) (ab (pV 1) ar))))
  (ai (aI 5 (p2 fk (pV 4) (pC (.int 13))))
  (ai (bG (gq (p2 rB (pV 3) (pC (.int 2))) (gq (p2 rB (p2 ck (pV 4) (pC (.int 13))) (pC (.int 2))) cj))
  (ai (bG (p2 cA (p2 ck (pV 5) (pC (.int 9))) (pC (.int 4)))
  (ai (aD (aY (ab (pC (.str (ofString "yes"))) ar)))
  am)
  am)
  (ai (aD (aY (ab (pC (.str (ofString "mark"))) (ab (p2 aw (pV 2) (p2 ck (pV 5) (pC (.int 3)))) ar))))
  am))
  am)
  (ai (aI 6 (pC (.str (ofString "not and or next till always again till always next not"))))
  (ai (aI 7 (p2 aw (uC .str od (pV 6) (pC (.str (ofString " ")))) (p2 jw (p2 ck (pV 4) (pC (.int 13))) (pC (.int 2)))))
  (ai (aI 8 (ax 20 (ab (pV 0) (ab (pV 1) (ab (pV 2) (ab (p2 jw (pV 3) (pC (.int 1))) ar))))))
  (ai (bG (p2 kF (pV 7) (aY (ab (pC (.str (ofString "not"))) (ab (pC (.str (ofString "next"))) (ab (pC (.str (ofString "always"))) (ab (pC (.str (ofString "again"))) ar))))))
  (ai (aD (aY (ab (pV 7) (ab (pV 8) ar))))
  am)
  am)
  (ai (aD (aY (ab (pV 7) (ab (pV 8) (ab (ax 20 (ab (pV 0) (ab (pV 1) (ab (pV 2) (ab (p2 jw (pV 3) (pC (.int 1))) ar))))) ar)))))
  am))))))))
@[reducible] noncomputable def eM:PS:=
  (ai (aI 1 (cq (ab (pV 0) ar)))
  (ai (cU (bK (p3 dc (pV 0) (p1 gk (pC (.int 1))) tg)) (bx 2)
  (ai (bG (qE (p1 (eO .tuple) (pV 2)))
  (ai (aI 1 (p2 bM (pV 1) (ax 21 (ab (pV 2) ar))))
  am)
  am)
  am))
  (ai (aD (pV 1))
  am)))
@[reducible] noncomputable def dj:PS:=
  (ai (aI 1 (cq ar))
  (ai (cU (bK (ax 21 (ab (pV 0) ar))) (bx 2)
  (ai (aI 3 (cq ar))
  (ai (bG (p2 kF (p2 aw (pV 2) (pC (.int 0))) (aY (ab (pC (.str (ofString "next"))) (ab (pC (.str (ofString "till"))) (ab (pC (.str (ofString "always"))) ar)))))
  (ai (aI 3 (cq (ab (pV 2) ar)))
  am)
  (ai (bG (p2 cA (p2 aw (pV 2) (pC (.int 0))) (pC (.str (ofString "again"))))
  (ai (aI 3 (cq (ab (aY (ab (pC (.str (ofString "till"))) (ab (aY (ab (pC (.str (ofString "yes"))) ar)) (ab (p2 aw (pV 2) (pC (.int 1))) ar)))) (ab (aY (ab (pC (.str (ofString "always"))) (ab (aY (ab (pC (.str (ofString "till"))) (ab (aY (ab (pC (.str (ofString "yes"))) ar)) (ab (p2 aw (pV 2) (pC (.int 1))) ar)))) ar))) ar))))
  am)
  am)
  am))
  (ai (aI 1 (p2 bM (pV 1) (bE (bK (pV 3)) (bx 4) (p2 hJ (pV 4) (pV 1)) (pV 4))))
  am))))
  (ai (aD (pV 1))
  am)))
@[reducible] noncomputable def eL:PS:=
  (ai (ju 40 (p2 Cc (p1 bF (ax 22 (ab (pV 0) ar))) (pV 1))
  (ai (aI 0 (p2 aw (pV 0) (p1 oE (pC (.int 1)))))
  am))
  (ai (aD (pV 0))
  am))
@[reducible] noncomputable def dP:PS:=
  (ai (aI 3 (p2 ck (p2 gE (pV 0) (pC (.int 48271))) (pC (.int 1000003))))
  (ai (aI 4 (cq (ab (p2 ck (pV 2) (pV 1)) ar)))
  (ai (cU (dW (ab (pC (.int 1)) (ab (pV 1) ar))) (bx 5)
  (ai (bG (p2 cA (p2 ck (pV 3) (pC (.int 3))) (pC (.int 1)))
  (ai (iL 4 eV (p2 ck (p2 bM (pV 2) (pV 5)) (pV 1)))
  am)
  am)
  (ai (aI 3 (p2 fk (pV 3) (pC (.int 3))))
  am)))
  (ai (aD (pV 4))
  am))))
@[reducible] noncomputable def cr:PS:=
  (ai (aI 4 (p2 bM (pC (.int 1)) (p2 ck (ax 18 (ab (pV 0) (ab (pV 1) ar))) (pV 3))))
  (ai (aI 5 (p2 bM (pV 2) (cq (ab (pC (.str (ofString ""))) (ab (p2 aw (pV 2) (pC (.int 0))) (ab (p2 aw (pV 2) (pC (.int 1))) ar))))))
  (ai (aI 6 (cq ar))
  (ai (aI 7 (cq ar))
  (ai (cU (dW (ab (pV 4) ar)) (bx 8)
  (ai (aI 9 (ax 18 (ab (pV 0) (ab (pV 1) ar))))
  (ai (iL 6 eV (p2 aw (pV 5) (p2 ck (pV 9) (pC (.int 6)))))
  (ai (iL 7 eV (ax 24 (ab (pV 9) (ab (pV 4) (ab (p2 fk (pV 9) (pC (.int 6))) ar)))))
  am))))
  (ai (aI 9 (ax 18 (ab (pV 0) (ab (pV 1) ar))))
  (ai (bG (p2 cA (p2 ck (pV 9) (pC (.int 4))) (pC (.int 3)))
  (ai (aD (aY (ab (pV 6) (ab (pV 7) (ab (ax 24 (ab (pV 9) (ab (pV 4) (ab (p2 fk (pV 9) (pC (.int 4))) ar)))) ar)))))
  am)
  am)
  (ai (aD (aY (ab (pV 6) (ab (pV 7) (ab (cq (ab (p2 ck (p2 fk (pV 9) (pC (.int 4))) (pV 4)) ar)) ar)))))
  am))))))))
@[reducible] noncomputable def dG:PS:=
  (ai (aI 4 (p2 aw (pV 0) (pC (.int 0))))
  (ai (bG (p2 cA (pV 4) (pC (.str (ofString "mark"))))
  (ai (aD (pB (p2 cA (pV 1) (p2 aw (pV 0) (pC (.int 1))))))
  am)
  am)
  (ai (bG (p2 cA (pV 4) (pC (.str (ofString "yes"))))
  (ai (aD (pC (.bool true)))
  am)
  am)
  (ai (bG (p2 cA (pV 4) (pC (.str (ofString "again"))))
  (ai (aD (p2 aw (pV 3) (uC .list fj (pV 2) (aY (ab (pC (.str (ofString "always"))) (ab (aY (ab (pC (.str (ofString "till"))) (ab (aY (ab (pC (.str (ofString "yes"))) ar)) (ab (p2 aw (pV 0) (pC (.int 1))) ar)))) ar))))))
  am)
  am)
  (ai (bG (p2 kF (pV 0) (pV 2))
  (ai (aD (p2 aw (pV 3) (uC .list fj (pV 2) (pV 0))))
  am)
  am)
  (ai (aI 5 (bE (bK (p3 dc (pV 0) (p1 gk (pC (.int 1))) tg)) (bx 6) b9 (ax 26 (ab (pV 6) (ab (pV 1) (ab (pV 2) (ab (pV 3) ar)))))))
  (ai (bG (p2 cA (pV 4) (pC (.str (ofString "not"))))
  (ai (aD (mL (p2 aw (pV 5) (pC (.int 0)))))
  am)
  am)
  (ai (aD (p2 aw (cq (ab (eX (p2 aw (pV 5) (pC (.int 0))) (p2 aw (pV 5) (pC (.int 1)))) (ab (wj (p2 aw (pV 5) (pC (.int 0))) (p2 aw (pV 5) (pC (.int 1)))) ar))) (p1 lJ (pB (p2 cA (pV 4) (pC (.str (ofString "or"))))))))
  am))))))))
@[reducible] noncomputable def fE:PS:=
  (ai (cU (qB (pV 0)) (yB 5 6)
  (ai (aI 7 (bE (bK (p3 dc (pV 6) (p1 gk (pC (.int 1))) tg)) (bx 9) b9 (ax 26 (ab (pV 9) (ab (pV 1) (ab (pV 0) (ab (pV 2) ar)))))))
  (ai (aI 8 (ax 26 (ab (p2 aw (pV 6) (pC (.int 1))) (ab (pV 3) (ab (pV 0) (ab (pV 4) ar))))))
  (ai (bG (p2 cA (p2 aw (pV 6) (pC (.int 0))) (pC (.str (ofString "always"))))
  (ai (aI 8 (eX (p2 aw (pV 7) (pC (.int 0))) (p2 aw (pV 4) (pV 5))))
  am)
  am)
  (ai (bG (p2 cA (p2 aw (pV 6) (pC (.int 0))) (pC (.str (ofString "till"))))
  (ai (aI 8 (wj (p2 aw (pV 7) (pC (.int 1))) (eX (p2 aw (pV 7) (pC (.int 0))) (p2 aw (pV 4) (pV 5)))))
  am)
  am)
  (ai (bG (p2 jW (p2 aw (pV 2) (pV 5)) (pV 8))
  (ai (aD (pC (.bool false)))
  am)
  am)
  am))))))
  (ai (aD (pC (.bool true)))
  am))
@[reducible] noncomputable def di:PS:=
  (ai (bG (p2 zu (pV 0) (pC .none))
  (ai (aD (pC (.bool true)))
  am)
  am)
  (ai (aI 4 (p2 aw (pV 3) (uC .list fj (pV 2) (pV 0))))
  (ai (bG (p2 cA (p2 aw (pV 0) (pC (.int 0))) (pC (.str (ofString "till"))))
  (ai (aD (wj (mL (pV 4)) (ax 26 (ab (p2 aw (pV 0) (pC (.int 2))) (ab (pV 1) (ab (pV 2) (ab (pV 3) ar)))))))
  am)
  am)
  (ai (aD (wj (pV 4) (mL (ax 26 (ab (p2 aw (pV 0) (pC (.int 1))) (ab (pV 1) (ab (pV 2) (ab (pV 3) ar))))))))
  am))))
@[reducible] noncomputable def cu:PS:=
  (ai (aI 1 (cq (ab (aY ar) ar)))
  (ai (cU (dW (ab (pV 0) ar)) (bx 2)
  (ai (aI 1 (ax 30 (ab (pV 1) ar)))
  am))
  (ai (aD (pV 1))
  am)))
@[reducible] noncomputable def cP:PS:=
  (ai (aI 1 (cq ar))
  (ai (cU (bK (pV 0)) (bx 2)
  (ai (iL 1 hU (cq (ab (p2 bM (pV 2) (aY (ab (pC (.bool false)) ar))) (ab (p2 bM (pV 2) (aY (ab (pC (.bool true)) ar))) ar))))
  am))
  (ai (aD (pV 1))
  am)))
@[reducible] noncomputable def cQ:PS:=
  (ai (vy [3,4] (p3 dc (pV 0) tg (p1 gk (pC (.int 2)))))
  (ai (aI 5 (cq ar))
  (ai (cU (bK (p2 aw (pV 4) (p2 aw (pV 2) (pC (.int 0))))) (bx 6)
  (ai (cU (bK (ax 29 (ab (p1 bF (pV 1)) ar))) (bx 7)
  (ai (bG (qE (ax 27 (ab (pV 1) (ab (p2 aw (pV 3) (p2 aw (pV 2) (pC (.int 0)))) (ab (p2 aw (pV 2) (pC (.int 1))) (ab (p2 aw (pV 3) (pV 6)) (ab (pV 7) ar)))))))
  (ai (iL 5 eV (aY (ab (pV 6) (ab (pV 7) ar))))
  am)
  am)
  am))
  am))
  (ai (aD (pV 5))
  am))))
@[reducible] noncomputable def dk:PS:=
  (ai (aI 3 (cq ar))
  (ai (cU (bK (p2 aw (pV 0) (pC (.int 2)))) (bx 4)
  (ai (cU (bK (ax 29 (ab (p1 bF (pV 1)) ar))) (bx 5)
  (ai (bG (cW (qE (ax 26 (ab (pV 2) (ab (p2 aw (p2 aw (pV 0) (pC (.int 0))) (pV 4)) (ab (pV 1) (ab (pV 5) ar)))))))
  (ai (iL 3 eV (aY (ab (pV 4) (ab (pV 5) ar))))
  am)
  am)
  am))
  am))
  (ai (aD (pV 3))
  am)))
@[reducible] noncomputable def dR:PS:=
  (ai (aD (eX (p1 (eO .list) (pV 0)) (eX (pB (p2 cA (p1 bF (pV 0)) (p1 bF (pV 1)))) (pB (p2 cA (p1 gw (pV 0)) (p1 gw (pV 1)))))))
  am)
@[reducible] noncomputable def df:PS:=
  (ai (aI 3 (ax 500 (ab (pV 2) ar)))
  (ai (aI 4 (p2 bM (cq (ab (pC .none) ar)) (bE (bK (pV 3)) (bx 12) (p2 jW (p2 aw (pV 12) (pC (.int 0))) (pC (.str (ofString "next")))) (pV 12))))
  (ai (bG (gq (p2 jW (p1 (iB 10 0) (pV 0)) (pV 3)) (gq (p2 jW (p1 (iB 10 1) (pV 0)) (pV 4)) (gq (qE (p1 (eO .bool) (p1 (iB 10 5) (pV 0)))) cj)))
  (ai (aD (pC (.bool false)))
  am)
  am)
  (ai (bG (cW (qE (ax 32 (ab (p3 dc (p1 (iB 10 4) (pV 0)) tg (p1 gk (p1 (iB 10 5) (pV 0)))) (ab (ax 501 (ab (pV 1) (ab (pV 3) (ab (pV 2) ar)))) ar)))))
  (ai (aD (pC (.bool false)))
  am)
  am)
  (ai (aI 5 (ax 501 (ab (pV 1) (ab (pV 3) (ab (pV 2) ar)))))
  (ai (aI 6 (pC (.int 0)))
  (ai (ju 400 (p2 rB (pV 6) (p1 bF (pV 5)))
  (ai (aI 7 (ax 31 (ab (pV 1) (ab (pV 3) (ab (p2 aw (pV 5) (pV 6)) ar)))))
  (ai (bG (cW (qE (ax 32 (ab (p2 idxD (p1 (iB 10 6) (pV 0)) (p2 aw (pV 5) (pV 6))) (ab (pV 7) ar)))))
  (ai (aD (pC (.bool false)))
  am)
  am)
  (ai (iL 5 hU (bE (bK (pV 7)) (bx 13) (p2 hJ (pV 13) (pV 5)) (pV 13)))
  (ai (aI 6 (p2 bM (pV 6) (pC (.int 1))))
  am)))))
  (ai (bG (gq (cW (qE (ax 32 (ab (p1 (iB 10 4) (pV 0)) (ab (pV 5) ar))))) (gq (p2 jW (p1 qK (p1 (iB 10 6) (pV 0))) (p1 bF (pV 5))) cj))
  (ai (aD (pC (.bool false)))
  am)
  am)
  (ai (cU (bK (pV 5)) (bx 8)
  (ai (cU (dW (ab (p1 bF (pV 4)) ar)) (bx 9)
  (ai (aI 10 (mI 10 1005 (pV 0) (ab (pV 8) (ab (pV 9) ar))))
  (ai (aI 11 (ax 28 (ab (p2 aw (pV 4) (pV 9)) (ab (p2 aw (p2 aw (pV 1) (pC (.int 0))) (p2 aw (pV 8) (pC (.int 0)))) (ab (pV 3) (ab (p2 aw (pV 8) (pC (.int 1))) ar))))))
  (ai (bG (gq (cW (qE (p1 (eO .bool) (pV 10)))) (gq (p2 jW (pV 10) (pV 11)) cj))
  (ai (aD (pC (.bool false)))
  am)
  am)
  am))))
  am))
  (ai (aD (pC (.bool true)))
  am))))))))))
@[reducible] noncomputable def wi:PS:=
  (ai (aI 2 (ax 19 (ab (ax 17 (ab (pV 0) (ab (pC (.int 0)) ar))) ar)))
  (ai (aI 3 (p2 ck (p2 fk (ax 17 (ab (pV 0) (ab (pC (.int 0)) ar))) (pC (.int 5))) (pC (.int 8))))
  (ai (aI 4 (ax 25 (ab (pV 0) (ab (pV 1) (ab (pV 2) (ab (p2 aw (cq (ab (pC (.int 3)) (ab (pC (.int 1)) (ab (pC (.int 8)) ar)))) (p2 gE (pV 3) (p1 lJ (pB (p2 rB (pV 3) (pC (.int 3))))))) ar))))))
  (ai (aI 5 (ax 23 (ab (ax 20 (ab (pV 0) (ab (pV 1) (ab (pV 2) (ab (pC (.int 5)) ar))))) (ab (p2 aw (cq (ab (pC (.int 2)) (ab (pC (.int 4)) (ab (pC (.int 1)) ar)))) (p2 gE (pV 3) (p1 lJ (pB (p2 rB (pV 3) (pC (.int 3))))))) ar))))
  (ai (aI 6 (oq 0 1006 (ab (p2 aw (pV 4) (pC (.int 0))) (ab (p2 aw (pV 4) (pC (.int 1))) (ab (p2 aw (pV 4) (pC (.int 2))) ar)))))
  (ai (aI 7 (oq 10 1001 (ab (pV 6) (ab (pV 5) ar))))
  (ai (bG (cW (qE (ax 33 (ab (pV 7) (ab (pV 4) (ab (pV 5) ar))))))
  (ai (aD (pC (.bool false)))
  am)
  am)
  (ai (aI 8 (aY (ab (p1 gG (p1 (iB 10 4) (pV 7))) (ab (p1 fW (p1 (iB 10 6) (pV 7))) ar))))
  (ai (aI 9 (EG (qE (p1 (eO .tuple) (p2 aw (pV 5) (p1 oE (pC (.int 1)))))) (aY (ab (pC (.str (ofString "not"))) (ab (p2 aw (pV 5) (p1 oE (pC (.int 1)))) ar))) (aY (ab (pC (.str (ofString "next"))) (ab (pV 5) ar)))))
  (ai (aI 10 (oq 10 1001 (ab (pV 6) (ab (pV 9) ar))))
  (ai (bG (gq (cW (qE (ax 33 (ab (pV 10) (ab (pV 4) (ab (pV 9) ar)))))) (gq (p2 y2 (aY (ab (p1 (iB 10 4) (pV 7)) (ab (p1 (iB 10 6) (pV 7)) ar))) (pV 8)) cj))
  (ai (aD (pC (.bool false)))
  am)
  am)
  (ai (aD (eX (pB (p2 cA (mI 0 1009 (pV 6) ar) (p2 aw (pV 4) (pC (.int 2))))) (pB (p2 cA (mI 0 1008 (pV 6) (ab (pC (.int 0)) ar)) (p2 aw (p2 aw (pV 4) (pC (.int 1))) (pC (.int 0)))))))
  am))))))))))))
@[reducible] noncomputable def cw:PS:=
  (ai (kO (ax 7 (ab (pV 2) ar)))
  (ai (rT 10 0 (ax 500 (ab (pV 2) ar)))
  (ai (rT 10 1 (ax 13 (ab (pV 2) ar)))
  (ai (rT 10 2 (pV 1))
  (ai (rT 10 3 yW)
  (ai (rT 10 4 (cq ar))
  (ai (cU (bK (mI 0 1009 (pV 1) ar)) (bx 3)
  (ai (cU (bK (ax 8 (ab (fh 10 0) ar))) (bx 4)
  (ai (bG (cW (qE (ax 10 (ab (pV 2) (ab (mI 0 1007 (pV 1) (ab (pV 3) ar)) (ab (fh 10 0) (ab (pV 4) ar)))))))
  (ai (ql 10 4 (aY (ab (pV 3) (ab (pV 4) ar))))
  am)
  am)
  am))
  am))
  (ai (rT 10 5 (p1 bF (ou 10 4)))
  (ai (rT 10 6 yW)
  (ai (kO (rU 10 1002 ar))
  am))))))))))
@[reducible] noncomputable def eN:PS:=
  (ai (aI 1 (p1 tS (ox 10 4 (bx 5) (aY (ab (pV 5) (ab (pC (.bool true)) ar))))))
  (ai (aI 2 (pC (.int 0)))
  (ai (ju 400 (p2 rB (pV 2) (p1 bF (ou 10 4)))
  (ai (aI 3 (By 10 4 aw (pV 2)))
  (ai (qk 10 6 (pV 3) (rU 10 1003 (ab (pV 3) ar)))
  (ai (cU (bK (By 10 6 idxD (pV 3))) (bx 4)
  (ai (bG (p2 ig (pV 4) (pV 1))
  (ai (C6 1 i0 (pV 4) (pC (.bool true)))
  (ai (ql 10 4 (pV 4))
  am))
  am)
  am))
  (ai (aI 2 (p2 bM (pV 2) (pC (.int 1))))
  am)))))
  am)))
@[reducible] noncomputable def dq:PS:=
  (ai (aI 2 (aY (ab (mI 0 1007 (fh 10 2) (ab (p2 aw (pV 1) (pC (.int 0))) ar)) (ab (p2 aw (pV 1) (pC (.int 1))) ar))))
  (ai (aI 3 (cq ar))
  (ai (cU (bK (mI 0 1008 (fh 10 2) (ab (p2 aw (pV 1) (pC (.int 0))) ar))) (bx 4)
  (ai (iL 3 hU (bE (bK (rU 10 1004 (ab (pV 2) (ab (mI 0 1007 (fh 10 2) (ab (pV 4) ar)) ar)))) (bx 5) b9 (aY (ab (pV 4) (ab (pV 5) ar)))))
  am))
  (ai (aD (pV 3))
  am))))
@[reducible] noncomputable def bp:PS:=
  (ai (bG (p2 ig (aY (ab (pV 1) (ab (pV 2) ar))) (ou 10 3))
  (ai (aI 3 (bE (bK (ax 8 (ab (fh 10 0) ar))) (bx 4) (qE (ax 12 (ab (fh 10 0) (ab (pV 1) (ab (aY (ab (pV 2) (ab (pV 4) ar))) ar))))) (pV 4)))
  (ai (qk 10 3 (aY (ab (pV 1) (ab (pV 2) ar))) (pV 3))
  am))
  am)
  (ai (aD (By 10 3 idxD (aY (ab (pV 1) (ab (pV 2) ar)))))
  am))
@[reducible] noncomputable def dT:PS:=
  (ai (aD (ax 14 (ab (p2 aw (fh 10 1) (pV 2)) (ab (mI 0 1007 (fh 10 2) (ab (p2 aw (pV 1) (pC (.int 0))) ar)) (ab (fh 10 0) (ab (p2 aw (pV 1) (pC (.int 1))) ar))))))
  am)
@[reducible] noncomputable def bB:PS:=
  (ai (bG (gq (cW (qE (p1 (eO .list) (pV 1)))) (gq (cW (lk CT CT (pC (.int 1)) (p1 bF (pV 1)) (pC (.int 12)))) cj))
  (ai g9
  am)
  am)
  (ai (bG (cW (qE (p1 js (bE (bK (pV 1)) (bx 5) b9 (ax 1 (ab (pV 5) ar))))))
  (ai g9
  am)
  am)
  (ai (bG (gq (cW (qE (p1 (eO .list) (pV 2)))) (gq (p2 jW (p1 bF (pV 2)) (p1 bF (pV 1))) cj))
  (ai g9
  am)
  am)
  (ai (cU (bK (pV 2)) (bx 4)
  (ai (kO (ax 16 (ab (pV 4) (ab (p1 bF (pV 1)) ar))))
  am))
  (ai (kO (ax 16 (ab (pV 3) (ab (p1 bF (pV 1)) ar))))
  (ai (rT 0 0 (p1 gG (pV 1)))
  (ai (rT 0 1 (bE (bK (pV 2)) (bx 6) b9 (p1 gG (pV 6))))
  (ai (rT 0 2 (p1 gG (pV 3)))
  am))))))))
@[reducible] noncomputable def cz:PS:=
  (ai (aD (p2 aw (fh 0 0) (pV 1)))
  am)
@[reducible] noncomputable def cb:PS:=
  (ai (aD (p1 gG (p2 aw (fh 0 1) (pV 1))))
  am)
@[reducible] noncomputable def bP:PS:=
  (ai (aD (p1 gG (fh 0 2)))
  am)
noncomputable def rows:List (Nat×gj):=[(1,⟨1,1,fy⟩),
 (2,⟨1,0,eG⟩),
 (3,⟨1,0,eJ⟩),
 (4,⟨2,1,dN⟩),
 (5,⟨1,0,dO⟩),
 (6,⟨1,1,dM⟩),
 (500,⟨1,4,eK⟩),
 (7,⟨1,0,cM⟩),
 (8,⟨1,4,cO⟩),
 (9,⟨3,0,fB⟩),
 (10,⟨4,1,i4⟩),
 (11,⟨4,0,gA⟩),
 (12,⟨3,1,fC⟩),
 (13,⟨1,1,cL⟩),
 (14,⟨4,0,gC⟩),
 (15,⟨2,0,eH⟩),
 (16,⟨2,2,cN⟩),
 (17,⟨2,0,cv⟩),
 (18,⟨2,1,dS⟩),
 (19,⟨1,9,dg⟩),
 (20,⟨4,5,dQ⟩),
 (21,⟨1,2,eM⟩),
 (22,⟨1,4,dj⟩),
 (23,⟨2,0,eL⟩),
 (24,⟨3,3,dP⟩),
 (25,⟨4,6,cr⟩),
 (26,⟨4,3,dG⟩),
 (27,⟨5,5,fE⟩),
 (28,⟨4,1,di⟩),
 (29,⟨1,2,cu⟩),
 (30,⟨1,2,cP⟩),
 (31,⟨3,5,cQ⟩),
 (501,⟨3,3,dk⟩),
 (32,⟨2,0,dR⟩),
 (33,⟨3,11,df⟩),
 (999,⟨1,10,g9⟩),
 (1001,⟨3,2,cw⟩),
 (1002,⟨1,5,eN⟩),
 (1003,⟨2,4,dq⟩),
 (1004,⟨3,2,bp⟩),
 (1005,⟨3,0,dT⟩),
 (1006,⟨4,3,bB⟩),
 (1007,⟨2,0,cz⟩),
 (1008,⟨2,0,cb⟩),
 (1009,⟨1,0,bP⟩)]
noncomputable def Ψ (f:Nat):Option gj:=(rows.find? fun r=>Nat.beq r.1 f).map (·.2)
end
end Mine.L06
end
section
set_option maxRecDepth 100000
set_option maxHeartbeats 4000000
namespace Mine.L06
noncomputable section
open PySem PySem.W PyProof.Rows
noncomputable def jQ:List FI:=[(1,b8 pw_uf020006_06 10,(ofString "is_mark"),true,[lo "thing"],[1],10000100001000010000000000000000000000000),
 (2,b8 pw_uf020006_06 11,(ofString "parts_of"),true,[lo "saying"],[],0),
 (3,b8 pw_uf020006_06 12,(ofString "has_form"),true,[lo "thing"],[],0),
 (4,b8 pw_uf020006_06 13,(ofString "is_within"),true,[lo "thing",ce "deep"],[2],200000000000000000000),
 (5,b8 pw_uf020006_06 14,(ofString "is_saying"),true,[lo "thing"],[],0),
 (6,b8 pw_uf020006_06 15,(ofString "own_bonds"),true,[lo "saying",lo "ahead"],[],0),
 (500,b8 pw_uf020006_06 16,(ofString "bonds_in"),true,[lo "saying",ce "found",lo "part"],[3,4],4000010000000000000000000000003000010000000000000000000100000),
 (7,b8 pw_uf020006_06 17,(ofString "need_saying"),true,[lo "saying"],[],0),
 (8,b8 pw_uf020006_06 19,(ofString "all_guesses"),true,[lo "bonds",lo "found",lo "bond"],[3,4],40000000003000000000000000000000000000000),
 (9,b8 pw_uf020006_06 20,(ofString "guessed"),true,[lo "bond",lo "bonds",lo "guess"],[],0),
 (10,b8 pw_uf020006_06 21,(ofString "is_so"),true,[lo "saying",lo "mark",lo "bonds",lo "guess",lo "word"],[],0),
 (11,b8 pw_uf020006_06 22,(ofString "wanted"),true,[lo "bond",lo "bonds",lo "now",lo "then"],[],0),
 (12,b8 pw_uf020006_06 23,(ofString "goes_on"),true,[lo "bonds",lo "now",lo "then",lo "bond"],[],0),
 (13,b8 pw_uf020006_06 24,(ofString "promises_of"),true,[lo "saying"],[1],100000),
 (14,b8 pw_uf020006_06 25,(ofString "is_met"),true,[lo "promise",lo "mark",lo "bonds",lo "guess"],[],0),
 (15,b8 pw_uf020006_06 30,(ofString "is_place"),true,[lo "thing",lo "many"],[],0),
 (16,b8 pw_uf020006_06 31,(ofString "need_places"),true,[lo "thing",lo "many",lo "at",lo "place"],[],0),
 (17,b8 pw_uf020006_06 34,(ofString "_law_cell_at"),true,[lo "_law_script",lo "_law_k"],[],0),
 (18,b8 pw_uf020006_06 35,(ofString "_law_draw"),true,[lo "_law_script",lo "_law_spot",lo "_law_k"],[],0),
 (19,b8 pw_uf020006_06 36,(ofString "_law_names"),true,[ce "_law_cell",ce "_law_letters",ce "_law_rest",ce "_law_size",lo "_law_at",lo "_law_found",lo "_law_k",lo "_law_letter"],[8,9],600000000010000000000000000000000000000000000100000000000000000000000000000000000000090000000000000000000000000000000000800000000000000000000),
 (20,b8 pw_uf020006_06 37,(ofString "_law_made"),true,[lo "_law_script",lo "_law_spot",lo "_law_names_here",lo "_law_deep",lo "_law_cell",lo "_law_more",lo "_law_kinds",lo "_law_kind",lo "_law_one"],[],0),
 (21,b8 pw_uf020006_06 38,(ofString "_law_all"),true,[lo "_law_saying",lo "_law_found",lo "_law_part"],[],0),
 (22,b8 pw_uf020006_06 39,(ofString "_law_bonds"),true,[lo "_law_saying",ce "_law_found",lo "_law_one",lo "_law_more"],[4],40000000000000000000000000000000000000000000000000000000000000000000000000000000000000000000000000000000000000000000),
 (23,b8 pw_uf020006_06 40,(ofString "_law_fit"),true,[lo "_law_saying",lo "_law_most"],[],4000000),
 (24,b8 pw_uf020006_06 41,(ofString "_law_some"),true,[lo "_law_cell",lo "_law_many",lo "_law_first",lo "_law_rest",lo "_law_found",lo "_law_k"],[],50000000000000000000000000000010000000000000000000000001000000000000000),
 (25,b8 pw_uf020006_06 42,(ofString "_law_machine"),true,[lo "_law_script",lo "_law_spot",lo "_law_names_here",lo "_law_most",lo "_law_many",lo "_law_some_here",lo "_law_marks",lo "_law_ways",lo "_law_k",lo "_law_cell"],[],700008000000000000007000080000000000000000000000001000000000000001000000000000000000000000000001000000000100000000000000000000000000000000000),
 (26,b8 pw_uf020006_06 43,(ofString "_law_so"),true,[lo "_law_saying",ce "_law_mark",ce "_law_bonds_here",ce "_law_guess",lo "_law_word",lo "_law_parts"],[6],60000000002000000000000000000000000000000000000000000000000000000000000000000000000000000000000000000000000000000000),
 (27,b8 pw_uf020006_06 44,(ofString "_law_on"),true,[ce "_law_bonds_here",ce "_law_mark",ce "_law_guess",lo "_law_after",lo "_law_other",lo "_law_k",lo "_law_bond",lo "_law_parts",lo "_law_due"],[9],900000000020000000000),
 (28,b8 pw_uf020006_06 45,(ofString "_law_meets"),true,[lo "_law_promise",lo "_law_mark",lo "_law_bonds_here",lo "_law_guess",lo "_law_truth"],[],0),
 (29,b8 pw_uf020006_06 46,(ofString "_law_guesses"),true,[lo "_law_many",lo "_law_found",lo "_law_k"],[],0),
 (30,b8 pw_uf020006_06 47,(ofString "_law_longer"),true,[lo "_law_found",lo "_law_rows",lo "_law_row"],[],200000000010000000000000000000100000),
 (31,b8 pw_uf020006_06 48,(ofString "_law_behind"),true,[lo "_law_drawn",lo "_law_bonds_here",lo "_law_knot",lo "_law_marks",lo "_law_ways",lo "_law_found",lo "_law_place",lo "_law_guess"],[],600000000000000000000000010000000000000000000000000000000000000000000000000000000000000000000001000000000100000),
 (501,b8 pw_uf020006_06 49,(ofString "_law_begun"),true,[lo "_law_drawn",lo "_law_bonds_here",lo "_law_saying",lo "_law_found",lo "_law_place",lo "_law_guess"],[],1000000000000000000000000000000000000000000000000000000100000),
 (32,b8 pw_uf020006_06 50,(ofString "_law_like"),true,[lo "_law_found",lo "_law_due"],[],0),
 (33,b8 pw_uf020006_06 51,(ofString "_law_right"),true,[lo "_law_web",lo "_law_drawn",lo "_law_saying",lo "_law_bonds_here",lo "_law_promises",ce "_law_due",lo "_law_at",lo "_law_behind_here",lo "_law_knot",lo "_law_number",lo "_law_told",lo "_law_met"],[12,13],1000000000000006000000000000000000000000000013000010000000000000000000000001000000000000000000000000000400000000000000000000010000000000000000000000000000000000000000000000000000000000000001200000000000000000000),
 (999,b8 pw_uf020006_06 52,(ofString "law"),true,[lo "_law_script",lo "_law_spot",lo "_law_names_here",lo "_law_way",lo "_law_drawn",lo "_law_saying",lo "_law_machine_here",lo "_law_web",lo "_law_kept",lo "_law_other",lo "_law_more"],[],0),
 (1001,oG pw_uf020006_06 27 0,(ofString "__init__"),false,[lo "self",lo "machine",lo "saying",lo "place",lo "guess"],[],100000000000000000000000000000000000000000000000000000000000000000),
 (1002,oG pw_uf020006_06 27 1,(ofString "spin"),false,[lo "self",lo "met",lo "at",lo "knot",lo "other"],[5],10000000001000000000100000000010000000000000000000000000000000040000000000000000000000000050000100000),
 (1003,oG pw_uf020006_06 27 2,(ofString "led_to"),false,[lo "self",lo "knot",lo "now",lo "found",ce "place"],[5],40000000000000050000100000000000000000000000010000000000000000000000000),
 (1004,oG pw_uf020006_06 27 3,(ofString "guesses_behind"),false,[ce "self",ce "now",ce "mark",lo "some"],[4],10000000000000000000000000000040000000002000000000100000),
 (1005,oG pw_uf020006_06 27 4,(ofString "meets"),false,[lo "self",lo "knot",lo "number"],[],0),
 (1006,oG pw_uf020006_06 32 0,(ofString "__init__"),false,[lo "self",lo "marks",lo "ways",lo "begins",lo "row"],[5,6],60000000000000000000000000000000000000000000000000000000000000000000000000000000000000000000000000000000050000000000000000000000000),
 (1007,oG pw_uf020006_06 32 1,(ofString "mark"),false,[lo "self",lo "place"],[],0),
 (1008,oG pw_uf020006_06 32 2,(ofString "leads"),false,[lo "self",lo "place"],[],0),
 (1009,oG pw_uf020006_06 32 3,(ofString "starts"),false,[lo "self"],[],0)]
noncomputable def vJ:LT:=([((ofString "is_mark"),1),((ofString "parts_of"),2),((ofString "has_form"),3),((ofString "is_within"),4),((ofString "is_saying"),5),((ofString "own_bonds"),6),((ofString "bonds_in"),500),((ofString "need_saying"),7),((ofString "all_guesses"),8),((ofString "guessed"),9),((ofString "is_so"),10),((ofString "wanted"),11),((ofString "goes_on"),12),((ofString "promises_of"),13),((ofString "is_met"),14),((ofString "is_place"),15),((ofString "need_places"),16),((ofString "_law_cell_at"),17),((ofString "_law_draw"),18),((ofString "_law_names"),19),((ofString "_law_made"),20),((ofString "_law_all"),21),((ofString "_law_bonds"),22),((ofString "_law_fit"),23),((ofString "_law_some"),24),((ofString "_law_machine"),25),((ofString "_law_so"),26),((ofString "_law_on"),27),((ofString "_law_meets"),28),((ofString "_law_guesses"),29),((ofString "_law_longer"),30),((ofString "_law_behind"),31),((ofString "_law_begun"),501),((ofString "_law_like"),32),((ofString "_law_right"),33)],
 [((ofString "__init__"),1006),((ofString "mark"),1007),((ofString "leads"),1008),((ofString "starts"),1009)],[((ofString "__init__"),1001),((ofString "spin"),1002),((ofString "led_to"),1003),((ofString "guesses_behind"),1004),((ofString "meets"),1005)],
 [((ofString "LETTERS"),.str (ofString "abcdefghijklmnopqrstuvwxyz")),((ofString "MOST_BONDS"),.int 4),((ofString "MOST_DEEP"),.int 5),((ofString "MOST_LETTERS"),.int 6),((ofString "MOST_PLACES"),.int 12)])
noncomputable def ks:List Nat:=rows.map (·.1)
theorem FB:pM q Ψ ks jQ vJ:=⟨by kernel_rfl,fun _ _ _ _ _=>by kernel_rfl,fun _ _ _ _ _ _=>by kernel_rfl,fun _ _ _ _ _ _ _=>by kernel_rfl,fun _ _ _ _ _ _ _ _=>by kernel_rfl,fun _ _ _ _ _ _ _ _ _=>by kernel_rfl,by kernel_rfl,fun b=>by cases b<;>kernel_rfl,by kernel_rfl,fun b=>by cases b<;>kernel_rfl,fun b=>by cases b<;>kernel_rfl,by kernel_rfl⟩
theorem yM (P:Pg)(D:f7 P vJ):ks.map (Df D jQ)=ks.map (Dt Ψ):=by kernel_rfl
theorem zh (P:Pg)(D:f7 P vJ)(F:gj)(e:Ψ 35=some F):yg P jQ 35 F.body:=by
 exact nomatch (show (none:Option gj)=some F from e)
theorem BS (P:Pg)(D:f7 P vJ):(Dd D 60 ⟨rt jQ 999,ib jQ 999⟩ ⟨[],kQ jQ 999,false⟩ false (sN jQ 999).tail 1000000000000000000000000000000000000000100000000000000000000000000000000000000000000000000000000000000000000000000000000000000000000000000000000000000).map (·.1.2.1)=some wi:=by kernel_rfl
theorem zS {mean:ExcName->Option Value}{mg mb:Str->Option Value}{h:Heap}(T:Top q (looseW q []) mean mg mb h)(P:Pg):∀p∈vJ.2.2.2,∃u,mg p.1=some u/\∀g h,Rp P g h p.2 u:=all_cons (u4 T (by kernel_rfl) (by decide+kernel)) (all_cons (gY T (by kernel_rfl)) (all_cons (gY T (by kernel_rfl)) (all_cons (gY T (by kernel_rfl)) (all_cons (gY T (by kernel_rfl)) (fun _ h=>nomatch h)))))
theorem Fe:rw_uf020006_06.wellSaid=true:=by kernel_rfl
theorem GD:(chainsOk q&&opensWell rw_uf020006_06.row.prog&&(frees rw_uf020006_06.row.toRowW&&rw_uf020006_06.row.within.isEmpty))=true:=by kernel_rfl
end
end Mine.L06
end
section
set_option tactic.hygienic false
namespace Mine.Ltl
noncomputable section
open PySem
inductive Sy where
 |mark (x:Str)
 |yes
 |not (a:Sy)
 |and (a c:Sy)
 |or (a c:Sy)
 |next (a:Sy)
 |till (a c:Sy)
 |always (a:Sy)
 |again (a:Sy)
noncomputable instance:DecidableEq Sy:=fun a b=>Classical.propDecidable (a=b)
noncomputable def nx (n b i:Nat):Nat:=if i+1=n then b else i+1
noncomputable def U (n b:Nat)(p q:Nat->Bool):Nat->Nat->Bool
 | 0,_=>false
 |k+1,i=>q i||(p i&&U n b p q k (nx n b i))
noncomputable def it (n b:Nat):Nat->Nat->Nat
 | 0,i=>i
 |t+1,i=>it n b t (nx n b i)
theorem yd {n b:Nat}{p q:Nat->Bool}:∀{k i:Nat},U n b p q k i=true↔∃t,t < k/\q (it n b t i)=true/\∀u,u < t->p (it n b u i)=true
 | 0,i=>by simp [U]
 |k+1,i=>by
  rw [U,or_eq_true,and_eq_true,yd]
  constructor
  .rintro (h | ⟨h,t,h1,h2,h3⟩)
   .exact ⟨0,by lia,h,fun u hu=>by lia⟩
   .refine ⟨t+1,by lia,h2,fun u hu=>?_⟩
    cases u with
    |zero=>exact h
    |succ u=>exact h3 u (by lia)
  .rintro ⟨t,h1,h2,h3⟩
   cases t with
   |zero=>exact .inl h2
   |succ t=>exact .inr ⟨h3 0 (by lia),t,by lia,h2,fun u hu=>h3 (u+1) (by lia)⟩
theorem DF {n b i:Nat}(hb:b < n)(hi:i < n):nx n b i < n:=by
 unfold nx;split<;>lia
theorem oU {n b:Nat}:∀(s t i:Nat),it n b (s+t) i=it n b t (it n b s i)
 | 0,t,i=>by simp [it]
 |s+1,t,i=>by rw [show s+1+t=(s+t)+1 by lia,it,it,oU s t]
theorem sj {n b:Nat}(hb:b < n):∀(t i:Nat),i+t<=b->it n b t i=i+t
 | 0,i,_=>rfl
 |t+1,i,h=>by
  rw [it,show nx n b i=i+1 by unfold nx;rw [if_neg (by lia)],sj hb t (i+1) (by lia)];lia
theorem er {n b:Nat}(hb:b < n):∀(t r:Nat),r < n - b->it n b t (b+r)=b+(r+t) % (n - b)
 | 0,r,h=>by simp [it,Nat.mod_eq_of_lt h]
 |t+1,r,h=>by
  rw [it]
  by_cases e:b+r+1=n
  .rw [show nx n b (b+r)=b+0 by unfold nx;rw [if_pos e];rfl,er hb t 0 (sub_pos_of_lt hb)]
   have:r+(t+1)=(0+t)+(n - b):=by lia
   rw [this,Nat.add_mod_right]
  .rw [show nx n b (b+r)=b+(r+1) by unfold nx;rw [if_neg e];rfl,er hb t (r+1) (by lia)]
   rw [add_assoc,add_comm 1 t]
theorem uQ {n b:Nat}(hb:b < n){i t:Nat}(hi:i < n)(ht:b - i<=t):it n b (t+(n - b)) i=it n b t i:=by
 by_cases h:b<=i
 .obtain ⟨r,rfl⟩:=exists_eq_add_of_le h
  rw [er hb _ r (by lia),er hb _ r (by lia),<-add_assoc,Nat.add_mod_right]
 .have e:it n b (b - i) i=b+0:=by rw [sj hb _ _ (by lia)];lia
  obtain ⟨u,rfl⟩:=exists_eq_add_of_le ht
  have e1:it n b (b - i+u) i=it n b u (b+0):=by rw [oU,e]
  have e2:it n b (b - i+u+(n - b)) i=it n b (u+(n - b)) (b+0):=by rw [add_assoc,oU,e]
  rw [e1,e2,er hb _ 0 (sub_pos_of_lt hb),er hb _ 0 (sub_pos_of_lt hb),<-add_assoc,Nat.add_mod_right]
theorem FQ {n b:Nat}{p q:Nat->Bool}{k k' i:Nat}(h:k<=k')(hu:U n b p q k i=true):U n b p q k' i=true:=by
 rw [yd] at hu ⊢
 obtain ⟨t,h1,h2⟩:=hu
 exact ⟨t,by lia,h2⟩
theorem EV {n b:Nat}{p q:Nat->Bool}(hb:b < n){i:Nat}(hi:i < n):∀(t:Nat),q (it n b t i)=true->(∀u,u < t->p (it n b u i)=true)->U n b p q ((b - i)+(n - b)) i=true:=by
 intro t
 induction t using Nat.strongRecOn with
 |ind t ih=>
  intro h1 h2
  by_cases ht:t < (b - i)+(n - b)
  .exact yd.mpr ⟨t,ht,h1,h2⟩
  .have ht:=cH ht
   have L:=le_trans (le_add_left _ _) ht
   have p:=sub_pos_of_lt hb
   refine ih (t - (n - b)) (Nat.sub_lt (lt_of_lt_of_le p L) p) ?_ fun u hu=>h2 u (lt_of_lt_of_le hu (Nat.sub_le _ _))
   have:=uQ hb (t:=t - (n - b)) hi (Nat.le_sub_of_add_le ht)
   rw [Nat.sub_add_cancel L] at this
   rw [<-this];exact h1
noncomputable def og (p q:Nat->Bool):List Nat->Bool
 | []=>false
 |k::m=>q k||(p k&&og p q m)
theorem nh {n b:Nat}{p q:Nat->Bool}:∀(m i:Nat),i+m=n->og p q (range' i m)=U n b p q m i
 | 0,_,_=>rfl
 |m+1,i,h=>by
  rw [range'_succ,og,U]
  by_cases e:i+1=n
  .obtain rfl:m=0:=by lia
   rfl
  .rw [nh (n:=n) (b:=b) m (i+1) (by lia)]
   unfold nx;rw [if_neg e]
theorem pZ {n b:Nat}{p q:Nat->Bool}(hb:b < n):∀(m i:Nat),i+(m+1)=n->og p q (range' i (m+1)++range' b (n - b))=U n b p q ((m+1)+(n - b)) i
 | 0,i,h=>by
  rw [range'_succ,List.range'_zero,cons_append,List.nil_append,og,nh (b:=b) (n:=n) _ b (by lia),show 0+1+(n - b)=(n - b)+1 by lia,U]
  unfold nx;rw [if_pos (by lia)]
 |m+1,i,h=>by
  rw [range'_succ,cons_append,og,pZ hb m (i+1) (by lia),show m+1+1+(n - b)=(m+1+(n - b))+1 by lia,U]
  unfold nx;rw [if_neg (by lia)]
theorem Dm {n b i:Nat}{p q:Nat->Bool}(hb:b < n)(hi:i < n):og p q (range' i (n - i)++range' b (n - b))=U n b p q ((n - i)+(n - b)) i:=by
 obtain ⟨m,hm⟩:∃m,n - i=m+1:=⟨n - i - 1,(Nat.sub_add_cancel (sub_pos_of_lt hi)).symm⟩
 rw [hm];exact pZ hb m i (by lia)
theorem uu {q:Nat->Bool}:∀m,og (fun _=>true) (fun j=>!q j) m=!m.all q
 | []=>rfl
 |k::m=>by rw [og,uu m,List.all_cons];cases q k<;>rfl
theorem wC {n b i:Nat}:i∈(List.range n).drop b↔b<=i/\i < n:=by
 rw [List.mem_drop_iff_getElem]
 constructor
 .rintro ⟨j,hj,rfl⟩
  simp at hj ⊢;lia
 .rintro ⟨h1,h2⟩
  refine ⟨i - b,by simp;lia,by simp;lia⟩
noncomputable def bQ:Sy->List Sy
 |.next a=>[.next a]
 |.till a c=>[.till a c]
 |.always a=>[.always a]
 |.again a=>[.till .yes a,.always (.till .yes a)]
 |_=>[]
noncomputable def bu:Sy->List Sy
 |.mark _=>[]
 |.yes=>[]
 |.not a=>[a]
 |.and a c=>[a,c]
 |.or a c=>[a,c]
 |.next a=>[a]
 |.till a c=>[a,c]
 |.always a=>[a]
 |.again a=>[a]
noncomputable def ext (f xs:List Sy):List Sy:=f++xs.filter fun x=>!f.contains x
noncomputable def ao:Sy->List Sy
 |.mark x=>ext [] (bQ (.mark x))
 |.yes=>ext [] (bQ .yes)
 |.not a=>ext (ext [] (ao a)) (bQ (.not a))
 |.and a c=>ext (ext (ext [] (ao a)) (ao c)) (bQ (.and a c))
 |.or a c=>ext (ext (ext [] (ao a)) (ao c)) (bQ (.or a c))
 |.next a=>ext (ext [] (ao a)) (bQ (.next a))
 |.till a c=>ext (ext (ext [] (ao a)) (ao c)) (bQ (.till a c))
 |.always a=>ext (ext [] (ao a)) (bQ (.always a))
 |.again a=>ext (ext [] (ao a)) (bQ (.again a))
noncomputable def all:Sy->List Sy
 |.mark x=>[.mark x]
 |.yes=>[.yes]
 |.not a=>.not a::all a
 |.and a c=>.and a c::(all a++all c)
 |.or a c=>.or a c::(all a++all c)
 |.next a=>.next a::all a
 |.till a c=>.till a c::(all a++all c)
 |.always a=>.always a::all a
 |.again a=>.again a::all a
noncomputable def lb (s:Sy):List Sy:=(all s).foldl (fun f t=>ext f (bQ t)) []
theorem i8 {f xs:List Sy}{x:Sy}:x∈ext f xs↔x∈f\/x∈xs:=by
 simp only [ext,mem_append,List.mem_filter,not_eq_true',List.contains_eq_mem,decide_eq_false_iff_not]
 constructor
 .rintro (h |h)
  .exact .inl h
  .exact .inr h.1
 .rintro (h |h)
  .exact .inl h
  .by_cases q:x∈f
   .exact .inl q
   .exact .inr ⟨h,q⟩
theorem aV {f xs:List Sy}(h1:f.Nodup)(h2:xs.Nodup):(ext f xs).Nodup:=by
 rw [ext,nodup_append]
 refine ⟨h1,h2.filter _,fun a ha b hb e=>?_⟩
 subst e
 simp [ha] at hb
theorem cg (s:Sy):(bQ s).Nodup:=by
 cases s with
 |again a=>exact nodup_cons.mpr ⟨fun h=>(nomatch aa h),pairwise_singleton _ _⟩
 |next |till |always=>exact pairwise_singleton _ _
 |_=>exact .nil
theorem iX (s:Sy):s∈all s:=by cases s<;>exact .head _
theorem aX:∀s:Sy,(ao s).Nodup
 |.mark x=>aV .nil (cg _)
 |.yes=>aV .nil (cg _)
 |.not a=>aV (aV .nil (aX a)) (cg _)
 |.and a c=>aV (aV (aV .nil (aX a)) (aX c)) (cg _)
 |.or a c=>aV (aV (aV .nil (aX a)) (aX c)) (cg _)
 |.next a=>aV (aV .nil (aX a)) (cg _)
 |.till a c=>aV (aV (aV .nil (aX a)) (aX c)) (cg _)
 |.always a=>aV (aV .nil (aX a)) (cg _)
 |.again a=>aV (aV .nil (aX a)) (cg _)
theorem y7 {x s:Sy}{f l:List Sy}(ih:x∈f↔∃t∈l,x∈bQ t):x∈ext f (bQ s)↔∃t∈s::l,x∈bQ t:=by
 rw [i8,ih]
 exact ⟨fun h=>h.elim (fun ⟨t,a,b⟩=>⟨t,.tail _ a,b⟩) fun b=>⟨s,.head _,b⟩,fun ⟨t,a,b⟩=>(an a).elim (fun e=>.inr (e▸b)) fun a=>.inl ⟨t,a,b⟩⟩
theorem yr {x:Sy}{f g l m:List Sy}(ih:x∈f↔∃t∈l,x∈bQ t)(ih':x∈g↔∃t∈m,x∈bQ t):x∈ext f g↔∃t∈l++m,x∈bQ t:=by
 rw [i8,ih,ih']
 exact ⟨fun h=>h.elim (fun ⟨t,a,b⟩=>⟨t,mem_append_left _ a,b⟩) fun ⟨t,a,b⟩=>⟨t,mem_append_right _ a,b⟩,fun ⟨t,a,b⟩=>(ak a).elim (fun a=>.inl ⟨t,a,b⟩) fun a=>.inr ⟨t,a,b⟩⟩
theorem y8 {x:Sy}:x∈([]:List Sy)↔∃t∈([]:List Sy),x∈bQ t:=⟨fun h=>(nomatch h),fun ⟨_,h,_⟩=>(nomatch h)⟩
theorem aQ {x:Sy}:∀{s:Sy},x∈ao s↔∃t∈all s,x∈bQ t
 |.mark _=>y7 y8
 |.yes=>y7 y8
 |.not a=>y7 (yr y8 (aQ (s:=a)))
 |.and a c=>y7 (yr (yr y8 (aQ (s:=a))) (aQ (s:=c)))
 |.or a c=>y7 (yr (yr y8 (aQ (s:=a))) (aQ (s:=c)))
 |.next a=>y7 (yr y8 (aQ (s:=a)))
 |.till a c=>y7 (yr (yr y8 (aQ (s:=a))) (aQ (s:=c)))
 |.always a=>y7 (yr y8 (aQ (s:=a)))
 |.again a=>y7 (yr y8 (aQ (s:=a)))
theorem wP:∀(ts f:List Sy),f.Nodup->(ts.foldl (fun f t=>ext f (bQ t)) f).Nodup/\∀x,x∈ts.foldl (fun f t=>ext f (bQ t)) f↔x∈f\/∃t∈ts,x∈bQ t
 | [],f,h=>⟨h,fun x=>by simp⟩
 |t::r,f,h=>by
  obtain ⟨h1,h2⟩:=wP r (ext f (bQ t)) (aV h (cg t))
  refine ⟨h1,fun x=>?_⟩
  simp only [List.foldl_cons]
  rw [h2,i8]
  simp [or_assoc]
theorem BQ (s:Sy):(lb s).length=(ao s).length:=by
 obtain ⟨h1,h2⟩:=wP (all s) [] .nil
 refine ((List.perm_ext_iff_of_nodup h1 (aX s)).mpr fun x=>?_).length_eq
 rw [h2,aQ];simp
noncomputable def look (bs:List Sy)(g:List Bool)(x:Sy):Bool:=(g[bs.idxOf x]?).getD false
noncomputable def so (m:Str)(bs:List Sy)(g:List Bool):Sy->Bool
 |.mark x=>PyData.eqv (.str m) (.str x)
 |.yes=>true
 |.not a=>!so m bs g a
 |.and a c=>so m bs g a&&so m bs g c
 |.or a c=>so m bs g a||so m bs g c
 |.next a=>look bs g (.next a)
 |.till a c=>look bs g (.till a c)
 |.always a=>look bs g (.always a)
 |.again a=>look bs g (.always (.till .yes a))
noncomputable def fg (bs:List Sy)(m:Str)(g:List Bool)(m':Str)(g':List Bool):Sy->Bool
 |.next a=>so m' bs g' a
 |.till a c=>so m bs g c||(so m bs g a&&look bs g' (.till a c))
 |.always a=>so m bs g a&&look bs g' (.always a)
 |_=>false
noncomputable def o3 (bs:List Sy)(m:Str)(g:List Bool)(m':Str)(g':List Bool):Bool:=bs.all fun x=>look bs g x==fg bs m g m' g' x
noncomputable def dD (bs:List Sy)(m:Str)(g:List Bool):Sy->Bool
 |.till a c=>!look bs g (.till a c)||so m bs g c
 |.always a=>look bs g (.always a)||!so m bs g a
 |_=>true
section
variable {bs:List Sy} {m m':Str} {g g':List Bool} {a c:Sy}
theorem pP:fg bs m g m' g' (.next a)=so m' bs g' a:=rfl
theorem jK:fg bs m g m' g' (.till a c)=(so m bs g c||(so m bs g a&&look bs g' (.till a c))):=rfl
theorem ia:fg bs m g m' g' (.always a)=(so m bs g a&&look bs g' (.always a)):=rfl
theorem qo:dD bs m g (.till a c)=(!look bs g (.till a c)||so m bs g c):=rfl
theorem lq:dD bs m g (.always a)=(look bs g (.always a)||!so m bs g a):=rfl
end
noncomputable def dw (bs:List Sy)(s:Sy):Prop:=∀t∈all s,∀x∈bQ t,x∈bs
theorem gM {s p t:Sy}(hp:p∈bu s)(ht:t∈all p):t∈all s:=by
 cases s with
 |mark |yes=>cases hp
 |not |next |always |again=>cases aa hp;exact .tail _ ht
 |and |or |till=>
  refine .tail _ ?_
  rcases an hp with rfl |hp
  .exact mem_append_left _ ht
  .cases aa hp;exact mem_append_right _ ht
theorem bX {bs:List Sy}{s p:Sy}(h:dw bs s)(hp:p∈bu s):dw bs p:=fun t ht x hx=>h t (gM hp ht) x hx
theorem bq {bs:List Sy}{s:Sy}(h:dw bs s):∀x∈bQ s,x∈bs:=h s (iX s)
theorem fX (s:Sy):dw (ao s) s:=fun t ht x hx=>aQ.mpr ⟨t,ht,hx⟩
theorem ER {s a t u:Sy}(h:t∈s::all a)(k:u∈all t)(e:all s=s::all a)(ih:t∈all a->u∈all a):u∈s::all a:=(an h).elim (fun q=>e▸q▸k) fun h=>.tail _ (ih h)
theorem FM {s a c t u:Sy}(h:t∈s::(all a++all c))(k:u∈all t)(e:all s=s::(all a++all c))(ih:t∈all a->u∈all a)(ih':t∈all c->u∈all c):u∈s::(all a++all c):=
 (an h).elim (fun q=>e▸q▸k) fun h=>.tail _ ((ak h).elim (fun h=>mem_append_left _ (ih h)) fun h=>mem_append_right _ (ih' h))
theorem bT:∀{s t u:Sy},t∈all s->u∈all t->u∈all s
 |.mark x,t,u,h,k=>aa h▸k
 |.yes,t,u,h,k=>aa h▸k
 |.not a,t,u,h,k=>ER h k rfl fun h=>bT h k
 |.and a c,t,u,h,k=>FM h k rfl (fun h=>bT h k) fun h=>bT h k
 |.or a c,t,u,h,k=>FM h k rfl (fun h=>bT h k) fun h=>bT h k
 |.next a,t,u,h,k=>ER h k rfl fun h=>bT h k
 |.till a c,t,u,h,k=>FM h k rfl (fun h=>bT h k) fun h=>bT h k
 |.always a,t,u,h,k=>ER h k rfl fun h=>bT h k
 |.again a,t,u,h,k=>ER h k rfl fun h=>bT h k
theorem sE {bs:List Sy}{s t:Sy}(h:dw bs s)(ht:t∈all s):dw bs t:=fun u hu x hx=>h u (bT ht hu) x hx
theorem fZ {s x p:Sy}(hx:x∈ao s)(hp:p∈bu x):dw (ao s) p:=by
 obtain ⟨t,ht,hx'⟩:=aQ.mp hx
 have ct:=sE (fX s) ht
 cases t with
 |next |till |always=>cases aa hx';exact bX ct hp
 |again a=>
  have ca:dw (ao s) a:=bX ct (.head _)
  have cy:dw (ao s) .yes:=fun u hu y hy=>by cases aa hu;cases hy
  rcases an hx' with rfl |hx'
  .rcases an hp with rfl |hp
   .exact cy
   .cases aa hp;exact ca
  .cases aa hx'
   cases aa hp
   intro u hu y hy
   rcases an hu with rfl |hu
   .cases aa hy;exact aQ.mpr ⟨_,ht,.head _⟩
   .exact (ak hu).elim (fun hu=>cy u hu y hy) fun hu=>ca u hu y hy
 |_=>cases hx'
theorem cG {s x:Sy}(hx:x∈ao s):(∃a,x=.next a)\/(∃a c,x=.till a c)\/∃a,x=.always a:=by
 obtain ⟨t,_,hx'⟩:=aQ.mp hx
 cases t with
 |next=>exact .inl ⟨_,aa hx'⟩
 |till=>exact .inr (.inl ⟨_,_,aa hx'⟩)
 |always=>exact .inr (.inr ⟨_,aa hx'⟩)
 |again=>
  rcases an hx' with h |h
  .exact .inr (.inl ⟨_,_,h⟩)
  .exact .inr (.inr ⟨_,aa h⟩)
 |_=>cases hx'
theorem DQ {n b:Nat}(hb:b < n):∀(t i:Nat),i < n->it n b t i < n
 | 0,_,h=>h
 |t+1,i,h=>DQ hb t _ (DF hb h)
theorem Bo {n b i j:Nat}(hb:b < n)(hi:i < n)(h1:b<=j)(h2:j < n):∃t,it n b t i=j:=by
 obtain ⟨s,rfl⟩:=exists_eq_add_of_le h1
 have hs:s < n - b:=Nat.lt_sub_of_add_lt (by rw [add_comm];exact h2)
 by_cases h:b<=i
 .obtain ⟨r,rfl⟩:=exists_eq_add_of_le h
  have hr:r < n - b:=Nat.lt_sub_of_add_lt (by rw [add_comm];exact hi)
  exact ⟨s+(n - b - r),by rw [er hb _ r hr,Nat.add_left_comm,Nat.add_sub_cancel' (le_of_lt hr),Nat.add_mod_right,Nat.mod_eq_of_lt hs]⟩
 .have h:=le_of_lt (Nat.not_le.mp h)
  exact ⟨(b - i)+s,by
   rw [oU,sj hb (b - i) i (le_of_eq (Nat.add_sub_cancel' h)),Nat.add_sub_cancel' h]
   exact (er hb s 0 (sub_pos_of_lt hb)).trans (by rw [zero_add,Nat.mod_eq_of_lt hs])⟩
theorem CM {n b:Nat}(hb:b < n){j:Nat}(h1:b<=j)(h2:j < n)(t:Nat):b<=it n b t j:=by
 obtain ⟨r,rfl⟩:=exists_eq_add_of_le h1
 rw [er hb _ r (by lia)];lia
end
end Mine.Ltl
end
section
set_option tactic.hygienic false
section
namespace Mine
noncomputable section
section
variable {α:Type} {th:α->List α}
inductive mx (th:α->List α):α->α->Prop
 |refl (a:α):mx th a a
 |step {a b c:α}:b∈th a->mx th b c->mx th a c
theorem mx.trans {a b c:α}(h:mx th a b)(h':mx th b c):mx th a c:=by
 induction h with
 |refl=>exact h'
 |step e _ ih=>exact .step e (ih h')
theorem mx.one {a b:α}(h:b∈th a):mx th a b:=.step h (.refl _)
inductive gQ (th:α->List α) (P:α->Prop):α->α->Prop
 |refl {a:α}:P a->gQ th P a a
 |step {a b c:α}:P a->b∈th a->gQ th P b c->gQ th P a c
theorem gQ.mono {P Q:α->Prop}(h:∀a,P a->Q a){a b:α}(r:gQ th P a b):gQ th Q a b:=by
 induction r with
 |refl p=>exact .refl (h _ p)
 |step p e _ ih=>exact .step (h _ p) e ih
noncomputable def FU (th:α->List α)(L:List α):Prop:=∀A x B,L=A++x::B->∀u∈A++[x],∀v∈th u,v∈A++[x]\/mx th v x
inductive pJ (th:α->List α) (P:α->Prop):Nat->α->α->Prop
 |refl {a:α}:P a->pJ th P 0 a a
 |step {n:Nat} {a b c:α}:P a->b∈th a->pJ th P n b c->pJ th P (n+1) a c
theorem gQ.n {P:α->Prop}{a b:α}(r:gQ th P a b):∃n,pJ th P n a b:=by
 induction r with
 |refl p=>exact ⟨0,.refl p⟩
 |step p e _ ih=>obtain ⟨n,h⟩:=ih;exact ⟨n+1,.step p e h⟩
theorem pJ.head {P:α->Prop}{n:Nat}{a b:α}(r:pJ th P n a b):P a:=by cases r<;>assumption
theorem uD {A:List α}{x:α}(h:∀u∈A++[x],∀v∈th u,v∈A++[x]\/mx th v x){P:α->Prop}{s:α}:∀{n:Nat} {y:α},pJ th P n y s->y∈A++[x]->s∈A++[x]\/∃v m,m < n/\mx th v x/\pJ th P m v s:=by
 intro n y r
 induction r with
 |refl _=>exact .inl
 |step p e r ih=>
  intro hy
  rcases h _ hy _ e with h1 |h1
  .rcases ih h1 with h2 | ⟨v,m,h2,h3,h4⟩
   .exact .inl h2
   .exact .inr ⟨v,m,Nat.lt_succ_of_lt h2,h3,h4⟩
  .exact .inr ⟨_,_,Nat.lt_succ_self _,h1,r⟩
theorem wk {L A B:List α}{s:α}(h:FU th L)(hn:L.Nodup)(e:L=A++s::B):∀(n:Nat) (y:α),pJ th (fun a=>a∈A++[s]) n y s->mx th s y:=by
 intro n
 induction n using Nat.strongRecOn with
 |ind n ih=>
  intro y r
  rcases ak r.head with hy |hy
  .obtain ⟨A',A'',rfl⟩:=List.append_of_mem hy
   have sA:s∉A'++[y]:=fun q=>by
    rw [e] at hn
    refine (aL hn).2.2 s ?_ s (.head _) rfl
    rcases ak q with q |q
    .exact mem_append_left _ q
    .exact mem_append_right _ (aa q▸.head _)
   have h1:=h A' y (A''++s::B) (by rw [e,List.append_assoc];rfl)
   rcases uD h1 r (mem_append_right _ (.head _)) with h2 | ⟨v,m,h2,h3,h4⟩
   .exact absurd h2 sA
   .exact (ih m h2 v h4).trans h3
  .rw [aa hy];exact .refl _
end
section
variable {α:Type} {th:α->List α} {K:List α}
structure ue (th:α->List α) (K found:List α) (st:List (α×Nat)) (dD:List α):Prop where
 sub:∀x∈dD,x∈K
 same:∀x,x∈dD↔x∈found\/x∈st.map Prod.fst
 nd:(found++st.map Prod.fst).Nodup
 fin:∀x∈found,∀y∈th x,y∈dD
 take:∀p∈st,p.2<=(th p.1).length/\∀y∈(th p.1).take p.2,y∈dD
 chain:∀A p B,st=A++p::B->∀q∈A,mx th q.1 p.1
 ord:FU th found
 ndm:dD.Nodup
theorem ue.nil:ue th K [] [] []:=⟨fun _ h=>(nomatch h),fun x=>(by simp),.nil,fun _ h=>(nomatch h),fun _ h=>(nomatch h),fun A p B e=>(by simp at e),fun A x B e=>(by simp at e),.nil⟩
theorem eF {w:Type}{S A B:List w}{p q:w}(h:S++[p]=A++q::B):(A=S/\q=p/\B=[])\/∃B',B=B'++[p]/\S=A++q::B':=by
 rcases List.eq_nil_or_concat B with rfl | ⟨B',b,rfl⟩
 .have:=List.append_inj' h rfl
  exact .inl ⟨this.1.symm,(List.singleton_inj.mp this.2).symm,rfl⟩
 .rw [concat_eq_append] at h ⊢
  have h2:S++[p]=(A++q::B')++[b]:=by rw [h,List.append_assoc];rfl
  have:=List.append_inj' h2 rfl
  exact .inr ⟨B',by rw [List.singleton_inj.mp this.2],this.1⟩
theorem ue.start {found dD:List α}{s:α}(D:ue th K found [] dD)(hs:s∈K)(hm:s∉dD):ue th K found [(s,0)] (dD++[s]) where
 sub x hx:=(ak hx).elim (D.sub x) fun h=>aa h▸hs
 same x:=by rw [mem_append,D.same];simp
 nd:=by
  have:=D.nd
  rw [map_nil,append_nil] at this
  show (found++[s]).Nodup
  rw [nodup_append]
  exact ⟨this,by simp,fun a ha b hb q=>hm ((D.same s).mpr (.inl (by rw [<-aa hb,<-q];exact ha)))⟩
 fin x hx y hy:=mem_append_left _ (D.fin x hx y hy)
 take p hp:=by cases aa hp;exact ⟨zero_le _,fun y hy=>by rw [List.take_zero] at hy;cases hy⟩
 chain A p B e q hq:=by
  rcases A with _ | ⟨a,A⟩
  .cases hq
  .simp at e
 ord:=D.ord
 ndm:=by rw [nodup_append];exact ⟨D.ndm,by simp,fun a ha b hb q=>hm (by rw [<-aa hb,<-q];exact ha)⟩
theorem ue.leave {found dD:List α}{S:List (α×Nat)}{k:α}{n:Nat}(D:ue th K found (S++[(k,n)]) dD)(hn:n=(th k).length):ue th K (found++[k]) S dD where
 sub:=D.sub
 same x:=by rw [D.same];simp [or_assoc,or_comm,or_left_comm]
 nd:=by
  have:=D.nd
  rw [map_append,<-List.append_assoc] at this
  have h1:=aL this
  rw [List.append_assoc]
  have h2:=aL h1.1
  rw [nodup_append]
  refine ⟨h2.1,nodup_cons.mpr ⟨fun q=>h1.2.2 k (mem_append_right _ q) k (.head _) rfl,h2.2.1⟩,fun a ha b hb q=>?_⟩
  rcases an hb with hb |hb
  .exact h1.2.2 a (mem_append_left _ ha) b (by rw [hb];exact .head _) q
  .exact h2.2.2 a ha b hb q
 fin x hx y hy:=by
  rcases ak hx with hx |hx
  .exact D.fin x hx y hy
  .rw [aa hx] at hy
   refine (D.take (k,n) (mem_append_right _ (.head _))).2 y ?_
   rw [hn,take_length];exact hy
 take p hp:=D.take p (mem_append_left _ hp)
 chain A p B e q hq:=D.chain A p (B++[(k,n)]) (by rw [e,List.append_assoc];rfl) q hq
 ord A x B e:=by
  rcases eF e with ⟨rfl,rfl,rfl⟩ | ⟨B',rfl,e'⟩
  .intro u hu v hv
   have hv':v∈dD:=by
    rcases ak hu with hu |hu
    .exact D.fin u hu v hv
    .rw [aa hu] at hv
     refine (D.take (x,n) (mem_append_right _ (.head _))).2 v ?_
     rw [hn,take_length];exact hv
   rcases (D.same v).mp hv' with h |h
   .exact .inl (mem_append_left _ h)
   .rw [map_append] at h
    rcases ak h with h |h
    .obtain ⟨q,hq,rfl⟩:=aF h
     exact .inr (D.chain S (x,n) [] rfl q hq)
    .exact .inl (mem_append_right _ h)
  .exact D.ord A x B' e'
 ndm:=D.ndm
theorem ue.on {found dD:List α}{S:List (α×Nat)}{k y:α}{n:Nat}(D:ue th K found (S++[(k,n)]) dD)(hn:(th k)[n]?=some y)(hy:y∈dD):ue th K found (S++[(k,n+1)]) dD where
 sub:=D.sub
 same x:=by have:=D.same x;rw [map_append] at this ⊢;exact this
 nd:=by have:=D.nd;rw [map_append] at this ⊢;exact this
 fin:=D.fin
 take p hp:=by
  rcases ak hp with hp |hp
  .exact D.take p (mem_append_left _ hp)
  .cases aa hp
   have h1:=D.take (k,n) (mem_append_right _ (.head _))
   have h2:=(aj hn).1
   refine ⟨h2,fun z hz=>?_⟩
   rw [List.take_succ,hn] at hz
   rcases ak hz with hz |hz
   .exact h1.2 z hz
   .rw [aa hz];exact hy
 chain A p B e q hq:=by
  rcases eF e with ⟨rfl,rfl,rfl⟩ | ⟨B',rfl,e'⟩
  .exact D.chain A (k,n) [] rfl q hq
  .exact D.chain A p (B'++[(k,n)]) (by rw [e',List.append_assoc];rfl) q hq
 ord:=D.ord
 ndm:=D.ndm
theorem ue.push {found dD:List α}{S:List (α×Nat)}{k y:α}{n:Nat}(D:ue th K found (S++[(k,n)]) dD)(hn:(th k)[n]?=some y)(hk:y∈K)(hy:y∉dD):ue th K found (S++[(k,n+1)]++[(y,0)]) (dD++[y]) where
 sub x hx:=(ak hx).elim (D.sub x) fun h=>aa h▸hk
 same x:=by
  rw [mem_append,D.same,map_append,map_append,map_append]
  simp only [mem_append,map_cons,map_nil,or_assoc]
 nd:=by
  have:=D.nd
  rw [map_append,map_append,<-List.append_assoc]
  rw [map_append] at this
  rw [nodup_append]
  refine ⟨this,by simp,fun a ha b hb q=>hy ((D.same y).mpr ?_)⟩
  have hb:b=y:=aa hb
  rw [<-hb,<-q,map_append];exact ak ha
 fin x hx z hz:=mem_append_left _ (D.fin x hx z hz)
 take p hp:=by
  rcases ak hp with hp |hp
  .rcases ak hp with hp |hp
   .exact (D.take p (mem_append_left _ hp)).imp id fun h z hz=>mem_append_left _ (h z hz)
   .cases aa hp
    have h1:=D.take (k,n) (mem_append_right _ (.head _))
    refine ⟨(aj hn).1,fun z hz=>?_⟩
    rw [List.take_succ,hn] at hz
    rcases ak hz with hz |hz
    .exact mem_append_left _ (h1.2 z hz)
    .exact mem_append_right _ hz
  .cases aa hp
   exact ⟨zero_le _,fun z hz=>by rw [List.take_zero] at hz;cases hz⟩
 chain A p B e q hq:=by
  rcases eF e with ⟨rfl,rfl,rfl⟩ | ⟨B',rfl,e'⟩
  .have ky:mx th k y:=.one (mem_of_getElem? hn)
   rcases ak hq with hq |hq
   .exact (D.chain S (k,n) [] rfl q hq).trans ky
   .cases aa hq;exact ky
  .rcases eF e' with ⟨rfl,rfl,rfl⟩ | ⟨B',rfl,e''⟩
   .exact D.chain A (k,n) [] rfl q hq
   .exact D.chain A p (B'++[(k,n)]) (by rw [e'',List.append_assoc];rfl) q hq
 ord:=D.ord
 ndm:=by rw [nodup_append];exact ⟨D.ndm,by simp,fun a ha b hb q=>hy (by rw [<-aa hb,<-q];exact ha)⟩
end
end
end Mine
end
section
namespace Mine
noncomputable section
section
variable {α:Type} [DecidableEq α] {th:α->List α} {K:List α}
noncomputable def rH (th:α->List α)(dD:List α):List α->Nat
 | []=>0
 |x::r=>(if x∈dD then 0 else (th x).length+2)+rH th dD r
theorem n6 {dD:List α}{x:α}{r:List α}:rH th dD (x::r)=(if x∈dD then 0 else (th x).length+2)+rH th dD r:=rfl
theorem sU {dD:List α}{y:α}:∀K:List α,rH th (dD++[y]) K<=rH th dD K
 | []=>le_refl _
 |x::r=>by
  rw [n6,n6]
  refine Nat.add_le_add ?_ (sU r)
  by_cases h:x∈dD
  .rw [if_pos h,if_pos (mem_append_left _ h)];exact le_refl _
  .rw [if_neg h]
   by_cases h':x∈dD++[y]
   .rw [if_pos h'];exact zero_le _
   .rw [if_neg h'];exact le_refl _
theorem uh {dD:List α}{y:α}(hy:y∉dD):∀{K:List α},y∈K->rH th (dD++[y]) K+((th y).length+2)<=rH th dD K
 |x::r,h=>by
  rw [n6,n6]
  by_cases q:x=y
  .subst q
   rw [if_neg hy,if_pos (mem_append_right _ (.head _)),zero_add,add_comm];exact add_le_add_left (sU r) _
  .have ih:=uh (K:=r) hy ((an h).elim (fun e=>absurd e.symm q) id)
   by_cases hx:x∈dD
   .rw [if_pos hx,if_pos (mem_append_left _ hx),zero_add,zero_add];exact ih
   .rw [if_neg hx,if_neg fun h=>(ak h).elim hx fun h=>q (aa h),add_assoc];exact add_le_add_left ih _
noncomputable def uo (th:α->List α):List (α×Nat)->Nat
 | []=>0
 |p::r=>(th p.1).length - p.2+1+uo th r
omit [DecidableEq α] in
theorem vL {p:α×Nat}{r:List (α×Nat)}:uo th (p::r)=(th p.1).length - p.2+1+uo th r:=rfl
omit [DecidableEq α] in
theorem vM:∀(a b:List (α×Nat)),uo th (a++b)=uo th a+uo th b
 | [],b=>(zero_add _).symm
 |p::a,b=>by rw [cons_append,vL,vL,vM a b,add_assoc (_+1)]
omit [DecidableEq α] in
theorem ba:∀{l m:List α},l.Nodup->(∀x∈l,x∈m)->l.length<=m.length
 | [],m,_,_=>zero_le _
 |x::l,m,hn,hs=>by
  obtain ⟨a,b,rfl⟩:=List.append_of_mem (hs x (.head _))
  have:=ba (l:=l) (m:=a++b) (aK hn).2 fun y hy=>by
   rcases ak (hs y (.tail _ hy)) with h |h
   .exact mem_append_left _ h
   .rcases an h with h |h
    .exact absurd (h▸hy) (aK hn).1
    .exact mem_append_right _ h
  rw [List.length_append] at this ⊢
  rw [length_cons,length_cons];lia
end
section
variable {α:Type} {th:α->List α} {K:List α}
structure C4 (th:α->List α) (K dD:List α) (s:α) (C:List α):Prop where
 nd:(dD++C).Nodup
 sub:∀x∈C,x∈K
 to:∀x∈C,gQ th (fun a=>a∈C) x s
 hd:s∈C
theorem C4.start {dD:List α}{s:α}(hm:dD.Nodup)(hs:s∈K)(h:s∉dD):C4 th K dD s [s] where
 nd:=by rw [nodup_append];exact ⟨hm,by simp,fun a ha b hb q=>h (by rw [<-aa hb,<-q];exact ha)⟩
 sub x hx:=aa hx▸hs
 to x hx:=by rw [aa hx];exact .refl (.head _)
 hd:=.head _
theorem C4.push {dD C:List α}{s y c:α}(H:C4 th K dD s C)(hy:y∉dD++C)(hk:y∈K)(hc:c∈C)(e:c∈th y):C4 th K dD s (C++[y]) where
 nd:=by
  rw [<-List.append_assoc,nodup_append]
  exact ⟨H.nd,by simp,fun a ha b hb q=>hy (by rw [<-aa hb,<-q];exact ha)⟩
 sub x hx:=(ak hx).elim (H.sub x) fun h=>aa h▸hk
 to x hx:=by
  have m:∀a,a∈C->a∈C++[y]:=fun a h=>mem_append_left _ h
  rcases ak hx with h |h
  .exact (H.to x h).mono m
  .rw [aa h];exact .step (mem_append_right _ (.head _)) e ((H.to c hc).mono m)
 hd:=mem_append_left _ H.hd
structure Ao (th:α->List α) (K:List α) (Cs:List (List α)):Prop where
 nd:Cs.flatten.Nodup
 sub:∀x∈Cs.flatten,x∈K
 ne:∀C∈Cs,C≠[]
 scc:∀C∈Cs,∀a∈C,∀b∈C,mx th a b
 back:∀A C B,Cs=A++C::B->∀c∈C,∀x∈K,c∈th x->x∈A.flatten++C
theorem Ao.nil:Ao th K []:=⟨.nil,fun _ h=>(nomatch h),fun _ h=>(nomatch h),fun _ h=>(nomatch h),fun A C B e=>(by simp at e)⟩
theorem gQ.r {P:α->Prop}{a b:α}(r:gQ th P a b):mx th a b:=by
 induction r with
 |refl _=>exact .refl _
 |step _ e _ ih=>exact .step e ih
theorem gJ {z:Type}(Cs:List (List z))(C:List z):(Cs++[C]).flatten=Cs.flatten++C:=by rw [flatten_append,flatten_cons,List.flatten_nil,append_nil]
theorem Ao.add {Cs:List (List α)}{L A B C:List α}{s:α}(H:Ao th K Cs)(ho:FU th L)(hn:L.Nodup)(hL:∀x∈K,x∈L)(e:L=A++s::B)(hB:∀x∈B,x∈Cs.flatten)(c:C4 th K Cs.flatten s C)(cl:∀c∈C,∀x∈K,c∈th x->x∈Cs.flatten++C):Ao th K (Cs++[C]) where
 nd:=by rw [gJ];exact c.nd
 sub x hx:=by rw [gJ] at hx;exact (ak hx).elim (H.sub x) (c.sub x)
 ne D hD:=(ak hD).elim (H.ne D) fun h=>by rw [aa h];exact fun q=>by have:=c.hd;rw [q] at this;cases this
 scc D hD:=by
  rcases ak hD with h |h
  .exact H.scc D h
  .rw [aa h]
   intro a ha b hb
   refine (c.to a ha).r.trans ?_
   have inA:∀x,x∈C->x∈A++[s]:=fun x hx=>by
    have:=hL x (c.sub x hx)
    rw [e] at this
    rcases ak this with h |h
    .exact mem_append_left _ h
    .rcases an h with h |h
     .exact mem_append_right _ (h▸.head _)
     .exact absurd rfl ((aL c.nd).2.2 x (hB x h) x hx)
   obtain ⟨n,r⟩:=((c.to b hb).mono inA).n
   exact wk ho hn e n b r
 back A' D B' q:=by
  rcases eF q with ⟨rfl,rfl,rfl⟩ | ⟨B'',rfl,q'⟩
  .exact cl
  .exact H.back A' D B'' q'
theorem Ao.within {A B:List (List α)}{C:List α}(H:Ao th K (A++C::B)){u s d:α}(hu:u∈C)(e:s∈th u)(hK:∀k∈K,∀y∈th k,y∈K)(r:mx th s d)(hd:d∈C):s∈C:=by
 have uK:u∈K:=H.sub u (by rw [flatten_append,flatten_cons];exact mem_append_right _ (mem_append_left _ hu))
 have back:∀x y,mx th x y->x∈K->y∈A.flatten++C->x∈A.flatten++C:=fun x y r=>by
  induction r with
  |refl _=>exact fun _ h=>h
  | @step a b c e _ ih=>
   intro ha hc
   rcases ak (ih (hK a ha b e) hc) with h |h
   .obtain ⟨D,hD,hb⟩:=mem_flatten.mp h
    obtain ⟨A',B',rfl⟩:=List.append_of_mem hD
    have:=H.back A' D (B'++C::B) (by rw [List.append_assoc];rfl) b hb a ha e
    rw [flatten_append,flatten_cons]
    rcases ak this with h |h
    .exact mem_append_left _ (mem_append_left _ h)
    .exact mem_append_left _ (mem_append_right _ (mem_append_left _ h))
   .exact H.back A C B rfl b h a ha e
 rcases ak (back s d r (hK u uK s e) (mem_append_right _ hd)) with h |h
 .obtain ⟨D,hD,hb⟩:=mem_flatten.mp h
  obtain ⟨A',B',rfl⟩:=List.append_of_mem hD
  have:=H.back A' D (B'++C::B) (by rw [List.append_assoc];rfl) s hb u uK e
  have nd:=H.nd
  rw [flatten_append,flatten_append,flatten_cons] at nd
  refine absurd rfl ((aL nd).2.2 u ?_ u (by rw [flatten_cons];exact mem_append_left _ hu))
  rcases ak this with h |h
  .exact mem_append_left _ h
  .exact mem_append_right _ (mem_append_left _ h)
 .exact h
theorem vX {f:Nat->Nat}{n:Nat}(hm:∀i,f i<=f (i+1)):∀(d i:Nat),(∀j,f j<=n)->n - f i<=d->∃N,∀j,N<=j->f j=f N
 | 0,i,hb,hd=>by
  have mono:∀j k,f j<=f (j+k):=fun j k=>by
   induction k with
   |zero=>exact le_refl _
   |succ k ih=>exact le_trans ih (hm _)
  refine ⟨i,fun j hj=>?_⟩
  obtain ⟨k,rfl⟩:=exists_eq_add_of_le hj
  exact le_antisymm (le_trans (hb _) (Nat.le_of_sub_eq_zero (Nat.le_zero.mp hd))) (mono i k)
 |d+1,i,hb,hd=>by
  by_cases h:∀j,i<=j->f j=f i
  .exact ⟨i,h⟩
  .obtain ⟨j,h⟩:=Classical.not_forall.mp h
   obtain ⟨hij,hne⟩:=Classical.not_imp.mp h
   have mono:∀j k,f j<=f (j+k):=fun j k=>by
    induction k with
    |zero=>exact le_refl _
    |succ k ih=>exact le_trans ih (hm _)
   obtain ⟨k,rfl⟩:=exists_eq_add_of_le hij
   have l:f i < f (i+k):=Nat.lt_of_le_of_ne (mono i k) (Ne.symm hne)
   exact vX hm d (i+k) hb (le_of_lt_succ (lt_of_lt_of_le (Nat.sub_lt_sub_left (lt_of_lt_of_le l (hb _)) l) hd))
theorem q0 {z:Type}{l:List z}{i:Nat}{x:z}(h:l[i]?=some x):∃A B,l=A++x::B/\A.length=i:=by
 obtain ⟨hi,rfl⟩:=aj h
 exact ⟨l.take i,l.drop (i+1),by rw [List.getElem_cons_drop,List.take_append_drop],by rw [length_take];lia⟩
theorem Ao.stay {Cs:List (List α)}(H:Ao th K Cs)(hK:∀x∈K,x∈Cs.flatten){κ:Nat->α}(h0:∀i,κ i∈K)(h1:∀i,κ (i+1)∈th (κ i)):∃C∈Cs,∃N,∀i,N<=i->κ i∈C:=by
 have ex:∀i,∃p:Nat×List α,Cs[p.1]?=some p.2/\κ i∈p.2:=fun i=>by
  obtain ⟨C,h2,h3⟩:=mem_flatten.mp (hK _ (h0 i))
  obtain ⟨i,h4⟩:=getElem?_of_mem h2
  exact ⟨(i,C),h4,h3⟩
 obtain ⟨f,hf⟩:=Classical.axiomOfChoice ex
 have uniq:∀i j C D x,Cs[i]?=some C->Cs[j]?=some D->x∈C->x∈D->i<=j:=fun i j C D x hi hj hx hy=>by
  refine Nat.le_of_not_lt fun lt=>?_
  obtain ⟨A,B,e,l⟩:=q0 hi
  have hD:D∈A:=by
   rw [e,getElem?_append_left (by lia)] at hj;exact mem_of_getElem? hj
  have nd:=H.nd
  rw [e,flatten_append] at nd
  exact (aL nd).2.2 x (mem_flatten.mpr ⟨D,hD,hy⟩) x (mem_flatten.mpr ⟨C,.head _,hx⟩) rfl
 have mono:∀i,(f i).1<=(f (i+1)).1:=fun i=>by
  obtain ⟨A,B,e,l⟩:=q0 (hf (i+1)).1
  rcases ak (H.back A _ B e _ (hf (i+1)).2 (κ i) (h0 i) (h1 i)) with h |h
  .obtain ⟨D,hD,hx⟩:=mem_flatten.mp h
   obtain ⟨j,hj⟩:=getElem?_of_mem hD
   have lt:=(aj hj).1
   have hj':Cs[j]?=some D:=by rw [e,getElem?_append_left lt];exact hj
   have:=uniq _ j _ D _ (hf i).1 hj' (hf i).2 hx
   lia
  .exact uniq _ _ _ _ _ (hf i).1 (hf (i+1)).1 (hf i).2 h
 obtain ⟨N,hN⟩:=vX (f:=fun i=>(f i).1) (n:=Cs.length) mono _ 0 (fun j=>le_of_lt (aj (hf j).1).1) (le_refl _)
 refine ⟨(f N).2,mem_of_getElem? (hf N).1,N,fun i hi=>?_⟩
 have e:=(hf i).1
 rw [show (f i).1=(f N).1 from hN i hi,(hf N).1] at e
 rw [Option.some.inj e];exact (hf i).2
end
end
end Mine
end
section
namespace Mine
noncomputable section
section
variable {α:Type} {th:α->List α}
noncomputable def fm (th:α->List α)(P:List α):Prop:=∀(i:Nat) (a b:α),P[i]?=some a->P[i+1]?=some b->b∈th a
theorem fm.one (a:α):fm th [a]:=fun i x y _ h=>by
 rw [List.getElem?_eq_none (by simp)] at h;cases h
theorem fm.app {P Q:List α}(hP:fm th P)(hQ:fm th Q)(h:∀a b,P.getLast?=some a->Q.head?=some b->b∈th a):fm th (P++Q):=fun i a b ha hb=>by
 by_cases h1:i+1 < P.length
 .rw [getElem?_append_left (Nat.lt_of_succ_lt h1)] at ha
  rw [getElem?_append_left h1] at hb
  exact hP i a b ha hb
 .by_cases h2:i < P.length
  .have e:i+1=P.length:=le_antisymm h2 (cH h1)
   rw [getElem?_append_left h2] at ha
   rw [getElem?_append_right (cH h1),e,sub_self] at hb
   refine h a b ?_ ?_
   .rw [List.getLast?_eq_getElem?,<-e];exact ha
   .rw [List.head?_eq_getElem?];exact hb
  .rw [getElem?_append_right (cH h2)] at ha
   rw [getElem?_append_right (cH h1),Nat.succ_sub (cH h2)] at hb
   exact hQ _ a b ha hb
theorem fm.drop {P:List α}(hP:fm th P)(n:Nat):fm th (P.drop n):=fun i a b ha hb=>by
 rw [List.getElem?_drop] at ha hb
 exact hP (n+i) a b ha hb
inductive mD (f:α->Option α):α->List α->Prop
 |nil {x:α}:f x=none->mD f x [x]
 |cons {x y:α} {p:List α}:f x=some y->mD f y p->mD f x (x::p)
structure vh (th:α->List α) (K starts goals done wait:List α) (f:α->Option α):Prop where
 nd:(done++wait).Nodup
 sub:∀x∈done++wait,x∈K
 st:∀x∈starts,x∈done++wait
 par:∀x∈done++wait,(f x=none->x∈starts)/\∀y,f x=some y->x∈th y
 back:∀x∈done++wait,∃p,mD f x p/\p.length<=(done++wait).length/\∀y∈p,y∈done++wait
 clo:∀x∈done,x∉goals/\∀y∈th x,y∈done++wait
theorem vh.start {K starts goals:List α}(hn:starts.Nodup)(hs:∀x∈starts,x∈K):vh th K starts goals [] starts (fun _=>none) where
 nd:=hn
 sub:=hs
 st:=fun _ h=>h
 par x hx:=⟨fun _=>hx,fun y h=>by cases h⟩
 back x hx:=⟨[x],.nil rfl,List.length_pos_of_mem hx,fun y hy=>aa hy▸hx⟩
 clo x hx:=nomatch hx
theorem mD.mono {f f':α->Option α}{x:α}{p:List α}(h:mD f x p):(∀y∈p,f' y=f y)->mD f' x p:=by
 induction h with
 |nil e=>exact fun h=>.nil ((h _ (.head _)).trans e)
 |cons e _ ih=>exact fun h=>.cons ((h _ (.head _)).trans e) (ih fun y hy=>h y (.tail _ hy))
theorem vh.push [DecidableEq α] {K starts goals done wait:List α}{f:α->Option α}{here y:α}(B:vh th K starts goals done wait f)(hh:here∈done++wait)(e:y∈th here)(hk:y∈K)(hy:y∉done++wait):vh th K starts goals done (wait++[y]) (fun x=>if x=y then some here else f x):=by
 have ne:∀x,x∈done++wait->x≠y:=fun x hx q=>hy (q▸hx)
 have mem:∀x,x∈done++(wait++[y])↔x∈done++wait\/x=y:=fun x=>by rw [<-List.append_assoc,mem_append,mem_singleton]
 refine ⟨?_,fun x hx=>?_,fun x hx=>(mem x).mpr (.inl (B.st x hx)),fun x hx=>?_,fun x hx=>?_,fun x hx=>⟨(B.clo x hx).1,fun z hz=>(mem z).mpr (.inl ((B.clo x hx).2 z hz))⟩⟩
 .rw [<-List.append_assoc,nodup_append]
  exact ⟨B.nd,by simp,fun a ha b hb q=>hy (by rw [<-aa hb,<-q];exact ha)⟩
 .exact ((mem x).mp hx).elim (B.sub x) fun h=>h▸hk
 .rcases (mem x).mp hx with h |rfl
  .simp only [if_neg (ne x h)];exact B.par x h
  .simp only [if_true];exact ⟨fun h=>(by cases h),fun z h=>Option.some.inj h▸e⟩
 .rw [<-List.append_assoc,List.length_append]
  have old:∀x,x∈done++wait->∃p,mD (fun x=>if x=y then some here else f x) x p/\p.length<=(done++wait).length/\∀z∈p,z∈done++wait:=fun x hx=>by
   obtain ⟨p,h1,h2,h3⟩:=B.back x hx
   exact ⟨p,h1.mono fun z hz=>if_neg (ne z (h3 z hz)),h2,h3⟩
  rcases (mem x).mp hx with h |rfl
  .obtain ⟨p,h1,h2,h3⟩:=old x h
   exact ⟨p,h1,le_trans h2 (le_add_right _ _),fun z hz=>mem_append_left _ (h3 z hz)⟩
  .obtain ⟨p,h1,h2,h3⟩:=old here hh
   refine ⟨x::p,.cons (if_pos rfl) h1,succ_le_succ h2,fun z hz=>?_⟩
   rcases an hz with rfl |hz
   .exact mem_append_right _ (.head _)
   .exact mem_append_left _ (h3 z hz)
theorem vh.done {K starts goals done wait:List α}{f:α->Option α}{here:α}(B:vh th K starts goals done (here::wait) f)(hg:here∉goals)(hc:∀y∈th here,y∈done++here::wait):vh th K starts goals (done++[here]) wait f:=by
 have e:(done++[here])++wait=done++here::wait:=by rw [List.append_assoc];rfl
 refine ⟨by rw [e];exact B.nd,by rw [e];exact B.sub,by rw [e];exact B.st,by rw [e];exact B.par,by rw [e];exact B.back,fun x hx=>?_⟩
 rw [e]
 rcases ak hx with h |h
 .exact B.clo x h
 .rw [aa h];exact ⟨hg,hc⟩
theorem vh.none {K starts goals done:List α}{f:α->Option α}(B:vh th K starts goals done [] f){s g:α}(hs:s∈starts)(hg:g∈goals)(r:mx th s g):False:=by
 have:∀x y,mx th x y->x∈done->y∈goals->False:=fun x y r=>by
  induction r with
  |refl a=>exact fun hx hg=>(B.clo a hx).1 hg
  |step e _ ih=>
   intro hx hg
   have:=(B.clo _ hx).2 _ e
   rw [append_nil] at this
   exact ih this hg
 have h:=B.st s hs
 rw [append_nil] at h
 exact this s g r h hg
structure EU (th:α->List α) (K starts:List α) (g:α) (P:List α):Prop where
 walk:fm th P
 hd:∃a,P.head?=some a/\a∈starts
 lst:P.getLast?=some g
 sub:∀x∈P,x∈K
 len:P.length<=K.length
theorem mD.way {K starts goals done wait:List α}{f:α->Option α}(B:vh th K starts goals done wait f){x:α}{p:List α}(h:mD f x p):(∀y∈p,y∈done++wait)->fm th p.reverse/\(∃a,p.reverse.head?=some a/\a∈starts)/\p.reverse.getLast?=some x:=by
 induction h with
 | @nil x e=>exact fun h=>⟨.one _,⟨x,rfl,(B.par x (h x (.head _))).1 e⟩,rfl⟩
 | @cons x y p e _ ih=>
  intro h
  obtain ⟨h1,⟨a,h2,h3⟩,h4⟩:=ih fun z hz=>h z (.tail _ hz)
  rw [List.reverse_cons]
  refine ⟨h1.app (.one _) fun u v hu hv=>?_,⟨a,?_,h3⟩,by rw [List.getLast?_append];rfl⟩
  .rw [h4] at hu;cases hu;cases hv
   exact (B.par x (h x (.head _))).2 _ e
  .rw [List.head?_append,h2];rfl
theorem vh.way {K starts goals done wait:List α}{f:α->Option α}(B:vh th K starts goals done wait f){x:α}(hx:x∈done++wait):∃p,mD f x p/\(∀y∈p,y∈done++wait)/\EU th K starts x p.reverse:=by
 obtain ⟨p,h1,h2,h3⟩:=B.back x hx
 obtain ⟨h4,h5,h6⟩:=h1.way B h3
 exact ⟨p,h1,h3,h4,h5,h6,fun y hy=>B.sub y (h3 y (List.mem_reverse.mp hy)),by rw [length_reverse];exact le_trans h2 (ba B.nd B.sub)⟩
end
end
end Mine
end
namespace Mine
noncomputable section
open Ltl
section
variable {α:Type} {th:α->List α}
theorem fm.left {P Q:List α}(h:fm th (P++Q)):fm th P:=fun i a b ha hb=>
 h i a b ((getElem?_append_left (aj ha).1).trans ha) ((getElem?_append_left (aj hb).1).trans hb)
theorem fm.snoc {P:List α}{a b:α}(h:fm th (P++[b]))(e:P.getLast?=some a):b∈th a:=by
 obtain ⟨Q,rfl⟩:=List.getLast?_eq_some_iff.mp e
 refine h Q.length a b ?_ ?_
 .rw [List.append_assoc,getElem?_append_right (le_refl _),sub_self];rfl
 .rw [List.append_assoc,getElem?_append_right (le_add_right _ 1),Nat.add_sub_cancel_left];rfl
theorem fm.close {K S F P:List α}{z c:α}(h:fm th (F++[z]))(W:EU th K S c P)(hS:∀x∈S,x∈th z):fm th (F++[z]++P.dropLast)/\∃y,(F++[z]++P.dropLast).getLast?=some y/\c∈th y:=by
 obtain ⟨Q,rfl⟩:=List.getLast?_eq_some_iff.mp W.lst
 obtain ⟨a,ha,hs⟩:=W.hd
 rw [List.dropLast_concat]
 refine ⟨h.app W.walk.left fun u v hu hv=>?_,?_⟩
 .rw [List.getLast?_concat] at hu;cases hu
  rw [List.head?_append,hv] at ha;cases ha
  exact hS _ hs
 .rcases List.eq_nil_or_concat Q with rfl | ⟨R,y,rfl⟩
  .cases ha
   exact ⟨z,by rw [append_nil,List.getLast?_concat],hS _ hs⟩
  .rw [concat_eq_append] at W ⊢
   exact ⟨y,by rw [<-List.append_assoc,List.getLast?_concat],W.walk.snoc List.getLast?_concat⟩
structure rh (th:α->List α) (S:List α) (P R:List α):Prop where
 walk:fm th (P++R)
 hd:∃a,(P++R).head?=some a/\a∈S
 back:∃c y,R.head?=some c/\R.getLast?=some y/\c∈th y
theorem EU.lasso {K S P R:List α}{c:α}(W:EU th K S c P)(h:fm th R)(hc:R.head?=some c)(hb:∃y,R.getLast?=some y/\c∈th y):rh th S P.dropLast R:=by
 obtain ⟨Q,rfl⟩:=List.getLast?_eq_some_iff.mp W.lst
 obtain ⟨a,ha,hs⟩:=W.hd
 obtain ⟨y,h1,h2⟩:=hb
 rw [List.dropLast_concat]
 refine ⟨W.walk.left.app h fun u v hu hv=>?_,⟨a,?_,hs⟩,c,y,hc,h1,h2⟩
 .rw [hc] at hv;cases hv
  exact W.walk.snoc hu
 .rw [List.head?_append] at ha ⊢
  rw [hc];exact ha
theorem rh.step {S P R:List α}(L:rh th S P R){i:Nat}{a b:α}(ha:(P++R)[i]?=some a)(hb:(P++R)[nx (P++R).length P.length i]?=some b):b∈th a:=by
 unfold nx at hb
 by_cases q:i+1=(P++R).length
 .rw [if_pos q] at hb
  obtain ⟨c,y,h1,h2,h3⟩:=L.back
  rw [getElem?_append_right (le_refl _),sub_self,<-List.head?_eq_getElem?,h1] at hb
  have e:(P++R).getLast?=some a:=by rw [List.getLast?_eq_getElem?,<-q];exact ha
  rw [List.getLast?_append,h2] at e
  cases hb;cases e;exact h3
 .rw [if_neg q] at hb
  exact L.walk i a b ha hb
theorem rh.lt {S P R:List α}(L:rh th S P R):P.length < (P++R).length:=by
 obtain ⟨c,y,h1,_⟩:=L.back
 cases R with
 |nil=>cases h1
 |cons=>rw [List.length_append,length_cons];lia -abstractProof
end
end
end Mine
namespace Mine
noncomputable section
open PySem Mine.Ltl
noncomputable def bc:Sy->T
 |.mark x=>.tup [.str (ofString "mark"),.str x]
 |.yes=>.tup [.str (ofString "yes")]
 |.not a=>.tup [.str (ofString "not"),bc a]
 |.and a c=>.tup [.str (ofString "and"),bc a,bc c]
 |.or a c=>.tup [.str (ofString "or"),bc a,bc c]
 |.next a=>.tup [.str (ofString "next"),bc a]
 |.till a c=>.tup [.str (ofString "till"),bc a,bc c]
 |.always a=>.tup [.str (ofString "always"),bc a]
 |.again a=>.tup [.str (ofString "again"),bc a]
noncomputable def fG:Sy->PyData
 |.mark x=>.tuple [.str (ofString "mark"),.str x]
 |.yes=>.tuple [.str (ofString "yes")]
 |.not a=>.tuple [.str (ofString "not"),fG a]
 |.and a c=>.tuple [.str (ofString "and"),fG a,fG c]
 |.or a c=>.tuple [.str (ofString "or"),fG a,fG c]
 |.next a=>.tuple [.str (ofString "next"),fG a]
 |.till a c=>.tuple [.str (ofString "till"),fG a,fG c]
 |.always a=>.tuple [.str (ofString "always"),fG a]
 |.again a=>.tuple [.str (ofString "again"),fG a]
noncomputable def dep:Sy->Nat
 |.mark _=>1
 |.yes=>1
 |.not a=>dep a+1
 |.and a c=>max (dep a) (dep c)+1
 |.or a c=>max (dep a) (dep c)+1
 |.next a=>dep a+1
 |.till a c=>max (dep a) (dep c)+1
 |.always a=>dep a+1
 |.again a=>dep a+1
theorem jh (n:Nat)(s:Str):bR n (.str s)=some (.str s):=by cases n<;>rfl
theorem kK (n:Nat)(i:Int):bR n (.int i)=some (.int i):=by cases n<;>rfl
theorem xu (n:Nat)(b:Bool):bR n (.bool b)=some (.bool b):=by cases n<;>rfl
theorem nX {f:T->Option PyData}{x:T}{r:List T}{d:PyData}{ds:List PyData}(h:f x=some d)(hr:cS f r=some ds):cS f (x::r)=some (d::ds):=by
 show (match f x with |none=>none |some d=>(cS f r).map (d::·))=_
 rw [h,hr];rfl
theorem o9 {n:Nat}{xs:List T}{ds:List PyData}(h:cS (bR n) xs=some ds):bR (n+1) (.tup xs)=some (.tuple ds):=congrArg (Option.map PyData.tuple) h
theorem qL {n:Nat}{w:Str}{a:T}{d:PyData}(h:bR n a=some d):bR (n+1) (.tup [.str w,a])=some (.tuple [.str w,d]):=o9 (nX (jh _ _) (nX h rfl))
theorem xw {n:Nat}{w:Str}{a c:T}{d e:PyData}(h:bR n a=some d)(h':bR n c=some e):bR (n+1) (.tup [.str w,a,c])=some (.tuple [.str w,d,e]):=o9 (nX (jh _ _) (nX h (nX h' rfl)))
theorem dX:∀(s:Sy) (n:Nat),dep s<=n->bR n (bc s)=some (fG s)
 |.mark x,n+1,_=>qL (jh _ _)
 |.yes,n+1,_=>o9 (nX (jh _ _) rfl)
 |.not a,n+1,h=>qL (dX a n (le_of_succ_le_succ h))
 |.next a,n+1,h=>qL (dX a n (le_of_succ_le_succ h))
 |.always a,n+1,h=>qL (dX a n (le_of_succ_le_succ h))
 |.again a,n+1,h=>qL (dX a n (le_of_succ_le_succ h))
 |.and a c,n+1,h=>xw (dX a n (le_trans (le_max_left _ _) (le_of_succ_le_succ h))) (dX c n (le_trans (le_max_right _ _) (le_of_succ_le_succ h)))
 |.or a c,n+1,h=>xw (dX a n (le_trans (le_max_left _ _) (le_of_succ_le_succ h))) (dX c n (le_trans (le_max_right _ _) (le_of_succ_le_succ h)))
 |.till a c,n+1,h=>xw (dX a n (le_trans (le_max_left _ _) (le_of_succ_le_succ h))) (dX c n (le_trans (le_max_right _ _) (le_of_succ_le_succ h)))
noncomputable def idx:Sy->Nat
 |.mark _=>0
 |.yes=>1
 |.not _=>2
 |.and _ _=>3
 |.or _ _=>4
 |.next _=>5
 |.till _ _=>6
 |.always _=>7
 |.again _=>8
theorem jf {a c:Sy}(h1:PyData.eqv (fG a) (fG c)=false)(h2:Nat.beq (idx a) (idx c)=false):PyData.eqv (fG a) (fG c)=true↔a=c:=⟨fun h=>(by rw [h1] at h;cases h),fun h=>(by rw [h,beq_refl] at h2;cases h2)⟩
theorem f9:∀a c:Sy,PyData.eqv (fG a) (fG c)=true↔a=c
 |.mark x,c=>by
  cases c with
  |mark y=>
   show ((x==y)&&true)=true↔_
   rw [Bool.and_true,beq_iff_eq];exact ⟨fun h=>(by rw [h]),fun h=>(by cases h;rfl)⟩
  |_=>exact jf rfl rfl
 |.yes,c=>by
  cases c with
  |yes=>exact ⟨fun _=>rfl,fun _=>rfl⟩
  |_=>exact jf rfl rfl
 |.not a,c=>by
  cases c with
  |not c=>
   show (PyData.eqv (fG a) (fG c)&&true)=true↔_
   rw [Bool.and_true,f9 a c];exact ⟨fun h=>(by rw [h]),fun h=>(by cases h;rfl)⟩
  |_=>exact jf rfl rfl
 |.next a,c=>by
  cases c with
  |next c=>
   show (PyData.eqv (fG a) (fG c)&&true)=true↔_
   rw [Bool.and_true,f9 a c];exact ⟨fun h=>(by rw [h]),fun h=>(by cases h;rfl)⟩
  |_=>exact jf rfl rfl
 |.always a,c=>by
  cases c with
  |always c=>
   show (PyData.eqv (fG a) (fG c)&&true)=true↔_
   rw [Bool.and_true,f9 a c];exact ⟨fun h=>(by rw [h]),fun h=>(by cases h;rfl)⟩
  |_=>exact jf rfl rfl
 |.again a,c=>by
  cases c with
  |again c=>
   show (PyData.eqv (fG a) (fG c)&&true)=true↔_
   rw [Bool.and_true,f9 a c];exact ⟨fun h=>(by rw [h]),fun h=>(by cases h;rfl)⟩
  |_=>exact jf rfl rfl
 |.and a b,c=>by
  cases c with
  |and c d=>
   show (PyData.eqv (fG a) (fG c)&&(PyData.eqv (fG b) (fG d)&&true))=true↔_
   rw [Bool.and_true,and_eq_true,f9 a c,f9 b d];exact ⟨fun h=>(by rw [h.1,h.2]),fun h=>(by cases h;exact ⟨rfl,rfl⟩)⟩
  |_=>exact jf rfl rfl
 |.or a b,c=>by
  cases c with
  |or c d=>
   show (PyData.eqv (fG a) (fG c)&&(PyData.eqv (fG b) (fG d)&&true))=true↔_
   rw [Bool.and_true,and_eq_true,f9 a c,f9 b d];exact ⟨fun h=>(by rw [h.1,h.2]),fun h=>(by cases h;exact ⟨rfl,rfl⟩)⟩
  |_=>exact jf rfl rfl
 |.till a b,c=>by
  cases c with
  |till c d=>
   show (PyData.eqv (fG a) (fG c)&&(PyData.eqv (fG b) (fG d)&&true))=true↔_
   rw [Bool.and_true,and_eq_true,f9 a c,f9 b d];exact ⟨fun h=>(by rw [h.1,h.2]),fun h=>(by cases h;exact ⟨rfl,rfl⟩)⟩
  |_=>exact jf rfl rfl
structure io {α:Type} (e:α->T) (d:α->PyData) (n:Nat) (P:α->Prop):Prop where
 dat:∀a m,P a->n<=m->bR m (e a)=some (d a)
 eq:∀a c,PyData.eqv (d a) (d c)=true↔a=c
theorem lV (n:Nat):io bc fG n (fun s=>dep s<=n):=⟨fun a m h hm=>dX a m (le_trans h hm),f9⟩
theorem zL:io T.str PyData.str 0 (fun _=>True):=⟨fun a m _ _=>jh m a,fun _ _=>beq_iff_eq⟩
theorem jg:io T.bool PyData.bool 0 (fun _=>True):=⟨fun a m _ _=>xu m a,fun _ _=>beq_iff_eq⟩
theorem tR:io (fun n:Nat=>T.int n) (fun n:Nat=>PyData.int n) 0 (fun _=>True):=⟨fun a m _ _=>kK m a,fun a c=>by show (((a:Int)==(c:Int))=true)↔_;rw [beq_iff_eq];exact ⟨fun h=>ofNat.inj h,fun h=>by rw [h]⟩⟩
section
variable {α:Type} {e:α->T} {d:α->PyData} {n:Nat} {P:α->Prop}
theorem io.all (E:io e d n P){m:Nat}(hm:n<=m):∀l:List α,(∀a∈l,P a)->cS (bR m) (l.map e)=some (l.map d)
 | [],_=>rfl
 |a::l,h=>by rw [map_cons,cS,E.dat a m (h a (.head _)) hm];simp only [E.all hm l fun b hb=>h b (.tail _ hb)];rfl
theorem io.eqs (E:io e d n P):∀l l':List α,PyData.eqvAll (l.map d) (l'.map d)=true↔l=l'
 | [],[]=>⟨fun _=>rfl,fun _=>rfl⟩
 | [],_::_=>⟨fun h=>(by cases h),fun h=>(by cases h)⟩
 |_::_,[]=>⟨fun h=>(by cases h),fun h=>(by cases h)⟩
 |a::l,c::l'=>by
  show (PyData.eqv (d a) (d c)&&PyData.eqvAll (l.map d) (l'.map d))=true↔_
  rw [and_eq_true,E.eq,E.eqs l l']
  exact ⟨fun h=>(by rw [h.1,h.2]),fun h=>(by cases h;exact ⟨rfl,rfl⟩)⟩
theorem io.tup (E:io e d n P):io (fun l:List α=>T.tup (l.map e)) (fun l=>PyData.tuple (l.map d)) (n+1) (fun l=>∀a∈l,P a):=
 ⟨fun l m h hm=>by
  obtain ⟨m,rfl⟩:=Nat.exists_eq_add_of_le' hm
  show (cS (bR (m+n)) (l.map e)).map PyData.tuple=_
  rw [E.all (le_add_left _ _) l h];rfl,fun a c=>E.eqs a c⟩
theorem io.lst (E:io e d n P):io (fun l:List α=>T.lst (l.map e)) (fun l=>PyData.list (l.map d)) (n+1) (fun l=>∀a∈l,P a):=
 ⟨fun l m h hm=>by
  obtain ⟨m,rfl⟩:=Nat.exists_eq_add_of_le' hm
  show (cS (bR (m+n)) (l.map e)).map PyData.list=_
  rw [E.all (le_add_left _ _) l h];rfl,fun a c=>E.eqs a c⟩
variable [DecidableEq α]
theorem io.eqb (E:io e d n P)(a c:α):PyData.eqv (d a) (d c)=decide (a=c):=by
 cases h:PyData.eqv (d a) (d c) with
 |true=>exact (decide_eq_true ((E.eq a c).mp h)).symm
 |false=>exact (decide_eq_false fun q=>by rw [(E.eq a c).mpr q] at h;cases h).symm
theorem io.is (E:io e d n P)(hn:n<=cf){a c:α}(ha:P a)(hc:P c):cA (e a) (e c)=some (decide (a=c)):=by
 rw [cA,E.dat a cf ha hn,E.dat c cf hc hn];exact congrArg some (E.eqb a c)
theorem io.isN (E:io e d n P)(hn:n<=cf){a c:α}(ha:P a)(hc:P c):jW (e a) (e c)=some (!decide (a=c)):=by rw [jW,E.is hn ha hc];rfl
theorem io.mem (E:io e d n P)(hn:n<=cf){a:α}{l:List α}(ha:P a)(hl:∀c∈l,P c){s:T}(hs:iV s=some (l.map e)):kF (e a) s=some (decide (a∈l)):=by
 rw [kF,hs]
 show o2 (bR cf (e a)) (jR (l.map e)) _=_
 rw [E.dat a cf ha hn,jR,E.all hn l hl]
 refine congrArg some ?_
 show (l.map d).any _=_
 rw [Bool.eq_iff_iff,List.any_eq_true,decide_eq_true_eq]
 constructor
 .rintro ⟨y,hy,h⟩
  obtain ⟨c,hc,rfl⟩:=aF hy
  rw [<-(E.eq c a).mp h];exact hc
 .exact fun h=>⟨d a,bn ⟨a,h,rfl⟩,(E.eq a a).mpr rfl⟩
theorem io.nin (E:io e d n P)(hn:n<=cf){a:α}{l:List α}(ha:P a)(hl:∀c∈l,P c){s:T}(hs:iV s=some (l.map e)):hJ (e a) s=some (!decide (a∈l)):=by rw [hJ,E.mem hn ha hl hs];rfl
omit [DecidableEq α] in
theorem lR {z:Type}(f:α->z)(p:z->Bool):∀l:List α,(l.map f).findIdx? p=l.findIdx? (p ∘ f)
 | []=>rfl
 |a::l=>by rw [map_cons,findIdx?_cons,findIdx?_cons,lR f p l];rfl
theorem lS {a:α}:∀{l:List α},a∈l->l.findIdx? (fun c=>decide (c=a))=some (l.idxOf a)
 | [],h=>by cases h
 |c::l,h=>by
  rw [findIdx?_cons,idxOf_cons]
  by_cases q:c=a
  .rw [decide_eq_true q,beq_iff_eq.mpr q];rfl
  .rw [decide_eq_false q,beq_eq_false_iff_ne.mpr q]
   have:a∈l:=by cases h with
    |head=>exact absurd rfl q
    |tail _ h=>exact h
   rw [lS this];rfl
theorem io.idx (E:io e d n P)(hn:n<=cf){a:α}{l:List α}(ha:P a)(hl:∀c∈l,P c)(hm:a∈l):fj (.lst (l.map e)) (e a)=some (.int (l.idxOf a)):=by
 show o2 (bR cf (e a)) (jR (l.map e)) _=_
 rw [E.dat a cf ha hn,jR,E.all hn l hl]
 show o1 ((l.map d).findIdx? fun y=>PyData.eqv y (d a)) _=_
 rw [lR,show (fun y=>PyData.eqv y (d a)) ∘ d=fun c=>decide (c=a) from funext fun c=>E.eqb c a,lS hm];rfl
end
end
end Mine
namespace Mine
noncomputable section
open PySem
theorem ay {o r:c7}{t:T}{σ:Sg}{k:PK T}(h:o=.ret t σ)(h2:k t σ=r):ti o k=r:=by rw [h,ti];exact h2
theorem ae {α:Type}{o:Option α}{a:α}{σ:Sg}{k:PK α}{r:c7}(h:o=some a)(h2:k a σ=r):up o σ k=r:=by rw [h];exact h2
theorem mt {α:Type}{o:Option α}{a:α}{f:α->c7}{b r:c7}(h:o=some a)(h2:f a=r):(match (generalizing:=false) o with |some a=>f a |none=>b)=r:=by rw [h];exact h2
theorem gh {c:Bool}{a b r:c7}(h:c=true)(h2:a=r):(bif c then a else b)=r:=by rw [h];exact h2
theorem bY {c:Bool}{a b r:c7}(h:c=false)(h2:b=r):(bif c then a else b)=r:=by rw [h];exact h2
@[reducible] noncomputable def Cx (bd:PB)(body:PS)(c:iK)(v:T)(ρ:aZ)(σ:S5)(k:PK aZ):c7:=match bd v ρ with
 |none=>.bad
 |some ρ'=>body c ρ' σ k
theorem Ay {l:List T}{lo hi:Option Int}:dc (.lst l) lo hi=some (.lst (cut lo hi l)):=by unfold dc;rfl
theorem je {bd:PB}{body:PS}{c:iK}{v:T}{l:List T}{ρ ρ':aZ}{σ:Sg}{k:PK aZ}{r:c7}(hb:bd v ρ=some ρ')(h:body c ρ' σ (fun ρ σ=>cc bd body c l ρ σ k)=r):cc bd body c (v::l) ρ σ k=r:=by
 show (match bd v ρ with |none=>.bad |some ρ'=>body c ρ' σ fun ρ σ=>cc bd body c l ρ σ k)=r
 rw [hb];exact h
noncomputable def aP (Q:T->Sg->Prop)(o:c7):Prop:=∃t σ,o=.ret t σ/\Q t σ
section
variable {Q:T->Sg->Prop}
theorem fw {t:T}{σ:Sg}(h:Q t σ):aP Q (.ret t σ):=⟨t,σ,rfl,h⟩
theorem i7 {o:c7}{t:T}{σ:Sg}{k:PK T}(h:o=.ret t σ)(h2:aP Q (k t σ)):aP Q (ti o k):=by rw [h,ti];exact h2
theorem dU {P:T->Sg->Prop}{o:c7}{k:PK T}(h:aP P o)(h2:∀t σ,P t σ->aP Q (k t σ)):aP Q (ti o k):=by obtain ⟨t,σ,rfl,h⟩:=h;rw [ti];exact h2 t σ h
theorem aE {α:Type}{o:Option α}{a:α}{σ:Sg}{k:PK α}(h:o=some a)(h2:aP Q (k a σ)):aP Q (up o σ k):=by rw [h];exact h2
theorem ry {α:Type}{o:Option α}{a:α}{f:α->c7}{b:c7}(h:o=some a)(h2:aP Q (f a)):aP Q (match (generalizing:=false) o with |some a=>f a |none=>b):=by rw [h];exact h2
theorem GX {ρ:aZ}{i:Nat}{t:T}{σ:Sg}{k:PK T}(h:cI ρ i=some t)(h2:aP Q (k t σ)):aP Q (up (cI ρ i) σ k):=by rw [h];exact h2
theorem jo {c:Bool}{a b:c7}(h1:c=true->aP Q a)(h2:c=false->aP Q b):aP Q (bif c then a else b):=by
 cases c with
 |true=>exact h1 rfl
 |false=>exact h2 rfl
theorem Gj {a b:T}{x y:c7}(h:aP Q x):aP Q (bif cm [a,b].length then x else y):=h
theorem Aa {x y:c7}(h:aP Q y):aP Q (bif false then x else y):=h
theorem Es {x y:c7}(h:aP Q x):aP Q (bif true then x else y):=h
theorem j5 {l:List T}{x y:c7}(hl:Nat.ble l.length 100=true)(h:aP Q x):aP Q (bif cm l.length then x else y):=by
 rw [show cm l.length=true from ble_eq_true_of_le (le_trans (le_of_ble_eq_true hl) (by decide))];exact h
theorem DU {bd:PB}{body:PS}{c:iK}{v:T}{l:List T}{ρ ρ':aZ}{σ:Sg}{k:PK aZ}(hb:bd v ρ=some ρ')(h:aP Q (body c ρ' σ fun ρ σ=>cc bd body c l ρ σ k)):aP Q (cc bd body c (v::l) ρ σ k):=by
 show aP Q (match bd v ρ with |none=>.bad |some ρ'=>body c ρ' σ fun ρ σ=>cc bd body c l ρ σ k)
 rw [hb];exact h
theorem GJ {bd:PB}{body:PS}{c:iK}{ρ:aZ}{σ:Sg}{k:PK aZ}(h:aP Q (k ρ σ)):aP Q (cc bd body c [] ρ σ k):=h
theorem DT {α:Type}{e:α->T}{bd:PB}{body:PS}{c:iK}{k:PK aZ}(I:List α->aZ->Sg->Prop){l:List α}
  (h:∀pre a suf ρ σ,l=pre++a::suf->I pre ρ σ->∀k,(∀ρ' σ',I (pre++[a]) ρ' σ'->aP Q (k ρ' σ'))->aP Q (Cx bd body c (e a) ρ σ k))(h1:∀ρ σ,I l ρ σ->aP Q (k ρ σ)):
  ∀{suf pre:List α} {ρ:aZ} {σ:Sg},l=pre++suf->I pre ρ σ->aP Q (cc bd body c (suf.map e) ρ σ k)
 | [],pre,ρ,σ,hl,hi=>h1 ρ σ (by rw [hl,append_nil];exact hi)
 |a::suf,pre,ρ,σ,hl,hi=>h pre a suf ρ σ hl hi _ fun ρ' σ' hi'=>DT I h h1 (suf:=suf) (pre:=pre++[a]) (by rw [hl,List.append_assoc];rfl) hi'
theorem vz {t:PT}{body:PS}{c:iK}{k:PK aZ}{S:Type}(I:S->aZ->Sg->Prop)(go:S->Bool)(ms:S->Nat)(ht:∀s ρ σ,I s ρ σ->∀k:PK Bool,aP Q (k (go s) σ)->aP Q (t c ρ σ k))
  (hb:∀s ρ σ,I s ρ σ->go s=true->∀k,(∀s' ρ' σ',ms s' < ms s->I s' ρ' σ'->aP Q (k ρ' σ'))->aP Q (body c ρ σ k))(h1:∀s ρ σ,I s ρ σ->go s=false->aP Q (k ρ σ)):
  ∀{n:Nat} {s:S} {ρ:aZ} {σ:Sg},ms s < n->I s ρ σ->aP Q (fN t body c n ρ σ k)
 | 0,s,ρ,σ,h,_=>absurd h (Nat.not_lt_zero _)
 |n+1,s,ρ,σ,h,hi=>by rw [iM];exact ht s ρ σ hi _ (jo (fun e=>hb s ρ σ hi e _ fun s' ρ' σ' h' hi'=>vz I go ms ht hb h1 (n:=n) (lt_of_lt_of_le h' (le_of_lt_succ h)) hi') (h1 s ρ σ hi))
end
theorem eS {α:Type}{e:α->T}{bd:PB}{cond:PT}{elt:PE}{c:iK}{ρ:aZ}{σ:Sg}{k:PK (List T)}{r:c7}(p:α->Bool)(f:α->T):∀{l:List α} {acc:List T},
  (∀a∈l,∃ρ',bd (e a) ρ=some ρ'/\(∀k,cond c ρ' σ k=k (p a) σ)/\(p a=true->∀k,elt c ρ' σ k=k (f a) σ))->k (acc++(l.filter p).map f) σ=r->bW bd cond elt c ρ (l.map e) σ acc k=r
 | [],acc,_,hk=>by rw [filter_nil,map_nil,append_nil] at hk;rw [map_nil,tW];exact hk
 |a::l,acc,h,hk=>by
  obtain ⟨ρ',h1,h2,h3⟩:=h a (.head _)
  have ih:=fun acc=>eS (e:=e) (bd:=bd) (cond:=cond) (elt:=elt) (c:=c) (ρ:=ρ) (σ:=σ) (k:=k) (r:=r) p f (l:=l) (acc:=acc) fun b hb=>h b (.tail _ hb)
  rw [map_cons,tX]
  simp only [h1,h2]
  cases e:p a with
  |false=>rw [List.filter_cons_of_neg (by rw [e];decide)] at hk;exact ih acc hk
  |true=>
   rw [cond_true,h3 e]
   rw [List.filter_cons_of_pos e,map_cons] at hk
   exact ih (acc++[f a]) (by rw [List.append_assoc];exact hk)
theorem eT {α:Type}{e:α->T}{bd:PB}{elt:PE}{c:iK}{ρ:aZ}{σ:Sg}{k:PK (List T)}{r:c7}(f:α->T){l:List α}(h:∀a∈l,∃ρ',bd (e a) ρ=some ρ'/\∀k,elt c ρ' σ k=k (f a) σ)(hk:k (l.map f) σ=r):bW bd b9 elt c ρ (l.map e) σ [] k=r:=
 eS (fun _=>true) f (fun a ha=>let ⟨ρ',h1,h2⟩:=h a ha;⟨ρ',h1,fun _=>rfl,fun _=>h2⟩) (by rw [List.filter_eq_self.mpr fun _ _=>rfl];exact hk)
theorem Eh {Q:T->Sg->Prop}{α:Type}{e:α->T}{bd:PB}{cond:PT}{elt:PE}{c:iK}{ρ:aZ}{σ:Sg}{k:PK (List T)}(p:α->Bool)(f:α->T){l:List α}
  (h:∀a∈l,∃ρ',bd (e a) ρ=some ρ'/\(∀k,cond c ρ' σ k=k (p a) σ)/\(p a=true->∀k,elt c ρ' σ k=k (f a) σ))(hk:aP Q (k ((l.filter p).map f) σ)):aP Q (bW bd cond elt c ρ (l.map e) σ [] k):=by
 rw [eS p f h rfl];exact hk
theorem pk {Q:T->Sg->Prop}{α:Type}{e:α->T}{bd:PB}{elt:PE}{c:iK}{ρ:aZ}{σ:Sg}{k:PK (List T)}(f:α->T){l:List α}(h:∀a∈l,∃ρ',bd (e a) ρ=some ρ'/\∀k,elt c ρ' σ k=k (f a) σ)(hk:aP Q (k (l.map f) σ)):aP Q (bW bd b9 elt c ρ (l.map e) σ [] k):=by
 rw [eT f h rfl];exact hk
structure ri {α:Type} (e:α->T) (κ:α->Ky):Prop where
 ky:∀a,vp (e a)=some (κ a)
 inj:∀a c,κ a=κ c->a=c
section
variable {α:Type} {e:α->T} {κ:α->Ky} [DecidableEq α]
omit [DecidableEq α] in
theorem ri.kys (K:ri e κ):∀l:List α,eY (l.map e)=some (l.map κ)
 | []=>rfl
 |a::l=>by
  have:=K.kys l
  rw [eY] at this ⊢
  rw [map_cons,mQ,K.ky a,this];rfl
theorem ri.at_ (K:ri e κ)(l:List α)(a:α):oS (l.map κ) (κ a)=if a∈l then some (l.idxOf a) else none:=by
 unfold oS
 rw [lR]
 have:(fun x=>decide (x=κ a)) ∘ κ=fun c=>decide (c=a):=funext fun c=>by
  show decide (κ c=κ a)=_
  by_cases q:c=a
  .rw [q,decide_eq_true rfl,decide_eq_true rfl]
  .rw [decide_eq_false q,decide_eq_false fun h=>q (K.inj c a h)]
 rw [this]
 by_cases h:a∈l
 .rw [if_pos h,lS h]
 .rw [if_neg h,List.findIdx?_eq_none_iff]
  exact fun x hx=>decide_eq_false fun q=>h (q▸hx)
theorem ri.fd (K:ri e κ)(l:List α)(a:α):j6 (l.map e) (e a)=some (if a∈l then some (l.idxOf a) else none):=by
 rw [j6,K.kys,K.ky];exact congrArg some (K.at_ l a)
theorem o4 {z:Type}(f:α->z):∀{l:List α} {a:α},a∈l->(l.map f)[l.idxOf a]?=some (f a)
 |c::l,a,h=>by
  rw [idxOf_cons]
  by_cases q:c=a
  .rw [beq_iff_eq.mpr q,cond_true,q];rfl
  .rw [beq_eq_false_iff_ne.mpr q,cond_false,map_cons,List.getElem?_cons_succ]
   exact o4 f (by cases h with
    |head=>exact absurd rfl q
    |tail _ h=>exact h)
theorem ri.get (K:ri e κ){l:List α}{f:α->T}{a:α}(h:a∈l):idxD (.dct (l.map e) (l.map f)) (e a)=some (f a):=by
 show o1 (j6 (l.map e) (e a)) _=_
 rw [K.fd,if_pos h];exact o4 f h
theorem ri.has (K:ri e κ){l:List α}{vs:List T}(a:α):B9 (e a) (.dct (l.map e) vs)=some (decide (a∈l)):=by
 show o1 (j6 (l.map e) (e a)) _=_
 rw [K.fd]
 by_cases h:a∈l
 .rw [if_pos h,decide_eq_true h];rfl
 .rw [if_neg h,decide_eq_false h];rfl
theorem ri.put (K:ri e κ){l:List α}{vs:List T}{a:α}{v:T}(h:a∉l)(hl:l.length < lim):i0 (.dct (l.map e) vs) (e a) v=some (.dct ((l++[a]).map e) (vs++[v])):=by
 show o1 (j6 (l.map e) (e a)) _=_
 rw [K.fd,if_neg h]
 show nO _ _=_
 rw [nO,length_map,show cm (l.length+1)=true from ble_eq_true_of_le hl,map_append];rfl
theorem ri.fresh (K:ri e κ):∀(l us:List α),(us++l).Nodup->eP (l.map e) (us.map e)=true
 | [],_,_=>rfl
 |a::l,us,h=>by
  have ha:a∉us:=fun q=>(aL h).2.2 a q a (.head _) rfl
  rw [map_cons,lO,K.fd,if_neg ha]
  show eP (l.map e) (us.map e++[e a])=true
  have:=K.fresh l (us++[a]) (by rw [List.append_assoc];exact h)
  rw [map_append] at this;exact this
end
structure Kn where
 p:Nat
 g:List Bool
noncomputable instance:DecidableEq Kn:=fun a b=>Classical.propDecidable (a=b)
theorem sf:∀{a c:Kn},a.p=c.p->a.g=c.g->a=c
 | ⟨_,_⟩,⟨_,_⟩,rfl,rfl=>rfl
noncomputable def aT (k:Kn):T:=.tup [.int k.p,.tup (k.g.map .bool)]
noncomputable def EL (k:Kn):PyData:=.tuple [.int k.p,.tuple (k.g.map .bool)]
noncomputable def GH (k:Kn):Ky:=.tup [.int k.p,.tup (k.g.map fun b=>.int (b2i b))]
theorem lC (n:Nat):∀g:List Bool,iJ.go (iJ n) (g.map .bool)=some (g.map fun b=>.int (b2i b))
 | []=>rfl
 |b::g=>by
  rw [map_cons,mQ,lC n g,show iJ n (.bool b)=some (.int (b2i b)) by cases n<;>rfl];rfl
theorem Ac {a b:Bool}(h:b2i a=b2i b):a=b:=by revert h;cases a<;>cases b<;>decide
theorem jF:∀{g g':List Bool},(g.map fun b=>Ky.int (b2i b))=g'.map (fun b=>Ky.int (b2i b))->g=g'
 | [],[],_=>rfl
 | [],_::_,h=>by cases h
 |_::_,[],h=>by cases h
 |a::g,b::g',h=>by
  have h1:=List.cons.inj h
  rw [Ac (Ky.int.inj h1.1),jF h1.2]
theorem fS:ri aT GH:=⟨fun a=>by
  show o1 (iJ.go (iJ 5) [.int a.p,.tup (a.g.map .bool)]) _=_
  rw [mQ,mQ,show iJ 5 (.tup (a.g.map .bool))=some (.tup (a.g.map fun b=>.int (b2i b))) by rw [wU,lC];rfl];rfl,
 fun a c h=>by
  have h1:=List.cons.inj (Ky.tup.inj h)
  have h2:=List.cons.inj h1.2
  exact sf (ofNat.inj (Ky.int.inj h1.1)) (jF (Ky.tup.inj h2.1))⟩
theorem sB:io aT EL 2 (fun _=>True):=⟨fun a m _ hm=>by
  obtain ⟨m,rfl⟩:=Nat.exists_eq_add_of_le' hm
  show (cS (bR (m+1)) [.int a.p,.tup (a.g.map .bool)]).map PyData.tuple=_
  rw [cS,kK,cS,jg.tup.dat a.g (m+1) (fun _ _=>trivial) (le_add_left _ _)];rfl,
 fun a c=>by
  show (((a.p:Int)==(c.p:Int))&&(PyData.eqvAll (a.g.map .bool) (c.g.map .bool)&&true))=true↔_
  rw [Bool.and_true,and_eq_true,beq_iff_eq,jg.eqs]
  exact ⟨fun h=>sf (ofNat.inj h.1) h.2,fun h=>by rw [h];exact ⟨rfl,rfl⟩⟩⟩
noncomputable def lr (l:List Kn):T:=.dct (l.map aT) (l.map fun _=>.bool true)
noncomputable def C8 (b p m kn:T)(K:List Kn)(n:Nat)(th:Kn->List Kn):T:=.obj 10 [b,p,m,kn,.lst (K.map aT),.int n,.dct (K.map aT) (K.map fun k=>.lst ((th k).map aT))]
theorem BI (l:List Kn)(k:Kn):B9 (aT k) (lr l)=some (decide (k∈l)):=fS.has k
theorem tq (l:List Kn)(k:Kn):ig (aT k) (lr l)=some (!decide (k∈l)):=by show (B9 _ _).map _=_;rw [BI];rfl
theorem y3 {l:List Kn}{k:Kn}(h:k∉l)(hl:l.length < lim):i0 (lr l) (aT k) (.bool true)=some (lr (l++[k])):=by
 rw [lr,fS.put h hl,lr,map_append (f:=fun _=>T.bool true)];rfl
theorem iw (a c:Int):cA (.int a) (.int c)=some (decide (a=c)):=congrArg some (by show (a==c)=_;by_cases h:a=c<;>simp [h])
noncomputable def Gy (s:Kn×Nat):T:=.tup [aT s.1,.int s.2]
noncomputable def Gz (s:Kn×Nat):PyData:=.tuple [EL s.1,.int s.2]
theorem FC:io Gy Gz 3 (fun _=>True):=⟨fun a m _ hm=>by
  obtain ⟨m,rfl⟩:=Nat.exists_eq_add_of_le' hm
  show (cS (bR (m+2)) [aT a.1,.int a.2]).map PyData.tuple=_
  rw [cS,sB.dat a.1 (m+2) trivial (le_add_left _ _),cS,kK];rfl,
 fun a c=>by
  show (PyData.eqv (EL a.1) (EL c.1)&&(((a.2:Int)==(c.2:Int))&&true))=true↔_
  rw [Bool.and_true,and_eq_true,beq_iff_eq,sB.eq]
  exact ⟨fun h=>Prod.ext h.1 (ofNat.inj h.2),fun h=>by rw [h];exact ⟨rfl,rfl⟩⟩⟩
theorem io.some {α:Type}{e:α->T}{d:α->PyData}{n:Nat}(E:io e d n (fun _=>True))(hn:n < cf)(l:List α):jW (.lst (l.map e)) (.lst [])=Option.some (!l.isEmpty):=by
 have h1:=E.lst.dat l cf (fun _ _=>trivial) hn
 show (cA _ _).map _=_
 rw [cA,h1]
 cases l with
 |nil=>rfl
 |cons a l=>rfl
theorem xX {l:List T}{v:T}(h:l.length < lim):eV (.lst l) v=some (.lst (l++[v])):=by
 show nO _ _=_
 rw [nO,show cm (l.length+1)=true from ble_eq_true_of_le h];rfl
theorem Cg {l m:List T}(h:l.length+m.length<=lim):hU (.lst l) (.lst m)=some (.lst (l++m)):=by
 show nO _ _=_
 rw [nO,show cm (l.length+m.length)=true from ble_eq_true_of_le h];rfl
theorem b0:lim=1000000:=rfl
theorem f6 {α:Type}{e:α->T}{l:List α}(a:α)(h:l.length < lim):eV (.lst (l.map e)) (e a)=some (.lst ((l++[a]).map e)):=by
 rw [xX (by rw [length_map];exact h),map_append];rfl
theorem kH {α:Type}{e:α->T}{l m:List α}(h:l.length+m.length<=lim):hU (.lst (l.map e)) (.lst (m.map e))=some (.lst ((l++m).map e)):=by
 rw [Cg (by rw [length_map,length_map];exact h),map_append]
theorem jx {i:Nat}(h:i<=lim):sm (i:Int)=true:=ble_eq_true_of_le (le_trans (m:=i) (le_of_eq (Int.natAbs_natCast i)) (le_trans h (by decide)))
theorem iW {i n:Nat}(h:i < n):seqIndex? (i:Int) n=some i:=by
 show (if (decide (0<=(if (i:Int) < 0 then (i:Int)+n else i))&&decide ((if (i:Int) < 0 then (i:Int)+n else i) < (n:Int)))=true then some (if (i:Int) < 0 then (i:Int)+n else i).toNat else none)=some i
 rw [if_neg (Int.not_lt.mpr (natCast_nonneg i)),decide_eq_true (natCast_nonneg i),decide_eq_true (cD h)];rfl
theorem sQ {α:Type}{e:α->T}{l:List α}{i:Nat}{a:α}(h:l[i]?=some a)(hi:i<=lim):Af i (l.map e)=some (e a):=by
 rw [Af,jx hi,cond_true,iW (by rw [length_map];exact (aj h).1)]
 show (l.map e)[i]?=_
 rw [getElem?_map,h];rfl
theorem DE {α z:Type}(a:α)(f:α->Option z):o1 (some a) f=f a:=rfl
theorem zx (xs:List T)(i:Int):aw (.lst xs) (.int i)=Af i xs:=by
 rw [aw,show iD (.int i)=some i from rfl,DE,show iV (.lst xs)=some xs from rfl]
theorem b7 {α:Type}{e:α->T}{l:List α}{i:Nat}{a:α}(h:l[i]?=some a)(hi:i<=lim):aw (.lst (l.map e)) (.int i)=some (e a):=(zx _ _).trans (sQ h hi)
theorem s8 {z:Type}{f:Kn->z}{o:Kn}{v:z}:∀{K:List Kn},K.Nodup->o∈K->(K.map f).set (K.idxOf o) v=K.map fun k=>if k=o then v else f k
 |k::K,hn,ho=>by
  have h1:=aK hn
  rw [idxOf_cons]
  by_cases q:k=o
  .subst q
   rw [beq_iff_eq.mpr rfl,cond_true,map_cons,List.set_cons_zero,map_cons,if_pos rfl]
   refine congrArg _ (map_congr_left fun x hx=>?_)
   exact (if_neg fun (e:x=k)=>h1.1 (e▸hx)).symm
  .rw [beq_eq_false_iff_ne.mpr q,cond_false,map_cons,List.set_cons_succ,map_cons,if_neg q,s8 h1.2 (by cases ho with
    |head=>exact absurd rfl q
    |tail _ h=>exact h)]
theorem qy {K:List Kn}{kn:Kn}(hK:K.Nodup):∀(os:List Kn) (h:Kn->List Kn),(∀o∈os,o∈K)->(∀k,(h k).length+os.length<=lim)->
  ∃h':Kn->List Kn,jz (K.map aT) (aT kn) (os.map aT) (K.map fun k=>(h k).map aT)=some (K.map fun k=>(h' k).map aT)/\(∀k x,x∈h' k↔x∈h k\/(x=kn/\k∈os))/\∀k,(h' k).length<=(h k).length+os.length
 | [],h,_,_=>⟨h,rfl,fun k x=>⟨.inl,fun q=>q.elim id fun q=>nomatch q.2⟩,fun k=>le_refl _⟩
 |o::os,h,hs,hl=>by
  have ho:=hs o (.head _)
  have l1:cm ((h o).length+1)=true:=ble_eq_true_of_le (by have:=hl o;rw [length_cons] at this;lia -abstractProof)
  obtain ⟨h',e1,e2,e3⟩:=qy (kn:=kn) hK os (fun k=>if k=o then h k++[kn] else h k) (fun x hx=>hs x (.tail _ hx)) fun k=>by
   have:=hl k
   rw [length_cons] at this
   by_cases q:k=o
   .simp only [if_pos q,List.length_append,length_cons,length_nil];lia
   .simp only [if_neg q];lia
  refine ⟨h',?_,fun k x=>?_,fun k=>?_⟩
  .rw [map_cons,BP,fS.fd,if_pos ho]
   show (o1 (K.map fun k=>(h k).map aT)[K.idxOf o]? _)=_
   rw [o4 _ ho]
   show (bif cm (((h o).map aT).length+1) then jz _ _ _ ((K.map fun k=>(h k).map aT).set (K.idxOf o) ((h o).map aT++[aT kn])) else none)=_
   rw [length_map,l1,cond_true,s8 hK ho,<-e1]
   congr 1
   refine map_congr_left fun k hk=>?_
   by_cases q:k=o
   .rw [if_pos q,if_pos q,q,map_append];rfl
   .rw [if_neg q,if_neg q]
  .refine (e2 k x).trans ?_
   by_cases q:k=o
   .rw [if_pos q,mem_append,mem_singleton]
    constructor
    .rintro ((h |h) |h)
     .exact .inl h
     .exact .inr ⟨h,q▸.head _⟩
     .exact .inr ⟨h.1,.tail _ h.2⟩
    .rintro (h |h)
     .exact .inl (.inl h)
     .exact .inl (.inr h.1)
   .rw [if_neg q,mem_cons]
    exact ⟨fun h=>h.imp id fun h=>⟨h.1,.inr h.2⟩,fun h=>h.imp id fun h=>⟨h.1,h.2.resolve_left q⟩⟩
  .have:=e3 k
   rw [length_cons]
   by_cases q:k=o
   .simp only [if_pos q,List.length_append,length_cons,length_nil] at this;lia
   .simp only [if_neg q] at this;lia
theorem qw {K:List Kn}{th:Kn->List Kn}(hK:K.Nodup)(hc:∀k∈K,∀y∈th k,y∈K)(hw:∀k∈K,(th k).length<=1000):∀(ns:List Kn) (h:Kn->List Kn),(∀n∈ns,n∈K)->(∀k,(h k).length+ns.length * 1000<=lim)->
  ∃h':Kn->List Kn,qx (K.map aT) (.dct (K.map aT) (K.map fun k=>.lst ((th k).map aT))) (ns.map aT) (K.map fun k=>(h k).map aT)=some (K.map fun k=>(h' k).map aT)/\∀k x,x∈h' k↔x∈h k\/(x∈ns/\k∈th x)
 | [],h,_,_=>⟨h,rfl,fun k x=>⟨.inl,fun q=>q.elim id fun q=>nomatch q.1⟩⟩
 |n::ns,h,hs,hl=>by
  have hn:=hs n (.head _)
  have lw:=hw n hn
  obtain ⟨ha,e1,e2,e3⟩:=qy (kn:=n) hK (th n) h (fun o ho=>hc n hn o ho) fun k=>by have:=hl k;rw [length_cons] at this;lia
  obtain ⟨h2,e4,e5⟩:=qw hK hc hw ns ha (fun x hx=>hs x (.tail _ hx)) fun k=>by have:=hl k;have:=e3 k;rw [length_cons] at *;lia
  refine ⟨h2,?_,fun k x=>?_⟩
  .rw [map_cons,BO,fS.get hn]
   show (o1 (jz (K.map aT) (aT n) ((th n).map aT) _) _)=_
   rw [e1];exact e4
  .rw [e5,e2]
   constructor
   .rintro ((h | ⟨rfl,h⟩) | ⟨h,h'⟩)
    .exact .inl h
    .exact .inr ⟨.head _,h⟩
    .exact .inr ⟨.tail _ h,h'⟩
   .rintro (h | ⟨h,h'⟩)
    .exact .inl (.inl h)
    .rcases an h with rfl |h
     .exact .inl (.inr ⟨rfl,h'⟩)
     .exact .inr ⟨h,h'⟩
theorem EK {b p m kn:T}{K:List Kn}{bg:Nat}{th:Kn->List Kn}(hK:K.Nodup)(hl:K.length<=1000)(hc:∀k∈K,∀y∈th k,y∈K)(hw:∀k∈K,(th k).length<=1000):
  ∃bk:Kn->List Kn,BN (C8 b p m kn K bg th)=some (.dct (K.map aT) (K.map fun k=>.lst ((bk k).map aT)))/\∀k x,x∈bk k↔x∈K/\k∈th x:=by
 obtain ⟨bk,e1,e2⟩:=qw hK hc hw K (fun _=>[]) (fun _ h=>h) fun k=>by rw [b0,length_nil];lia -abstractProof
 refine ⟨bk,?_,fun k x=>⟨fun h=>((e2 k x).mp h).elim (fun h=>nomatch h) id,fun h=>(e2 k x).mpr (.inr h)⟩⟩
 show (bif cm (K.map aT).length&&eP (K.map aT) [] then o1 (qx (K.map aT) _ (K.map aT) ((K.map aT).map fun _=>[])) fun ds=>some (T.dct (K.map aT) (ds.map .lst)) else none)=_
 have f1:cm (K.map aT).length=true:=by rw [length_map];exact ble_eq_true_of_le (by rw [b0];lia -abstractProof)
 have f2:eP (K.map aT) []=true:=fS.fresh K [] hK
 rw [f1,f2,map_map]
 show o1 (qx _ _ _ (K.map fun k=>((fun _=>[]) k:List Kn).map aT)) _=_
 rw [e1]
 show some (T.dct (K.map aT) ((K.map fun k=>(bk k).map aT).map .lst))=_
 rw [map_map];rfl
theorem vU (n:Nat):Builtin.Range.rangeSize 0 n 1=n:=by
 unfold Builtin.Range.rangeSize
 simp only [show (1:Int) > 0 by decide,if_true,ediv_one]
 split<;>lia -abstractProof
theorem k6 {n:Nat}(h:n<=100000):yk [.int n]=some ((List.range n).map fun j:Nat=>T.int j):=by
 have e:cV 0 n 1=(List.range n).map fun j:Nat=>T.int j:=by
  rw [cV,vU]
  exact map_congr_left fun k _=>by rw [Int.zero_add,Int.mul_one]
 unfold yk
 show rg 0 n=_
 rw [rg,e,show sm 0=true from rfl,jx (by rw [b0];lia),length_map,length_range,show cm n=true from ble_eq_true_of_le (by rw [b0];lia)];rfl
theorem iq {α:Type}(q:α->Bool):∀C:List α,e9 (C.map fun k=>.bool (q k))=some (C.map q)
 | []=>rfl
 |a::C=>by rw [map_cons,e9,iq q C];rfl
theorem any_map {α:Type}(C:List α)(q:α->Bool):Ag (.lst (C.map fun k=>.bool (q k)))=some (.bool (C.any q)):=by
 show o1 (e9 _) _=_
 rw [iq]
 exact congrArg (fun b=>some (T.bool b)) (List.any_map.trans rfl)
theorem all_map {α:Type}(C:List α)(q:α->Bool):js (.lst (C.map fun k=>.bool (q k)))=some (.bool (C.all q)):=by
 show o1 (e9 _) _=_
 rw [iq]
 exact congrArg (fun b=>some (T.bool b)) (List.all_map.trans rfl)
theorem Eg {α:Type}(l:List α):cut (some 1) none l=l.drop 1:=by
 cases l with
 |nil=>rfl
 |cons a l=>
  have e:clipAt (a::l).length 1=1:=(l6 _ 1).trans (Nat.min_eq_left (succ_le_succ (zero_le _)))
  simp only [cut,Option.elim,e]
  rw [List.drop_one,List.tail_cons,length_cons,Nat.add_sub_cancel,take_length]
theorem pj {α:Type}(n:Nat)(l:List α):cut none (some (n:Int)) l=l.take n:=by
 have e:clipAt l.length n=min n l.length:=l6 _ _
 simp only [cut,Option.elim,e,drop_zero,Nat.sub_zero]
 rw [<-List.take_take,take_length]
theorem Ef {α:Type}(l:List α):cut none (some (-1)) l=l.dropLast:=by
 have e:clipAt l.length (-1)=l.length - 1:=tZ _
 simp only [cut,Option.elim,e,drop_zero,Nat.sub_zero,List.dropLast_eq_take]
theorem Ee {α:Type}(l:List α)(a:α):cut (some (-1)) none (l++[a])=[a]:=by
 have e:clipAt (l++[a]).length (-1)=l.length:=by rw [tZ,List.length_append];rfl
 simp only [cut,Option.elim,e]
 rw [List.drop_left,List.length_append,length_cons,length_nil,Nat.add_sub_cancel_left];rfl
theorem tV {α z:Type}(f:α->z)(lo hi:Option Int)(l:List α):cut lo hi (l.map f)=(cut lo hi l).map f:=by
 unfold cut;rw [length_map,List.map_take,List.map_drop]
end
end Mine
namespace Mine.L06
noncomputable section
open PySem
noncomputable abbrev kE (f:Nat):PK aZ:=fun _ σ=>bif j4 f then .bad else .ret .none σ
theorem aC {n f:Nat}{args:List T}{σ:Sg}{F:gj}{o:c7}(h:Ψ f=some F)(hl:Nat.beq args.length F.np=true)(hb:F.body ⟨ah Ψ n⟩ (frame args F.ns) σ (kE f)=o)(ho:(match o with |.ret _ _=>true |.exc _ _=>true |_=>false)=true):ah Ψ (n+1) f args σ=o:=by
 rw [t5,h]
 show (bif Nat.beq args.length F.np then (match F.body ⟨ah Ψ n⟩ (frame args F.ns) σ (kE f) with
  |.ret t σ=>c7.ret t σ
  |.exc c σ=>.exc c σ
  |_=>.bad) else .bad)=o
 rw [hl,hb]
 cases o<;>first |rfl |cases ho
theorem aW {n f:Nat}{args:List T}{σ:Sg}{F:gj}{Q:T->Sg->Prop}(h:Ψ f=some F)(hl:Nat.beq args.length F.np=true)(hb:aP Q (F.body ⟨ah Ψ n⟩ (frame args F.ns) σ (kE f))):aP Q (ah Ψ (n+1) f args σ):=by
 obtain ⟨t,σ',h1,h2⟩:=hb
 exact ⟨t,σ',aC h hl h1 rfl,h2⟩
theorem u8 {n:Nat}{a0:T}{σ σ':Sg}{t:T}(h:fy ⟨ah Ψ n⟩ [some a0,none] σ (kE 1)=.ret t σ'):ah Ψ (n+1) 1 [a0] σ=.ret t σ':=aC (F:=⟨1,1,fy⟩) rfl rfl h rfl
theorem sI {n:Nat}{a0:T}{σ σ':Sg}{t:T}(h:eG ⟨ah Ψ n⟩ [some a0] σ (kE 2)=.ret t σ'):ah Ψ (n+1) 2 [a0] σ=.ret t σ':=aC (F:=⟨1,0,eG⟩) rfl rfl h rfl
theorem mf {n:Nat}{a0:T}{σ σ':Sg}{t:T}(h:eJ ⟨ah Ψ n⟩ [some a0] σ (kE 3)=.ret t σ'):ah Ψ (n+1) 3 [a0] σ=.ret t σ':=aC (F:=⟨1,0,eJ⟩) rfl rfl h rfl
theorem qR {n:Nat}{a0 a1:T}{σ σ':Sg}{t:T}(h:dN ⟨ah Ψ n⟩ [some a0,some a1,none] σ (kE 4)=.ret t σ'):ah Ψ (n+1) 4 [a0,a1] σ=.ret t σ':=aC (F:=⟨2,1,dN⟩) rfl rfl h rfl
theorem qS {n:Nat}{a0:T}{σ σ':Sg}{t:T}(h:dO ⟨ah Ψ n⟩ [some a0] σ (kE 5)=.ret t σ'):ah Ψ (n+1) 5 [a0] σ=.ret t σ':=aC (F:=⟨1,0,dO⟩) rfl rfl h rfl
theorem qQ {n:Nat}{a0:T}{σ σ':Sg}{t:T}(h:dM ⟨ah Ψ n⟩ [some a0,none] σ (kE 6)=.ret t σ'):ah Ψ (n+1) 6 [a0] σ=.ret t σ':=aC (F:=⟨1,1,dM⟩) rfl rfl h rfl
theorem sK {n:Nat}{a0:T}{σ σ':Sg}{t:T}(h:eK ⟨ah Ψ n⟩ [some a0,none,none,none,none] σ (kE 500)=.ret t σ'):ah Ψ (n+1) 500 [a0] σ=.ret t σ':=aC (F:=⟨1,4,eK⟩) rfl rfl h rfl
theorem m4 {n:Nat}{a0:T}{σ σ':Sg}{t:T}(h:cM ⟨ah Ψ n⟩ [some a0] σ (kE 7)=.ret t σ'):ah Ψ (n+1) 7 [a0] σ=.ret t σ':=aC (F:=⟨1,0,cM⟩) rfl rfl h rfl
theorem cR {n:Nat}{a0:T}{σ σ':Sg}{t:T}(h:cO ⟨ah Ψ n⟩ [some a0,none,none,none,none] σ (kE 8)=.ret t σ'):ah Ψ (n+1) 8 [a0] σ=.ret t σ':=aC (F:=⟨1,4,cO⟩) rfl rfl h rfl
theorem u9 {n:Nat}{a0 a1 a2:T}{σ σ':Sg}{t:T}(h:fB ⟨ah Ψ n⟩ [some a0,some a1,some a2] σ (kE 9)=.ret t σ'):ah Ψ (n+1) 9 [a0,a1,a2] σ=.ret t σ':=aC (F:=⟨3,0,fB⟩) rfl rfl h rfl
theorem eu {n:Nat}{a0 a1 a2 a3:T}{σ σ':Sg}{t:T}(h:i4 ⟨ah Ψ n⟩ [some a0,some a1,some a2,some a3,none] σ (kE 10)=.ret t σ'):ah Ψ (n+1) 10 [a0,a1,a2,a3] σ=.ret t σ':=aC (F:=⟨4,1,i4⟩) rfl rfl h rfl
theorem mc {n:Nat}{a0 a1 a2 a3:T}{σ σ':Sg}{t:T}(h:gA ⟨ah Ψ n⟩ [some a0,some a1,some a2,some a3] σ (kE 11)=.ret t σ'):ah Ψ (n+1) 11 [a0,a1,a2,a3] σ=.ret t σ':=aC (F:=⟨4,0,gA⟩) rfl rfl h rfl
theorem vb {n:Nat}{a0 a1 a2:T}{σ σ':Sg}{t:T}(h:fC ⟨ah Ψ n⟩ [some a0,some a1,some a2,none] σ (kE 12)=.ret t σ'):ah Ψ (n+1) 12 [a0,a1,a2] σ=.ret t σ':=aC (F:=⟨3,1,fC⟩) rfl rfl h rfl
theorem mZ {n:Nat}{a0:T}{σ σ':Sg}{t:T}(h:cL ⟨ah Ψ n⟩ [some a0,none] σ (kE 13)=.ret t σ'):ah Ψ (n+1) 13 [a0] σ=.ret t σ':=aC (F:=⟨1,1,cL⟩) rfl rfl h rfl
theorem md {n:Nat}{a0 a1 a2 a3:T}{σ σ':Sg}{t:T}(h:gC ⟨ah Ψ n⟩ [some a0,some a1,some a2,some a3] σ (kE 14)=.ret t σ'):ah Ψ (n+1) 14 [a0,a1,a2,a3] σ=.ret t σ':=aC (F:=⟨4,0,gC⟩) rfl rfl h rfl
theorem sJ {n:Nat}{a0 a1:T}{σ σ':Sg}{t:T}(h:eH ⟨ah Ψ n⟩ [some a0,some a1] σ (kE 15)=.ret t σ'):ah Ψ (n+1) 15 [a0,a1] σ=.ret t σ':=aC (F:=⟨2,0,eH⟩) rfl rfl h rfl
theorem m5 {n:Nat}{a0 a1:T}{σ σ':Sg}{t:T}(h:cN ⟨ah Ψ n⟩ [some a0,some a1,none,none] σ (kE 16)=.ret t σ'):ah Ψ (n+1) 16 [a0,a1] σ=.ret t σ':=aC (F:=⟨2,2,cN⟩) rfl rfl h rfl
theorem xL {n:Nat}{a0 a1:T}{σ σ':Sg}{t:T}(h:cv ⟨ah Ψ n⟩ [some a0,some a1] σ (kE 17)=.ret t σ'):ah Ψ (n+1) 17 [a0,a1] σ=.ret t σ':=aC (F:=⟨2,0,cv⟩) rfl rfl h rfl
theorem AW {n:Nat}{a0 a1:T}{σ σ':Sg}{t:T}(h:dS ⟨ah Ψ n⟩ [some a0,some a1,none] σ (kE 18)=.ret t σ'):ah Ψ (n+1) 18 [a0,a1] σ=.ret t σ':=aC (F:=⟨2,1,dS⟩) rfl rfl h rfl
theorem zY {n:Nat}{a0:T}{σ σ':Sg}{t:T}(h:dg ⟨ah Ψ n⟩ [some a0,none,none,none,none,none,none,none,none,none] σ (kE 19)=.ret t σ'):ah Ψ (n+1) 19 [a0] σ=.ret t σ':=aC (F:=⟨1,9,dg⟩) rfl rfl h rfl
theorem AV {n:Nat}{a0 a1 a2 a3:T}{σ σ':Sg}{t:T}(h:dQ ⟨ah Ψ n⟩ [some a0,some a1,some a2,some a3,none,none,none,none,none] σ (kE 20)=.ret t σ'):ah Ψ (n+1) 20 [a0,a1,a2,a3] σ=.ret t σ':=aC (F:=⟨4,5,dQ⟩) rfl rfl h rfl
theorem mh {n:Nat}{a0:T}{σ σ':Sg}{t:T}(h:eM ⟨ah Ψ n⟩ [some a0,none,none] σ (kE 21)=.ret t σ'):ah Ψ (n+1) 21 [a0] σ=.ret t σ':=aC (F:=⟨1,2,eM⟩) rfl rfl h rfl
theorem pF {n:Nat}{a0:T}{σ σ':Sg}{t:T}(h:dj ⟨ah Ψ n⟩ [some a0,none,none,none,none] σ (kE 22)=.ret t σ'):ah Ψ (n+1) 22 [a0] σ=.ret t σ':=aC (F:=⟨1,4,dj⟩) rfl rfl h rfl
theorem Cu {n:Nat}{a0 a1:T}{σ σ':Sg}{t:T}(h:eL ⟨ah Ψ n⟩ [some a0,some a1] σ (kE 23)=.ret t σ'):ah Ψ (n+1) 23 [a0,a1] σ=.ret t σ':=aC (F:=⟨2,0,eL⟩) rfl rfl h rfl
theorem AU {n:Nat}{a0 a1 a2:T}{σ σ':Sg}{t:T}(h:dP ⟨ah Ψ n⟩ [some a0,some a1,some a2,none,none,none] σ (kE 24)=.ret t σ'):ah Ψ (n+1) 24 [a0,a1,a2] σ=.ret t σ':=aC (F:=⟨3,3,dP⟩) rfl rfl h rfl
theorem xK {n:Nat}{a0 a1 a2 a3:T}{σ σ':Sg}{t:T}(h:cr ⟨ah Ψ n⟩ [some a0,some a1,some a2,some a3,none,none,none,none,none,none] σ (kE 25)=.ret t σ'):ah Ψ (n+1) 25 [a0,a1,a2,a3] σ=.ret t σ':=aC (F:=⟨4,6,cr⟩) rfl rfl h rfl
theorem cF {n:Nat}{a0 a1 a2 a3:T}{σ σ':Sg}{t:T}(h:dG ⟨ah Ψ n⟩ [some a0,some a1,some a2,some a3,none,none,none] σ (kE 26)=.ret t σ'):ah Ψ (n+1) 26 [a0,a1,a2,a3] σ=.ret t σ':=aC (F:=⟨4,3,dG⟩) rfl rfl h rfl
theorem vc {n:Nat}{a0 a1 a2 a3 a4:T}{σ σ':Sg}{t:T}(h:fE ⟨ah Ψ n⟩ [some a0,some a1,some a2,some a3,some a4,none,none,none,none,none] σ (kE 27)=.ret t σ'):ah Ψ (n+1) 27 [a0,a1,a2,a3,a4] σ=.ret t σ':=aC (F:=⟨5,5,fE⟩) rfl rfl h rfl
theorem fY {n:Nat}{a0 a1 a2 a3:T}{σ σ':Sg}{t:T}(h:di ⟨ah Ψ n⟩ [some a0,some a1,some a2,some a3,none] σ (kE 28)=.ret t σ'):ah Ψ (n+1) 28 [a0,a1,a2,a3] σ=.ret t σ':=aC (F:=⟨4,1,di⟩) rfl rfl h rfl
theorem cB {n:Nat}{a0:T}{σ σ':Sg}{t:T}(h:cu ⟨ah Ψ n⟩ [some a0,none,none] σ (kE 29)=.ret t σ'):ah Ψ (n+1) 29 [a0] σ=.ret t σ':=aC (F:=⟨1,2,cu⟩) rfl rfl h rfl
theorem yv {n:Nat}{a0:T}{σ σ':Sg}{t:T}(h:cP ⟨ah Ψ n⟩ [some a0,none,none] σ (kE 30)=.ret t σ'):ah Ψ (n+1) 30 [a0] σ=.ret t σ':=aC (F:=⟨1,2,cP⟩) rfl rfl h rfl
theorem m6 {n:Nat}{a0 a1 a2:T}{σ σ':Sg}{t:T}(h:cQ ⟨ah Ψ n⟩ [some a0,some a1,some a2,none,none,none,none,none] σ (kE 31)=.ret t σ'):ah Ψ (n+1) 31 [a0,a1,a2] σ=.ret t σ':=aC (F:=⟨3,5,cQ⟩) rfl rfl h rfl
theorem pG {n:Nat}{a0 a1 a2:T}{σ σ':Sg}{t:T}(h:dk ⟨ah Ψ n⟩ [some a0,some a1,some a2,none,none,none] σ (kE 501)=.ret t σ'):ah Ψ (n+1) 501 [a0,a1,a2] σ=.ret t σ':=aC (F:=⟨3,3,dk⟩) rfl rfl h rfl
theorem qT {n:Nat}{a0 a1:T}{σ σ':Sg}{t:T}(h:dR ⟨ah Ψ n⟩ [some a0,some a1] σ (kE 32)=.ret t σ'):ah Ψ (n+1) 32 [a0,a1] σ=.ret t σ':=aC (F:=⟨2,0,dR⟩) rfl rfl h rfl
theorem pE {n:Nat}{a0 a1 a2:T}{σ σ':Sg}{t:T}(h:df ⟨ah Ψ n⟩ [some a0,some a1,some a2,none,none,none,none,none,none,none,none,none,none,none] σ (kE 33)=.ret t σ'):ah Ψ (n+1) 33 [a0,a1,a2] σ=.ret t σ':=aC (F:=⟨3,11,df⟩) rfl rfl h rfl
theorem xM {n:Nat}{a0 a1 a2:T}{σ σ':Sg}{t:T}(h:cw ⟨ah Ψ n⟩ [some a0,some a1,some a2,none,none] σ (kE 1001)=.ret t σ'):ah Ψ (n+1) 1001 [a0,a1,a2] σ=.ret t σ':=aC (F:=⟨3,2,cw⟩) rfl rfl h rfl
theorem Cv {n:Nat}{a0:T}{σ σ':Sg}{t:T}(h:eN ⟨ah Ψ n⟩ [some a0,none,none,none,none,none] σ (kE 1002)=.ret t σ'):ah Ψ (n+1) 1002 [a0] σ=.ret t σ':=aC (F:=⟨1,5,eN⟩) rfl rfl h rfl
theorem zZ {n:Nat}{a0 a1:T}{σ σ':Sg}{t:T}(h:dq ⟨ah Ψ n⟩ [some a0,some a1,none,none,none,none] σ (kE 1003)=.ret t σ'):ah Ψ (n+1) 1003 [a0,a1] σ=.ret t σ':=aC (F:=⟨2,4,dq⟩) rfl rfl h rfl
theorem qU {n:Nat}{a0 a1 a2:T}{σ σ':Sg}{t:T}(h:bp ⟨ah Ψ n⟩ [some a0,some a1,some a2,none,none] σ (kE 1004)=.ret t σ'):ah Ψ (n+1) 1004 [a0,a1,a2] σ=.ret t σ':=aC (F:=⟨3,2,bp⟩) rfl rfl h rfl
theorem jS {n:Nat}{a0 a1 a2:T}{σ σ':Sg}{t:T}(h:dT ⟨ah Ψ n⟩ [some a0,some a1,some a2] σ (kE 1005)=.ret t σ'):ah Ψ (n+1) 1005 [a0,a1,a2] σ=.ret t σ':=aC (F:=⟨3,0,dT⟩) rfl rfl h rfl
theorem iy {n:Nat}{a0 a1 a2 a3:T}{σ σ':Sg}{t:T}(h:bB ⟨ah Ψ n⟩ [some a0,some a1,some a2,some a3,none,none,none] σ (kE 1006)=.ret t σ'):ah Ψ (n+1) 1006 [a0,a1,a2,a3] σ=.ret t σ':=aC (F:=⟨4,3,bB⟩) rfl rfl h rfl
theorem mi {n:Nat}{a0 a1:T}{σ σ':Sg}{t:T}(h:cz ⟨ah Ψ n⟩ [some a0,some a1] σ (kE 1007)=.ret t σ'):ah Ψ (n+1) 1007 [a0,a1] σ=.ret t σ':=aC (F:=⟨2,0,cz⟩) rfl rfl h rfl
theorem j7 {n:Nat}{a0 a1:T}{σ σ':Sg}{t:T}(h:cb ⟨ah Ψ n⟩ [some a0,some a1] σ (kE 1008)=.ret t σ'):ah Ψ (n+1) 1008 [a0,a1] σ=.ret t σ':=aC (F:=⟨2,0,cb⟩) rfl rfl h rfl
theorem jE {n:Nat}{a0:T}{σ σ':Sg}{t:T}(h:bP ⟨ah Ψ n⟩ [some a0] σ (kE 1009)=.ret t σ'):ah Ψ (n+1) 1009 [a0] σ=.ret t σ':=aC (F:=⟨1,0,bP⟩) rfl rfl h rfl
theorem CN {n:Nat}{a0:T}{σ:Sg}{Q:T->Sg->Prop}(h:aP Q (fy ⟨ah Ψ n⟩ [some a0,none] σ (kE 1))):aP Q (ah Ψ (n+1) 1 [a0] σ):=aW (F:=⟨1,1,fy⟩) rfl rfl h
theorem Br {n:Nat}{a0:T}{σ:Sg}{Q:T->Sg->Prop}(h:aP Q (eG ⟨ah Ψ n⟩ [some a0] σ (kE 2))):aP Q (ah Ψ (n+1) 2 [a0] σ):=aW (F:=⟨1,0,eG⟩) rfl rfl h
theorem Bu {n:Nat}{a0:T}{σ:Sg}{Q:T->Sg->Prop}(h:aP Q (eJ ⟨ah Ψ n⟩ [some a0] σ (kE 3))):aP Q (ah Ψ (n+1) 3 [a0] σ):=aW (F:=⟨1,0,eJ⟩) rfl rfl h
theorem AB {n:Nat}{a0 a1:T}{σ:Sg}{Q:T->Sg->Prop}(h:aP Q (dN ⟨ah Ψ n⟩ [some a0,some a1,none] σ (kE 4))):aP Q (ah Ψ (n+1) 4 [a0,a1] σ):=aW (F:=⟨2,1,dN⟩) rfl rfl h
theorem AC {n:Nat}{a0:T}{σ:Sg}{Q:T->Sg->Prop}(h:aP Q (dO ⟨ah Ψ n⟩ [some a0] σ (kE 5))):aP Q (ah Ψ (n+1) 5 [a0] σ):=aW (F:=⟨1,0,dO⟩) rfl rfl h
theorem AA {n:Nat}{a0:T}{σ:Sg}{Q:T->Sg->Prop}(h:aP Q (dM ⟨ah Ψ n⟩ [some a0,none] σ (kE 6))):aP Q (ah Ψ (n+1) 6 [a0] σ):=aW (F:=⟨1,1,dM⟩) rfl rfl h
theorem Bv {n:Nat}{a0:T}{σ:Sg}{Q:T->Sg->Prop}(h:aP Q (eK ⟨ah Ψ n⟩ [some a0,none,none,none,none] σ (kE 500))):aP Q (ah Ψ (n+1) 500 [a0] σ):=aW (F:=⟨1,4,eK⟩) rfl rfl h
theorem ym {n:Nat}{a0:T}{σ:Sg}{Q:T->Sg->Prop}(h:aP Q (cM ⟨ah Ψ n⟩ [some a0] σ (kE 7))):aP Q (ah Ψ (n+1) 7 [a0] σ):=aW (F:=⟨1,0,cM⟩) rfl rfl h
theorem yo {n:Nat}{a0:T}{σ:Sg}{Q:T->Sg->Prop}(h:aP Q (cO ⟨ah Ψ n⟩ [some a0,none,none,none,none] σ (kE 8))):aP Q (ah Ψ (n+1) 8 [a0] σ):=aW (F:=⟨1,4,cO⟩) rfl rfl h
theorem CO {n:Nat}{a0 a1 a2:T}{σ:Sg}{Q:T->Sg->Prop}(h:aP Q (fB ⟨ah Ψ n⟩ [some a0,some a1,some a2] σ (kE 9))):aP Q (ah Ψ (n+1) 9 [a0,a1,a2] σ):=aW (F:=⟨3,0,fB⟩) rfl rfl h
theorem ED {n:Nat}{a0 a1 a2 a3:T}{σ:Sg}{Q:T->Sg->Prop}(h:aP Q (i4 ⟨ah Ψ n⟩ [some a0,some a1,some a2,some a3,none] σ (kE 10))):aP Q (ah Ψ (n+1) 10 [a0,a1,a2,a3] σ):=aW (F:=⟨4,1,i4⟩) rfl rfl h
theorem Dq {n:Nat}{a0 a1 a2 a3:T}{σ:Sg}{Q:T->Sg->Prop}(h:aP Q (gA ⟨ah Ψ n⟩ [some a0,some a1,some a2,some a3] σ (kE 11))):aP Q (ah Ψ (n+1) 11 [a0,a1,a2,a3] σ):=aW (F:=⟨4,0,gA⟩) rfl rfl h
theorem CP {n:Nat}{a0 a1 a2:T}{σ:Sg}{Q:T->Sg->Prop}(h:aP Q (fC ⟨ah Ψ n⟩ [some a0,some a1,some a2,none] σ (kE 12))):aP Q (ah Ψ (n+1) 12 [a0,a1,a2] σ):=aW (F:=⟨3,1,fC⟩) rfl rfl h
theorem yl {n:Nat}{a0:T}{σ:Sg}{Q:T->Sg->Prop}(h:aP Q (cL ⟨ah Ψ n⟩ [some a0,none] σ (kE 13))):aP Q (ah Ψ (n+1) 13 [a0] σ):=aW (F:=⟨1,1,cL⟩) rfl rfl h
theorem Dr {n:Nat}{a0 a1 a2 a3:T}{σ:Sg}{Q:T->Sg->Prop}(h:aP Q (gC ⟨ah Ψ n⟩ [some a0,some a1,some a2,some a3] σ (kE 14))):aP Q (ah Ψ (n+1) 14 [a0,a1,a2,a3] σ):=aW (F:=⟨4,0,gC⟩) rfl rfl h
theorem Bs {n:Nat}{a0 a1:T}{σ:Sg}{Q:T->Sg->Prop}(h:aP Q (eH ⟨ah Ψ n⟩ [some a0,some a1] σ (kE 15))):aP Q (ah Ψ (n+1) 15 [a0,a1] σ):=aW (F:=⟨2,0,eH⟩) rfl rfl h
theorem yn {n:Nat}{a0 a1:T}{σ:Sg}{Q:T->Sg->Prop}(h:aP Q (cN ⟨ah Ψ n⟩ [some a0,some a1,none,none] σ (kE 16))):aP Q (ah Ψ (n+1) 16 [a0,a1] σ):=aW (F:=⟨2,2,cN⟩) rfl rfl h
theorem lc {n:Nat}{a0 a1:T}{σ:Sg}{Q:T->Sg->Prop}(h:aP Q (cv ⟨ah Ψ n⟩ [some a0,some a1] σ (kE 17))):aP Q (ah Ψ (n+1) 17 [a0,a1] σ):=aW (F:=⟨2,0,cv⟩) rfl rfl h
theorem qg {n:Nat}{a0 a1:T}{σ:Sg}{Q:T->Sg->Prop}(h:aP Q (dS ⟨ah Ψ n⟩ [some a0,some a1,none] σ (kE 18))):aP Q (ah Ψ (n+1) 18 [a0,a1] σ):=aW (F:=⟨2,1,dS⟩) rfl rfl h
theorem oh {n:Nat}{a0:T}{σ:Sg}{Q:T->Sg->Prop}(h:aP Q (dg ⟨ah Ψ n⟩ [some a0,none,none,none,none,none,none,none,none,none] σ (kE 19))):aP Q (ah Ψ (n+1) 19 [a0] σ):=aW (F:=⟨1,9,dg⟩) rfl rfl h
theorem qf {n:Nat}{a0 a1 a2 a3:T}{σ:Sg}{Q:T->Sg->Prop}(h:aP Q (dQ ⟨ah Ψ n⟩ [some a0,some a1,some a2,some a3,none,none,none,none,none] σ (kE 20))):aP Q (ah Ψ (n+1) 20 [a0,a1,a2,a3] σ):=aW (F:=⟨4,5,dQ⟩) rfl rfl h
theorem Bw {n:Nat}{a0:T}{σ:Sg}{Q:T->Sg->Prop}(h:aP Q (eM ⟨ah Ψ n⟩ [some a0,none,none] σ (kE 21))):aP Q (ah Ψ (n+1) 21 [a0] σ):=aW (F:=⟨1,2,eM⟩) rfl rfl h
theorem yQ {n:Nat}{a0:T}{σ:Sg}{Q:T->Sg->Prop}(h:aP Q (dj ⟨ah Ψ n⟩ [some a0,none,none,none,none] σ (kE 22))):aP Q (ah Ψ (n+1) 22 [a0] σ):=aW (F:=⟨1,4,dj⟩) rfl rfl h
theorem rO {n:Nat}{a0 a1:T}{σ:Sg}{Q:T->Sg->Prop}(h:aP Q (eL ⟨ah Ψ n⟩ [some a0,some a1] σ (kE 23))):aP Q (ah Ψ (n+1) 23 [a0,a1] σ):=aW (F:=⟨2,0,eL⟩) rfl rfl h
theorem qe {n:Nat}{a0 a1 a2:T}{σ:Sg}{Q:T->Sg->Prop}(h:aP Q (dP ⟨ah Ψ n⟩ [some a0,some a1,some a2,none,none,none] σ (kE 24))):aP Q (ah Ψ (n+1) 24 [a0,a1,a2] σ):=aW (F:=⟨3,3,dP⟩) rfl rfl h
theorem k9 {n:Nat}{a0 a1 a2 a3:T}{σ:Sg}{Q:T->Sg->Prop}(h:aP Q (cr ⟨ah Ψ n⟩ [some a0,some a1,some a2,some a3,none,none,none,none,none,none] σ (kE 25))):aP Q (ah Ψ (n+1) 25 [a0,a1,a2,a3] σ):=aW (F:=⟨4,6,cr⟩) rfl rfl h
theorem CQ {n:Nat}{a0 a1 a2 a3:T}{σ:Sg}{Q:T->Sg->Prop}(h:aP Q (dG ⟨ah Ψ n⟩ [some a0,some a1,some a2,some a3,none,none,none] σ (kE 26))):aP Q (ah Ψ (n+1) 26 [a0,a1,a2,a3] σ):=aW (F:=⟨4,3,dG⟩) rfl rfl h
theorem CR {n:Nat}{a0 a1 a2 a3 a4:T}{σ:Sg}{Q:T->Sg->Prop}(h:aP Q (fE ⟨ah Ψ n⟩ [some a0,some a1,some a2,some a3,some a4,none,none,none,none,none] σ (kE 27))):aP Q (ah Ψ (n+1) 27 [a0,a1,a2,a3,a4] σ):=aW (F:=⟨5,5,fE⟩) rfl rfl h
theorem yP {n:Nat}{a0 a1 a2 a3:T}{σ:Sg}{Q:T->Sg->Prop}(h:aP Q (di ⟨ah Ψ n⟩ [some a0,some a1,some a2,some a3,none] σ (kE 28))):aP Q (ah Ψ (n+1) 28 [a0,a1,a2,a3] σ):=aW (F:=⟨4,1,di⟩) rfl rfl h
theorem v8 {n:Nat}{a0:T}{σ:Sg}{Q:T->Sg->Prop}(h:aP Q (cu ⟨ah Ψ n⟩ [some a0,none,none] σ (kE 29))):aP Q (ah Ψ (n+1) 29 [a0] σ):=aW (F:=⟨1,2,cu⟩) rfl rfl h
theorem yp {n:Nat}{a0:T}{σ:Sg}{Q:T->Sg->Prop}(h:aP Q (cP ⟨ah Ψ n⟩ [some a0,none,none] σ (kE 30))):aP Q (ah Ψ (n+1) 30 [a0] σ):=aW (F:=⟨1,2,cP⟩) rfl rfl h
theorem yq {n:Nat}{a0 a1 a2:T}{σ:Sg}{Q:T->Sg->Prop}(h:aP Q (cQ ⟨ah Ψ n⟩ [some a0,some a1,some a2,none,none,none,none,none] σ (kE 31))):aP Q (ah Ψ (n+1) 31 [a0,a1,a2] σ):=aW (F:=⟨3,5,cQ⟩) rfl rfl h
theorem yR {n:Nat}{a0 a1 a2:T}{σ:Sg}{Q:T->Sg->Prop}(h:aP Q (dk ⟨ah Ψ n⟩ [some a0,some a1,some a2,none,none,none] σ (kE 501))):aP Q (ah Ψ (n+1) 501 [a0,a1,a2] σ):=aW (F:=⟨3,3,dk⟩) rfl rfl h
theorem AD {n:Nat}{a0 a1:T}{σ:Sg}{Q:T->Sg->Prop}(h:aP Q (dR ⟨ah Ψ n⟩ [some a0,some a1] σ (kE 32))):aP Q (ah Ψ (n+1) 32 [a0,a1] σ):=aW (F:=⟨2,0,dR⟩) rfl rfl h
theorem yO {n:Nat}{a0 a1 a2:T}{σ:Sg}{Q:T->Sg->Prop}(h:aP Q (df ⟨ah Ψ n⟩ [some a0,some a1,some a2,none,none,none,none,none,none,none,none,none,none,none] σ (kE 33))):aP Q (ah Ψ (n+1) 33 [a0,a1,a2] σ):=aW (F:=⟨3,11,df⟩) rfl rfl h
theorem lf {n:Nat}{a0 a1 a2:T}{σ:Sg}{Q:T->Sg->Prop}(h:aP Q (cw ⟨ah Ψ n⟩ [some a0,some a1,some a2,none,none] σ (kE 1001))):aP Q (ah Ψ (n+1) 1001 [a0,a1,a2] σ):=aW (F:=⟨3,2,cw⟩) rfl rfl h
theorem rP {n:Nat}{a0:T}{σ:Sg}{Q:T->Sg->Prop}(h:aP Q (eN ⟨ah Ψ n⟩ [some a0,none,none,none,none,none] σ (kE 1002))):aP Q (ah Ψ (n+1) 1002 [a0] σ):=aW (F:=⟨1,5,eN⟩) rfl rfl h
theorem oj {n:Nat}{a0 a1:T}{σ:Sg}{Q:T->Sg->Prop}(h:aP Q (dq ⟨ah Ψ n⟩ [some a0,some a1,none,none,none,none] σ (kE 1003))):aP Q (ah Ψ (n+1) 1003 [a0,a1] σ):=aW (F:=⟨2,4,dq⟩) rfl rfl h
theorem gy {n:Nat}{a0 a1 a2:T}{σ:Sg}{Q:T->Sg->Prop}(h:aP Q (bp ⟨ah Ψ n⟩ [some a0,some a1,some a2,none,none] σ (kE 1004))):aP Q (ah Ψ (n+1) 1004 [a0,a1,a2] σ):=aW (F:=⟨3,2,bp⟩) rfl rfl h
theorem AE {n:Nat}{a0 a1 a2:T}{σ:Sg}{Q:T->Sg->Prop}(h:aP Q (dT ⟨ah Ψ n⟩ [some a0,some a1,some a2] σ (kE 1005))):aP Q (ah Ψ (n+1) 1005 [a0,a1,a2] σ):=aW (F:=⟨3,0,dT⟩) rfl rfl h
theorem rQ {n:Nat}{a0 a1 a2 a3:T}{σ:Sg}{Q:T->Sg->Prop}(h:aP Q (bB ⟨ah Ψ n⟩ [some a0,some a1,some a2,some a3,none,none,none] σ (kE 1006))):aP Q (ah Ψ (n+1) 1006 [a0,a1,a2,a3] σ):=aW (F:=⟨4,3,bB⟩) rfl rfl h
theorem v9 {n:Nat}{a0 a1:T}{σ:Sg}{Q:T->Sg->Prop}(h:aP Q (cz ⟨ah Ψ n⟩ [some a0,some a1] σ (kE 1007))):aP Q (ah Ψ (n+1) 1007 [a0,a1] σ):=aW (F:=⟨2,0,cz⟩) rfl rfl h
theorem vm {n:Nat}{a0 a1:T}{σ:Sg}{Q:T->Sg->Prop}(h:aP Q (cb ⟨ah Ψ n⟩ [some a0,some a1] σ (kE 1008))):aP Q (ah Ψ (n+1) 1008 [a0,a1] σ):=aW (F:=⟨2,0,cb⟩) rfl rfl h
theorem ux {n:Nat}{a0:T}{σ:Sg}{Q:T->Sg->Prop}(h:aP Q (bP ⟨ah Ψ n⟩ [some a0] σ (kE 1009))):aP Q (ah Ψ (n+1) 1009 [a0] σ):=aW (F:=⟨1,0,bP⟩) rfl rfl h
end
end Mine.L06
namespace Mine.L06
noncomputable section
open PySem Ltl
section
variable {bs:List Sy} {g g':List Bool} {m m':Str} {σ:Sg}
noncomputable abbrev dE (bs:List Sy):T:=.lst (bs.map bc)
noncomputable abbrev gT (g:List Bool):T:=.tup (g.map .bool)
structure rG (bs:List Sy) (g:List Bool):Prop where
 dep:∀x∈bs,dep x<=40
 len:g.length=bs.length
 few:bs.length<=1000
theorem oY {α:Type}{e:α->T}{l:List α}{i:Nat}{a:α}(h:l[i]?=some a)(hi:i<=lim):aw (.tup (l.map e)) (.int i)=some (e a):=sQ (e:=e) h hi
theorem tx {x:Sy}(B:rG bs g)(hx:x∈bs):g[bs.idxOf x]?=some (look bs g x):=by
 have h:bs.idxOf x < g.length:=by rw [B.len];exact List.idxOf_lt_length_iff.mpr hx
 rw [look,getElem?_eq_getElem h];rfl
theorem cX (B:rG bs g){x:Sy}(hx:x∈bs)(n:Nat):ah Ψ (n+1) 9 [bc x,dE bs,gT g] σ=.ret (.bool (look bs g x)) σ:=by
 refine u9 ?_
 have h1:=(lV 40).idx (by decide) (B.dep x hx) B.dep hx
 have h2:=oY (e:=T.bool) (tx B hx) (le_trans (le_of_lt (List.idxOf_lt_length_iff.mpr hx)) (le_trans B.few (by decide)))
 show up (fj (dE bs) (bc x)) σ (fun j σ=>up (aw (gT g) j) σ fun v σ=>.ret v σ)=_
 rw [h1]
 show up (aw (gT g) (.int (bs.idxOf x))) σ (fun v σ=>.ret v σ)=_
 rw [h2];rfl
theorem Dl {m:Str}{bs:List Sy}{g:List Bool}{a c:Sy}:so m bs g (.and a c)=(so m bs g a&&so m bs g c):=rfl
theorem Dk {m:Str}{bs:List Sy}{g:List Bool}{a c:Sy}:so m bs g (.or a c)=(so m bs g a||so m bs g c):=rfl
theorem kW (B:rG bs g):∀(s:Sy) (n:Nat),dep s<=n->dw bs s->ah Ψ (n+2) 10 [bc s,.str m,dE bs,gT g] σ=.ret (.bool (so m bs g s)) σ:=by
 intro s
 induction s with
 |mark x=>exact fun n _ _=>eu rfl
 |yes=>exact fun n _ _=>eu rfl
 |not a ih=>
  rintro (_ |n) h cl
  .cases h
  .exact eu (ay (ih n (le_of_succ_le_succ h) (bX cl (.head _))) rfl)
 |and a c ih ih'=>
  rintro (_ |n) h cl
  .cases h
  .have h:=max_le.mp (le_of_succ_le_succ h)
   have e:=ih n h.1 (bX cl (.head _))
   have e':=ih' n h.2 (bX cl (.tail _ (.head _)))
   refine eu (ay e ?_)
   cases q:so m bs g a with
   |false=>rw [Dl,q];rfl
   |true=>rw [Dl,q];exact ay e' rfl
 |or a c ih ih'=>
  rintro (_ |n) h cl
  .cases h
  .have h:=max_le.mp (le_of_succ_le_succ h)
   have e:=ih n h.1 (bX cl (.head _))
   have e':=ih' n h.2 (bX cl (.tail _ (.head _)))
   refine eu (ay e ?_)
   cases q:so m bs g a with
   |true=>rw [Dk,q];rfl
   |false=>rw [Dk,q];exact ay e' rfl
 |next a=>exact fun n _ cl=>eu (ay (cX B (bq cl _ (.head _)) n) rfl)
 |till a c=>exact fun n _ cl=>eu (ay (cX B (bq cl _ (.head _)) n) rfl)
 |always a=>exact fun n _ cl=>eu (ay (cX B (bq cl _ (.head _)) n) rfl)
 |again a=>exact fun n _ cl=>eu (ay (cX B (bq cl _ (.tail _ (.head _))) n) rfl)
noncomputable abbrev vn (m:Str)(g:List Bool):T:=.tup [.str m,gT g]
theorem uj (B:rG bs g)(B':rG bs g'){x:Sy}(hx:x∈bs)(hk:(∃a,x=.next a)\/(∃a c,x=.till a c)\/∃a,x=.always a)(cl:∀p∈bu x,dw bs p){n:Nat}(hn:dep x<=n):
  ah Ψ (n+2) 11 [bc x,dE bs,vn m g,vn m' g'] σ=.ret (.bool (fg bs m g m' g' x)) σ:=by
 obtain _ |n:=n
 .rcases hk with ⟨a,rfl⟩ | ⟨a,c,rfl⟩ | ⟨a,rfl⟩<;>cases hn
 have gd:=cX (σ:=σ) B' hx (n+1)
 rcases hk with ⟨a,rfl⟩ | ⟨a,c,rfl⟩ | ⟨a,rfl⟩
 .exact mc (ay (kW B' a n (le_of_succ_le_succ hn) (cl a (.head _))) rfl)
 .have h:=max_le.mp (le_of_succ_le_succ hn)
  have ea:=kW (m:=m) (σ:=σ) B a n h.1 (cl a (.head _))
  refine mc (ay (kW B c n h.2 (cl c (.tail _ (.head _)))) ?_)
  rw [jK]
  cases so m bs g c with
  |true=>rfl
  |false=>
   refine ay ea ?_
   cases so m bs g a with
   |false=>rfl
   |true=>exact ay gd rfl
 .refine mc (ay (kW B a n (le_of_succ_le_succ hn) (cl a (.head _))) ?_)
  rw [ia]
  cases so m bs g a with
  |false=>rfl
  |true=>exact ay gd rfl
theorem BH (B:rG bs g){x:Sy}(hx:x∈bs)(hk:(∃a c,x=.till a c)\/∃a,x=.always a)(cl:∀p∈bu x,dw bs p){n:Nat}(hn:dep x<=n):
  ah Ψ (n+2) 14 [bc x,.str m,dE bs,gT g] σ=.ret (.bool (dD bs m g x)) σ:=by
 obtain _ |n:=n
 .rcases hk with ⟨a,c,rfl⟩ | ⟨a,rfl⟩<;>cases hn
 have gd:=cX (σ:=σ) B hx (n+1)
 rcases hk with ⟨a,c,rfl⟩ | ⟨a,rfl⟩
 .have h:=max_le.mp (le_of_succ_le_succ hn)
  refine md (ay gd ?_)
  rw [qo]
  cases look bs g (.till a c) with
  |false=>rfl
  |true=>exact ay (kW B c n h.2 (cl c (.tail _ (.head _)))) rfl
 .refine md (ay gd ?_)
  rw [lq]
  cases look bs g (.always a) with
  |true=>rfl
  |false=>exact ay (kW B a n (le_of_succ_le_succ hn) (cl a (.head _))) rfl
theorem wz {t:T}(n:Nat):ah Ψ (n+1) 14 [.none,.str m,t,gT g] σ=.ret (.bool true) σ:=md rfl
end
section
variable {bs:List Sy} {g g':List Bool} {m m':Str} {σ:Sg}
theorem zB {s:Sy}(hs:bs=ao s)(B:rG bs g)(B':rG bs g'){n:Nat}(hn:∀x∈bs,dep x<=n):
  ah Ψ (n+3) 12 [dE bs,vn m g,vn m' g'] σ=.ret (.bool (o3 bs m g m' g')) σ:=by
 have lp:∀(l:List Sy) (x3:Option T) (k:PK aZ),(∀x∈l,x∈bs)->(∀x3,k [some (dE bs),some (vn m g),some (vn m' g'),x3] σ=.ret (.bool true) σ)->
   cc (bx 3) (ai (bG (p2 jW (ax 9 (ab (pV 3) (ab (pV 0) (ab (p2 aw (pV 1) (pC (.int 1))) ar)))) (ax 11 (ab (pV 3) (ab (pV 0) (ab (pV 1) (ab (pV 2) ar)))))) (ai (aD (pC (.bool false))) am) am) am) ⟨ah Ψ (n+2)⟩ (l.map bc) [some (dE bs),some (vn m g),some (vn m' g'),x3] σ k=.ret (.bool (l.all fun x=>look bs g x==fg bs m g m' g' x)) σ:=by
  intro l
  induction l with
  |nil=>exact fun x3 k _ hk=>hk x3
  |cons x l ih=>
   intro x3 k hl hk
   have hx:=hl x (.head _)
   have e:=ih (some (bc x)) k (fun y hy=>hl y (.tail _ hy)) hk
   refine ay (cX B hx (n+1)) (ay (uj B B' hx (cG (hs▸hx)) (fun p hp=>hs▸fZ (hs▸hx) hp) (hn x hx)) ?_)
   rw [List.all_cons]
   cases look bs g x<;>cases fg bs m g m' g' x<;>first |rfl |exact e
 exact vb (lp bs none _ (fun _ h=>h) fun _=>rfl)
theorem fF {α z:Type}{f:α->z}(inj:∀x y,f x=f y->x=y){l:List α}(h:l.Nodup):(l.map f).Nodup:=List.pairwise_map.mpr (List.Pairwise.imp (fun q e=>q (inj _ _ e)) h)
noncomputable def gn:Nat->List (List Bool)
 | 0=>[[]]
 |n+1=>(gn n).map (·++[false])++(gn n).map (·++[true])
theorem fL:∀{n:Nat} {g:List Bool},g∈gn n->g.length=n:=by
 intro n
 induction n with
 |zero=>intro g h;cases aa h;rfl
 |succ n ih=>
  intro g h
  rcases ak h with h |h<;>(obtain ⟨a,ha,rfl⟩:=aF h;rw [List.length_append,ih ha];rfl)
theorem mr:∀{n:Nat} {g:List Bool},g.length=n->g∈gn n:=by
 intro n
 induction n with
 |zero=>intro g h;rw [length_eq_zero_iff.mp h];exact .head _
 |succ n ih=>
  intro g h
  rcases List.eq_nil_or_concat g with rfl | ⟨a,b,rfl⟩
  .cases h
  .rw [concat_eq_append] at h ⊢
   rw [List.length_append] at h
   have ha:=ih (Nat.succ.inj h)
   cases b with
   |false=>exact mem_append_left _ (bn ⟨a,ha,rfl⟩)
   |true=>exact mem_append_right _ (bn ⟨a,ha,rfl⟩)
theorem iE:∀n:Nat,(gn n).Nodup:=by
 intro n
 induction n with
 |zero=>exact pairwise_singleton _ _
 |succ n ih=>
  have inj:∀b:Bool,((gn n).map (·++[b])).Nodup:=fun b=>fF (fun x y h=>List.append_inj_left' h rfl) ih
  refine nodup_append.mpr ⟨inj _,inj _,fun a ha b hb e=>?_⟩
  obtain ⟨x,_,rfl⟩:=aF ha
  obtain ⟨y,_,rfl⟩:=aF hb
  cases List.append_inj_right' e rfl
theorem lN (n:Nat):∀(l:List T),l.length<=4->ah Ψ (n+1) 8 [.lst l] σ=.ret (.lst ((gn l.length).map gT)) σ
 | [],_=>cR (by kernel_rfl)
 | [_],_=>cR (by kernel_rfl)
 | [_,_],_=>cR (by kernel_rfl)
 | [_,_,_],_=>cR (by kernel_rfl)
 | [_,_,_,_],_=>cR (by kernel_rfl)
 |_::_::_::_::_::_,h=>absurd h (by rw [length_cons,length_cons,length_cons,length_cons,length_cons];lia -abstractProof)
end
section
variable {σ:Sg}
theorem qj (s:Sy)(n:Nat):ah Ψ (n+1) 2 [bc s] σ=.ret (.lst ((bu s).map bc)) σ:=by cases s<;>exact sI (by kernel_rfl)
theorem Bz (s:Sy)(n:Nat):ah Ψ (n+1) 6 [bc s] σ=.ret (dE (bQ s)) σ:=by cases s<;>exact qQ (by kernel_rfl)
theorem bI {s p:Sy}(h:p∈bu s):dep p < dep s:=by
 cases s with
 |mark |yes=>cases h
 |not |next |always |again=>cases aa h;exact Nat.lt_succ_self _
 |and |or |till=>
  rcases an h with rfl |h
  .exact lt_succ_of_le (le_max_left _ _)
  .cases aa h;exact lt_succ_of_le (le_max_right _ _)
theorem xQ (s:Sy):ao s=ext ((bu s).foldl (fun f a=>ext f (ao a)) []) (bQ s):=by cases s<;>rfl
theorem ua:∀{s t:Sy},t∈all s->dep t<=dep s:=by
 have two:∀(s a c:Sy),(∀{t},t∈all a->dep t<=dep a)->(∀{t},t∈all c->dep t<=dep c)->dep s=max (dep a) (dep c)+1->∀{t},t∈s::(all a++all c)->dep t<=dep s:=fun s a c ha hc e t h=>by
  rcases an h with rfl |h
  .exact le_refl _
  .rw [e]
   rcases ak h with h |h
   .exact le_succ_of_le (le_trans (ha h) (le_max_left _ _))
   .exact le_succ_of_le (le_trans (hc h) (le_max_right _ _))
 have one:∀(s a:Sy),(∀{t},t∈all a->dep t<=dep a)->dep s=dep a+1->∀{t},t∈s::all a->dep t<=dep s:=fun s a ha e t h=>by
  rcases an h with rfl |h
  .exact le_refl _
  .rw [e];exact le_succ_of_le (ha h)
 intro s
 induction s with
 |mark |yes=>intro t h;cases aa h;exact le_refl _
 |not a ih |next a ih |always a ih |again a ih=>exact one _ a ih rfl
 |and a c ih ih' |or a c ih ih' |till a c ih ih'=>exact two _ a c ih ih' rfl
theorem gX (s:Sy):1<=dep s:=by cases s<;>exact succ_le_succ (zero_le _)
theorem bS {s x:Sy}(h:x∈ao s):dep x<=dep s+1:=by
 obtain ⟨t,h1,h2⟩:=aQ.mp h
 refine le_trans ?_ (succ_le_succ (ua h1))
 cases t with
 |mark |yes |not |and |or=>cases h2
 |next |till |always=>cases aa h2;exact le_succ _
 |again a=>
  have e:max 1 (dep a)=dep a:=Nat.max_eq_right (gX a)
  rcases an h2 with rfl |h2
  .show max 1 (dep a)+1<=dep a+1+1
   rw [e];exact le_succ _
  .cases aa h2
   show max 1 (dep a)+1+1<=dep a+1+1
   rw [e];exact le_refl _
theorem fU (f xs:List Sy):(ext f xs).length<=f.length+xs.length:=by
 rw [ext,List.length_append];exact add_le_add_left (length_filter_le _ _) _
theorem vd:∀s:Sy,(ao s).length+2<=2 ^ (dep s+1):=by
 have p0:∀n,2<=2 ^ (n+1):=fun n=>by rw [pow_succ];have:=Nat.one_le_two_pow (n:=n);lia -abstractProof
 have two:∀(s a c:Sy),(ao a).length+2<=2 ^ (dep a+1)->(ao c).length+2<=2 ^ (dep c+1)->dep s=max (dep a) (dep c)+1->ao s=ext (ext (ext [] (ao a)) (ao c)) (bQ s)->(bQ s).length<=1->(ao s).length+2<=2 ^ (dep s+1):=fun s a c ha hc e e2 h=>by
  have h1:=pow_le_pow_right (n:=2) (by decide) (succ_le_succ (le_max_left (dep a) (dep c)))
  have h2:=pow_le_pow_right (n:=2) (by decide) (succ_le_succ (le_max_right (dep a) (dep c)))
  rw [e,e2,pow_succ]
  have h3:=fU (ext (ext [] (ao a)) (ao c)) (bQ s)
  have h4:=fU (ext [] (ao a)) (ao c)
  have h5:=fU [] (ao a)
  rw [length_nil] at h5
  lia -abstractProof
 have one:∀(s a:Sy),(ao a).length+2<=2 ^ (dep a+1)->dep s=dep a+1->ao s=ext (ext [] (ao a)) (bQ s)->(bQ s).length<=2->(ao s).length+2<=2 ^ (dep s+1):=fun s a ha e e2 h=>by
  rw [e,e2,pow_succ]
  have h3:=fU (ext [] (ao a)) (bQ s)
  have h5:=fU [] (ao a)
  rw [length_nil] at h5
  lia -abstractProof
 intro s
 induction s with
 |mark |yes=>exact p0 _
 |not a ih |next a ih |always a ih |again a ih=>exact one _ a ih rfl rfl (le_of_ble_eq_true rfl)
 |and a c ih ih' |or a c ih ih' |till a c ih ih'=>exact two _ a c ih ih' rfl rfl (le_of_ble_eq_true rfl)
end
section
variable {σ:Sg}
theorem lX {ρ:aZ}{i:Nat}{f xs:List Sy}{c:iK}{k:PK (List T)}{r:c7}(h1:∀v,cI (ρ.set i (some v)) i=some v)(h2:∀v,cI (ρ.set i (some v)) 1=some (dE f))(hf:∀x∈f,dep x<=40)(hx:∀x∈xs,dep x<=40)
  (hk:k ((xs.filter fun x=>!f.contains x).map bc) σ=r):bW (bx i) (p2 hJ (pV i) (pV 1)) (pV i) c ρ (xs.map bc) σ [] k=r:=by
 refine eS (fun x=>!f.contains x) bc (fun a ha=>⟨_,rfl,fun k=>?_,fun _ k=>?_⟩) hk
 .show up (cI (List.set ρ i (some (bc a))) i) σ (fun v σ=>up (cI (List.set ρ i (some (bc a))) 1) σ fun w σ=>up (hJ v w) σ k)=_
  rw [h1,h2,List.contains_eq_mem]
  show up (hJ (bc a) (dE f)) σ k=_
  exact ae ((lV 40).nin (by decide) (hx a ha) hf rfl) rfl
 .show up (cI (List.set ρ i (some (bc a))) i) σ k=_
  rw [h1];rfl
theorem xP {a:Sy}{d:Nat}(h:dep a<=d)(hd:d<=8):(ao a).length<=1024:=
 le_trans (le_trans (le_add_right _ 2) (vd a)) (pow_le_pow_right (j:=10) (by decide) (succ_le_succ (le_trans h (le_succ_of_le hd))))
theorem o8 {x:Sy}{d:Nat}(h:dep x<=d+1)(hd:d<=8):dep x<=40:=le_trans h (le_trans (succ_le_succ hd) (by decide))
theorem oA (f xs:List Sy)(h:f.length+xs.length<=20000):f.length+(xs.filter fun x=>!f.contains x).length<=lim:=
 le_trans (add_le_add_left (length_filter_le _ _) _) (le_trans h (by decide))
noncomputable abbrev Eu:PS:=ai (iL 1 hU (bE (bK (ax 500 (ab (pV 2) ar))) (bx 3) (p2 hJ (pV 3) (pV 1)) (pV 3))) am
theorem sL {c:iK}{t:Option T}{d:Nat}(hd:d<=8):∀(l:List Sy),(∀a∈l,dep a<=d/\c.call 500 [bc a] σ=.ret (dE (ao a)) σ)->∀(f:List Sy) (x2:Option T) {k:PK aZ} {r:c7},(∀x∈f,dep x<=d+1)->f.length+l.length * 1024<=10240->
  (∀f' x2,f'=l.foldl (fun f a=>ext f (ao a)) f->(∀x∈f',dep x<=d+1)->f'.length<=10240->k [t,some (dE f'),x2,none,none] σ=r)->cc (bx 2) Eu c (l.map bc) [t,some (dE f),x2,none,none] σ k=r:=by
 intro l
 induction l with
 |nil=>intro _ f x2 k r h1 h2 hk;exact hk f x2 rfl h1 (le_trans (le_add_right _ _) h2)
 |cons a l ih=>
  intro hl f x2 k r hf hlen hk
  obtain ⟨h1,h2⟩:=hl a (.head _)
  have d1:∀x∈ao a,dep x<=d+1:=fun x hx=>le_trans (bS hx) (succ_le_succ h1)
  have bl:=xP h1 hd
  have el:=fU f (ao a)
  rw [length_cons] at hlen
  refine ay h2 (lX (fun _=>rfl) (fun _=>rfl) (fun x hx=>o8 (hf x hx) hd) (fun x hx=>o8 (d1 x hx) hd) (ae (kH (l:=f) (oA f _ ?_)) ?_))
  .lia
  .exact ih (fun b hb=>hl b (.tail _ hb)) (ext f (ao a)) _ (fun x hx=>(i8.mp hx).elim (hf x) (d1 x)) (by lia -abstractProof) hk
theorem jn:∀(n:Nat) (s:Sy),dep s<=n->dep s<=8->ah Ψ (n+1) 500 [bc s] σ=.ret (dE (ao s)) σ:=by
 intro n
 induction n with
 |zero=>intro s h;exact absurd (gX s) (fK (lt_succ_of_le h))
 |succ n ih=>
  intro s h hn
  have hp:∀a∈bu s,dep a<=7:=fun a ha=>le_of_lt_succ (lt_of_lt_of_le (bI ha) hn)
  have pl:(bu s).length<=2:=by cases s<;>exact le_of_ble_eq_true rfl
  have ol:(bQ s).length<=2:=by cases s<;>exact le_of_ble_eq_true rfl
  rw [xQ s]
  refine sK (ay (qj s n) (sL (d:=7) (by decide) (bu s) (fun a ha=>⟨hp a ha,ih a (le_of_lt_succ (lt_of_lt_of_le (bI ha) h)) (le_succ_of_le (hp a ha))⟩) [] none (fun _ h=>nomatch h) (by rw [length_nil];lia -abstractProof) ?_))
  rintro f' x2 rfl h1 h2
  exact ay (Bz s n) (lX (fun _=>rfl) (fun _=>rfl) (fun x hx=>o8 (h1 x hx) (by decide)) (fun x hx=>o8 (bS (aQ.mpr ⟨s,iX s,hx⟩)) hn) (ae (kH (l:=(bu s).foldl (fun f a=>ext f (ao a)) []) (oA _ _ (by lia -abstractProof))) rfl))
end
noncomputable def yb:Str:=ofString "abcdefghijklmnopqrstuvwxyz"
noncomputable def Fx (c:Nat):Bool:=Nat.ble 97 c&&Nat.ble c 122
noncomputable def Lw (x:Str):Prop:=∀c∈x.cps.toList,Fx c=true
theorem oX {c:Nat}(h:Fx c=true):97<=c/\c<=122:=⟨le_of_ble_eq_true (fM h),le_of_ble_eq_true (gN h)⟩
theorem sv:∀k,k < 26->Txt.contains yb ⟨#[97+k]⟩=true:=by decide+kernel
theorem B8 {c:Nat}(h:Fx c=true):Txt.contains yb ⟨#[c]⟩=true:=by
 obtain ⟨h1,h2⟩:=oX h
 obtain ⟨k,rfl⟩:=exists_eq_add_of_le h1
 exact sv k (Nat.lt_of_add_lt_add_left (n:=97) (lt_succ_of_le h2))
theorem mq {α:Type}(l:List α):js (.lst (l.map fun _=>.bool true))=some (.bool true):=by rw [all_map l fun _=>true,all_eq_true.mpr fun _ _=>rfl]
theorem pD {α:Type}{n:Nat}{x:α}(h:n<=lim):nO n x=some x:=by rw [nO,show cm n=true from ble_eq_true_of_le h];rfl
structure Mk (x:Str):Prop where
 len:x.length<=6
 lw:Lw x
section
variable {σ:Sg}
theorem lH {x:Str}(h:Mk x)(n:Nat):ah Ψ (n+1) 1 [.str x] σ=.ret (.bool true) σ:=by
 refine u8 ?_
 have e1:decide ((x.length:Int) > 6)=false:=decide_eq_false (by have:=h.len;lia -abstractProof)
 have e2:x.cps.all (· < 128)=true:=Array.all_eq_true_iff_forall_mem.mpr fun c hc=>decide_eq_true (by have:=oX (h.lw c (Array.mem_toList_iff.mpr hc));lia -abstractProof)
 show (bif decide ((x.length:Int) > 6) then c7.ret (.bool false) σ else up (bif x.cps.all (· < 128) then some (x.cps.toList.map fun c=>T.str ⟨#[c]⟩) else none) σ fun xs σ=>bW (bx 1) b9 (pB (p2 EO (pV 1) (pC (.str yb)))) ⟨ah Ψ n⟩ [some (.str x),none] xs σ [] fun ys σ=>up (js (.lst ys)) σ fun v σ=>.ret v σ)=_
 rw [e1,e2]
 show bW _ _ _ _ _ (x.cps.toList.map fun c=>T.str ⟨#[c]⟩) σ [] _=_
 refine eT (fun _=>.bool true) (fun c hc=>⟨_,rfl,fun k=>?_⟩) ?_
 .show k (.bool (Txt.contains yb ⟨#[c]⟩)) σ=_
  rw [B8 (h.lw c hc)]
 .exact ae (mq _) rfl
noncomputable def Gm (s:Sy):Prop:=∀x,.mark x∈all s->Mk x/\x≠ofString ""
theorem zG {s:Sy}(h:Gm s)(n:Nat):ah Ψ (n+2) 3 [bc s] σ=.ret (.bool true) σ:=by
 cases s with
 |mark x=>
  obtain ⟨h1,h2⟩:=h x (.head _)
  refine mf (ay (lH h1 n) ?_)
  show up (jW (.str x) (.str (ofString ""))) σ (fun b σ=>.ret (.bool b) σ)=_
  rw [zL.isN (by decide) trivial trivial,decide_eq_false h2];rfl
 |_=>exact mf (by kernel_rfl)
theorem ui:∀(n d:Nat) (s:Sy),dep s<=d->d<=n->Gm s->ah Ψ (n+2) 4 [bc s,.int d] σ=.ret (.bool true) σ:=by
 intro n
 induction n with
 |zero=>intro d s h h';exact absurd (gX s) (fK (lt_succ_of_le (le_trans h h')))
 |succ n ih=>
  rintro (_ |d) s h h' hg
  .exact absurd (gX s) (fK (lt_succ_of_le h))
  refine qR (ay (zG hg n) (ay (qj s _) ?_))
  refine eT (e:=bc) (fun _=>.bool true) (fun p hp=>⟨_,rfl,fun k=>?_⟩) ?_
  .have:=ih d p (le_of_lt_succ (lt_of_lt_of_le (bI hp) h)) (le_of_succ_le_succ h') fun x hx=>hg x (gM hp hx)
   refine ay (t:=.bool true) (σ:=σ) ?_ rfl
   rw [show (((d+1:Nat):Int) - 1)=(d:Int) by lia -abstractProof];exact this
  .exact ae (mq (bu s)) rfl
structure Gs (s:Sy):Prop where
 dep:dep s<=5
 few:(ao s).length<=4
 gm:Gm s
theorem yZ {s:Sy}(h:Gs s)(n:Nat):ah Ψ (n+9) 7 [bc s] σ=.ret (bc s) σ:=by
 have e:decide (((((ao s).map bc).length:Nat):Int) > 4)=false:=decide_eq_false (by have:=h.few;rw [length_map];lia -abstractProof)
 refine m4 (ay (qS (ay (ui (n+5) 5 s h.dep (le_add_left _ _) h.gm) rfl)) (ay (jn _ s ?_ ?_) ?_))
 .exact le_trans h.dep (le_add_left _ (n+2))
 .exact le_trans h.dep (by decide)
 .show (bif decide (((((ao s).map bc).length:Nat):Int) > 4) then c7.bad else .ret (bc s) σ)=_
  rw [e];rfl
noncomputable def Fw:Sy->Bool
 |.till _ _=>true
 |.always _=>true
 |_=>false
noncomputable def jV (s:Sy):List Sy:=(ao s).filter Fw
noncomputable abbrev mH (s:Sy):List T:=.none::(jV s).map bc
theorem qh {s:Sy}(h:dep s<=8)(hl:(ao s).length<=1000)(n:Nat):ah Ψ (n+10) 13 [bc s] σ=.ret (.lst (mH s)) σ:=by
 refine mZ (ay (jn (n+8) s (le_trans h (le_add_left _ _)) h) (eS Fw bc (fun x hx=>⟨_,rfl,fun k=>?_,fun _ _=>rfl⟩) ?_))
 .rcases cG hx with ⟨a,rfl⟩ | ⟨a,c,rfl⟩ | ⟨a,rfl⟩<;>kernel_rfl
 .refine ae (a:=.lst (mH s)) ?_ rfl
  show nO ((T.none::(jV s).map bc).length) (T.lst (mH s))=_
  exact pD (Nat.succ_le_of_lt (lt_of_le_of_lt (le_trans (le_of_eq (length_map ..)) (le_trans (length_filter_le ..) hl)) (by decide)))
end
noncomputable abbrev nT (p:Nat):T:=.int p
noncomputable abbrev cK (r:List Nat):T:=.lst (r.map nT)
structure Mc where
 names:List Str
 roads:List (List Nat)
 firsts:List Nat
structure vr (n:Nat) (r:List Nat):Prop where
 ne:r≠[]
 nd:r.Nodup
 lt:∀p∈r,p < n
structure Mc.Ok (M:Mc):Prop where
 pos:1<=M.names.length
 few:M.names.length<=12
 marks:∀x∈M.names,Mk x
 len:M.roads.length=M.names.length
 rows:∀r∈M.roads,vr M.names.length r
 firsts:vr M.names.length M.firsts
noncomputable abbrev Mc.fs (M:Mc):List T:=[.lst (M.names.map .str),.lst (M.roads.map cK),cK M.firsts]
noncomputable abbrev Mc.t (M:Mc):T:=.obj 0 M.fs
noncomputable def Mc.mark (M:Mc)(p:Nat):Str:=(M.names[p]?).getD default
noncomputable def Mc.road (M:Mc)(p:Nat):List Nat:=(M.roads[p]?).getD []
section
variable {σ:Sg} {M:Mc}
theorem Mc.Ok.lim (O:M.Ok){p:Nat}(h:p < M.names.length):p<=lim:=le_trans (le_of_lt h) (le_trans O.few (by decide))
theorem tN {α:Type}{l:List α}{i:Nat}{d:α}(h:i < l.length):l[i]?=some ((l[i]?).getD d):=by rw [getElem?_eq_getElem h];rfl
theorem i9 (O:M.Ok){p:Nat}(h:p < M.names.length)(n:Nat):ah Ψ (n+1) 1007 [M.t,nT p] σ=.ret (.str (M.mark p)) σ:=
 mi (mt (b7 (e:=T.str) (tN h) (O.lim h)) rfl)
theorem qz (O:M.Ok){p:Nat}(h:p < M.names.length)(n:Nat):ah Ψ (n+1) 1008 [M.t,nT p] σ=.ret (cK (M.road p)) σ:=
 j7 (mt (b7 (e:=cK) (tN (O.len▸h)) (O.lim h)) rfl)
theorem ng (n:Nat):ah Ψ (n+1) 1009 [M.t] σ=.ret (cK M.firsts) σ:=jE rfl
theorem wf {p n:Nat}(h:p < n)(k:Nat):ah Ψ (k+1) 15 [nT p,nT n] σ=.ret (.bool true) σ:=
 sJ (show c7.ret (.bool (decide ((p:Int) < (n:Int)))) σ=_ by rw [decide_eq_true (cD h)])
theorem ni {n:Nat}{r:List Nat}(R:vr n r)(hr:r.length<=1000)(k:Nat):ah Ψ (k+2) 16 [cK r,nT n] σ=.ret .none σ:=by
 have lp:∀(suf pre:List Nat) (x2 x3:Option T),r=pre++suf->cc (yB 2 3) (ai (bG (gq (cW (qE (ax 15 (ab (pV 3) (ab (pV 1) ar))))) (gq (p2 kF (pV 3) (p3 dc (pV 0) tg (p1 gk (pV 2)))) cj)) (ai g9 am) am) am)
   ⟨ah Ψ (k+1)⟩ (gL pre.length (suf.map nT)) [some (cK r),some (nT n),x2,x3] σ (fun ρ σ=>am ⟨ah Ψ (k+1)⟩ ρ σ (kE 16))=.ret .none σ:=fun suf=>by
  induction suf with
  |nil=>intro pre x2 x3 _;rfl
  |cons p suf ih=>
   intro pre x2 x3 e
   have hp:p∈r:=e▸mem_append_right _ (.head _)
   have e1:kF (nT p) (.lst (cut none (some (pre.length:Int)) (r.map nT)))=some false:=by
    rw [tV,pj,e,List.take_left]
    refine (tR.mem (by decide) (l:=pre) trivial (fun _ _=>trivial) rfl).trans (congrArg some (decide_eq_false fun q=>?_))
    have:=R.nd
    rw [e] at this
    exact (aL this).2.2 p q p (.head _) rfl
   refine ay (wf (R.lt p hp) k) ?_
   refine mt Ay (mt e1 ?_)
   have:=ih (pre++[p]) (some (nT pre.length)) (some (nT p)) (by rw [e,List.append_assoc];rfl)
   rw [List.length_append] at this
   exact this
 have e:cA (.int ((r.map nT).length:Nat)) (.int 0)=some false:=by
  rw [iw];exact congrArg some (decide_eq_false fun q=>R.ne (length_eq_zero_iff.mp (by rw [length_map] at q;lia -abstractProof)))
 exact m5 (bY (Option.some.inj e) (lp r [] none none rfl))
theorem GF {o:Option Bool}{x y z r:c7}(h:o=some true)(h2:x=r):(match (generalizing:=false) o with |some true=>x |some false=>y |none=>z)=r:=by rw [h];exact h2
theorem wO {a c:Nat}(h:a<=c):CT (.int a) (.int c)=some true:=congrArg some (decide_eq_true (bJ h))
theorem ww {a c:Nat}(h:a=c):jW (.int a) (.int c)=some false:=by rw [jW,iw,decide_eq_true (by rw [h])];rfl
theorem zw (O:M.Ok){sp:Int}(n:Nat):ah Ψ (n+3) 1006 [.self,.lst (M.names.map .str),.lst (M.roads.map cK),cK M.firsts] ⟨sp,some (0,[])⟩=.ret .none ⟨sp,some (0,M.fs)⟩:=by
 have l1:(M.names.map T.str).length=M.names.length:=length_map ..
 have rl:∀{r:List Nat},vr M.names.length r->r.length<=1000:=fun {r} R=>le_trans (ba (m:=List.range M.names.length) R.nd fun p hp=>bz (R.lt p hp)) (by rw [length_range];exact le_trans O.few (by decide))
 have lp:∀(l:List (List Nat)),(∀r∈l,vr M.names.length r)->∀(x4:Option T) {k:PK aZ} {r:c7},(∀x4,k [some .self,some (.lst (M.names.map .str)),some (.lst (M.roads.map cK)),some (cK M.firsts),x4,none,none] ⟨sp,some (0,[])⟩=r)->
   cc (bx 4) (ai (kO (ax 16 (ab (pV 4) (ab (p1 bF (pV 1)) ar)))) am) ⟨ah Ψ (n+2)⟩ (l.map cK) [some .self,some (.lst (M.names.map .str)),some (.lst (M.roads.map cK)),some (cK M.firsts),x4,none,none] ⟨sp,some (0,[])⟩ k=r:=fun l=>by
  induction l with
  |nil=>exact fun _ x4 _ _ hk=>hk x4
  |cons r l ih=>
   intro hl x4 k _ hk
   have R:=hl r (.head _)
   rw [<-l1] at R
   exact ay (ni R (rl (hl r (.head _))) n) (ih (fun r h=>hl r (.tail _ h)) _ hk)
 refine iy (GF (wO (a:=1) (l1▸O.pos)) (bY (c:=!decide _) (congrArg not (Option.some.inj (wO (c:=12) (l1▸le_trans O.few (by decide))))) ?_))
 refine eT (e:=T.str) (fun _=>.bool true) (fun x hx=>⟨_,rfl,fun k=>ay (lH (O.marks x hx) _) rfl⟩) (mt (mq _) (bY (Option.some.inj (ww (a:=(M.roads.map cK).length) (c:=(M.names.map T.str).length) (by rw [length_map,length_map,O.len]))) ?_))
 refine lp M.roads O.rows none fun x4=>?_
 refine ay (ni (l1▸O.firsts) (rl O.firsts) n) ?_
 exact eT (e:=cK) cK (fun r _=>⟨_,rfl,fun k=>rfl⟩) rfl
end
structure Kw where
 m:Str
 g:List Bool
 b:Str
noncomputable instance:DecidableEq Kw:=fun a b=>Classical.propDecidable (a=b)
noncomputable abbrev DN (k:Kw):T:=.tup [vn k.m k.g,.str k.b]
noncomputable def GG (k:Kw):Ky:=.tup [.tup [.str k.m,.tup (k.g.map fun b=>.int (b2i b))],.str k.b]
theorem BW {a c:Kw}(h1:a.m=c.m)(h2:a.g=c.g)(h3:a.b=c.b):a=c:=by
 show Kw.mk a.m a.g a.b=Kw.mk c.m c.g c.b
 rw [h1,h2,h3]
theorem lG:ri DN GG:=⟨fun a=>by
  have e:iJ 4 (gT a.g)=some (.tup (a.g.map fun b=>.int (b2i b))):=by rw [wU,lC];rfl
  show o1 (o2 (o1 (o2 (some (Ky.str a.m)) (o2 (iJ 4 (gT a.g)) (some []) fun k ks=>some (k::ks)) fun k ks=>some (k::ks)) fun ks=>some (Ky.tup ks)) (some [Ky.str a.b]) fun k ks=>some (k::ks)) (fun ks=>some (Ky.tup ks))=_
  rw [e];rfl,
 fun a c h=>by
  have h1:=List.cons.inj (Ky.tup.inj h)
  have h2:=List.cons.inj (Ky.tup.inj h1.1)
  exact BW (Ky.str.inj h2.1) (jF (Ky.tup.inj (List.cons.inj h2.2).1)) (Ky.str.inj (List.cons.inj h1.2).1)⟩
theorem tG {α:Type}{e:α->T}{κ:α->Ky} [DecidableEq α] (K:ri e κ){l:List α}{vs:List T}(a:α):ig (e a) (.dct (l.map e) vs)=some (!decide (a∈l)):=by
 show (B9 _ _).map _=_
 rw [K.has];rfl
section
variable {M:Mc} {s:Sy}
noncomputable def beh (s:Sy)(m:Str)(g:List Bool)(m':Str):List (List Bool):=(gn (ao s).length).filter fun g'=>o3 (ao s) m g m' g'
noncomputable def th (M:Mc)(s:Sy)(k:Kn):List Kn:=(M.road k.p).flatMap fun q=>(beh s (M.mark k.p) k.g (M.mark q)).map (Kn.mk q)
noncomputable abbrev fi (s:Sy)(kk:List Kw):T:=.dct (kk.map DN) (kk.map fun k=>.lst ((beh s k.m k.g k.b).map gT))
noncomputable abbrev Dh (M:Mc)(s:Sy)(D:List Kn):T:=.dct (D.map aT) (D.map fun k=>.lst ((th M s k).map aT))
noncomputable abbrev wS (M:Mc)(s:Sy)(sp:Int)(kk:List Kw)(K:List Kn)(bg:Nat)(D:List Kn):Sg:=⟨sp,some (10,[dE (ao s),.lst (mH s),M.t,fi s kk,.lst (K.map aT),.int bg,Dh M s D])⟩
theorem Gs.bds (G:Gs s){g:List Bool}(h:g.length=(ao s).length):rG (ao s) g:=⟨fun x hx=>le_trans (bS hx) (le_trans (succ_le_succ G.dep) (by decide)),h,le_trans G.few (by decide)⟩
variable {sp:Int} {kk:List Kw} {K:List Kn} {bg:Nat} {D:List Kn}
theorem ve (G:Gs s){m m':Str}{g:List Bool}(hg:g.length=(ao s).length)(hl:kk.length < lim)(n:Nat):
  aP (fun t σ'=>t=.lst ((beh s m g m').map gT)/\∃kk',kk'.length<=kk.length+1/\σ'=wS M s sp kk' K bg D) (ah Ψ (n+20) 1004 [.self,vn m g,.str m'] (wS M s sp kk K bg D)):=by
 refine gy ?_
 by_cases h:(⟨m,g,m'⟩:Kw)∈kk
 .refine ry (o:=ig (DN ⟨m,g,m'⟩) (fi s kk)) (a:=false) ?_ ?_
  .rw [fi,tG lG,decide_eq_true h];rfl
  .exact ry (lG.get (a:=⟨m,g,m'⟩) h) (fw ⟨rfl,kk,le_succ _,rfl⟩)
 .refine ry (o:=ig (DN ⟨m,g,m'⟩) (fi s kk)) (a:=true) ?_ ?_
  .rw [fi,tG lG,decide_eq_false h];rfl
  .have gl:=lN (σ:=wS M s sp kk K bg D) (n+18) ((ao s).map bc) (by rw [length_map];exact G.few)
   rw [length_map] at gl
   refine i7 gl (Eh (e:=gT) (fun g'=>o3 (ao s) m g m' g') gT (fun g' hg'=>⟨_,rfl,fun k=>ay (zB rfl (G.bds hg) (G.bds (fL hg')) (n:=n+16) fun x hx=>?_) rfl,fun _ k=>rfl⟩) ?_)
   .exact le_trans (bS hx) (le_trans (succ_le_succ G.dep) (le_trans (by decide) (le_add_left 16 n)))
   .refine ry (o:=i0 (fi s kk) (DN ⟨m,g,m'⟩) (.lst ((beh s m g m').map gT))) (a:=fi s (kk++[⟨m,g,m'⟩])) ?_ ?_
    .rw [fi,lG.put h hl,fi,map_append (f:=fun k:Kw=>T.lst _)];rfl
    .refine ry (lG.get (l:=kk++[⟨m,g,m'⟩]) (a:=⟨m,g,m'⟩) (mem_append_right _ (.head _))) (fw ⟨rfl,_,?_,rfl⟩)
     rw [List.length_append];exact le_refl _
theorem gZ:∀n:Nat,(gn n).length=2 ^ n:=by
 intro n
 induction n with
 |zero=>rfl
 |succ n ih=>
  show ((gn n).map _++(gn n).map _).length=_
  rw [List.length_append,length_map,length_map,ih,pow_succ,Nat.mul_two]
theorem Ab (G:Gs s)(m:Str)(g:List Bool)(m':Str):(beh s m g m').length<=16:=
 le_trans (length_filter_le _ _) (by rw [gZ];exact pow_le_pow_right (j:=4) (by decide) G.few)
theorem BM (O:M.Ok)(G:Gs s){k:Kn}(hp:k.p < M.names.length)(hg:k.g.length=(ao s).length)(hr:∀q∈M.road k.p,q < M.names.length)(hl:(M.road k.p).length<=12)(hk:kk.length<=10000)(n:Nat):
  aP (fun t σ'=>t=.lst ((th M s k).map aT)/\∃kk',kk'.length<=kk.length+12/\σ'=wS M s sp kk' K bg D) (ah Ψ (n+21) 1003 [.self,aT k] (wS M s sp kk K bg D)):=by
 have lp:∀(l:List Nat),(∀q∈l,q < M.names.length)->∀(F:List Kn) (kk:List Kw) (x4:Option T) {κ:PK aZ} {Q:T->Sg->Prop},F.length+l.length * 16<=10000->kk.length+l.length<=20000->
   (∀kk' x4,kk'.length<=kk.length+l.length->aP Q (κ [some .self,some (aT k),some (vn (M.mark k.p) k.g),some (.lst ((F++l.flatMap fun q=>(beh s (M.mark k.p) k.g (M.mark q)).map (Kn.mk q)).map aT)),x4,none] (wS M s sp kk' K bg D)))->
   aP Q (cc (bx 4) (ai (iL 3 hU (bE (bK (rU 10 1004 (ab (pV 2) (ab (mI 0 1007 (fh 10 2) (ab (pV 4) ar)) ar)))) (bx 5) b9 (aY (ab (pV 4) (ab (pV 5) ar))))) am) ⟨ah Ψ (n+20)⟩ (l.map nT) [some .self,some (aT k),some (vn (M.mark k.p) k.g),some (.lst (F.map aT)),x4,none] (wS M s sp kk K bg D) κ):=fun l=>by
  induction l with
  |nil=>intro _ F kk x4 κ Q _ _ hk;rw [flatMap_nil,append_nil] at hk;exact hk kk x4 (le_refl _)
  |cons q l ih=>
   intro hq F kk x4 κ Q h1 h2 hk
   rw [length_cons] at h1 h2 hk
   have bl:=Ab G (M.mark k.p) k.g (M.mark q)
   refine i7 (i9 O (hq q (.head _)) _) (dU (ve G hg (lt_of_le_of_lt (le_trans (le_add_right _ _) h2) (by decide)) n) ?_)
   rintro _ _ ⟨rfl,kk',h3,rfl⟩
   refine pk (e:=gT) (fun g=>aT ⟨q,g⟩) (fun g _=>⟨_,rfl,fun _=>rfl⟩) (ry (o:=hU (.lst (F.map aT)) _) (a:=.lst ((F++(beh s (M.mark k.p) k.g (M.mark q)).map (Kn.mk q)).map aT)) ?_ (ih (fun q h=>hq q (.tail _ h)) _ kk' _ ?_ ?_ fun kk'' x4 h4=>?_))
   .rw [<-kH (by rw [length_map,b0];lia),map_map];rfl
   .rw [List.length_append,length_map];lia -abstractProof
   .lia -abstractProof
   .have:=hk kk'' x4 (by lia)
    rw [flatMap_cons,<-List.append_assoc] at this
    exact this
 refine oj (i7 (i9 O hp _) (i7 (qz O hp _) (lp (M.road k.p) hr [] kk none (by rw [length_nil];lia -abstractProof) (by lia) fun kk' x4 h=>fw ⟨rfl,kk',by lia,rfl⟩)))
end
theorem nP {v:T}:∀(l us:List Kn) (vs:List T),(us++l).Nodup->nJ (l.map fun k=>.tup [aT k,v]) (us.map aT) vs=some ((us++l).map aT,vs++l.map fun _=>v)
 | [],us,vs,_=>by
  rw [append_nil]
  show some (us.map aT,vs)=some (us.map aT,vs++[])
  rw [append_nil]
 |k::l,us,vs,h=>by
  have hk:k∉us:=fun q=>(aL h).2.2 k q k (.head _) rfl
  show o1 (j6 (us.map aT) (aT k)) _=_
  rw [fS.fd,if_neg hk]
  show nJ (l.map fun k=>.tup [aT k,v]) (us.map aT++[aT k]) (vs++[v])=_
  have:=nP (v:=v) l (us++[k]) (vs++[v]) (by rw [List.append_assoc];exact h)
  rw [map_append] at this
  rw [show us.map aT++[aT k]=us.map aT++[k].map aT from rfl,this,List.append_assoc,List.append_assoc];rfl
theorem wA {S:List Kn}(h:S.Nodup):tS (.lst (S.map fun k=>.tup [aT k,.bool true]))=some (lr S):=by
 show o1 (nJ (S.map fun k=>.tup [aT k,.bool true]) ([].map aT) []) _=_
 rw [nP S [] [] h];rfl
section
variable {M:Mc} {s:Sy}
noncomputable def rq (M:Mc)(s:Sy):List Kn:=(List.range M.names.length).flatMap fun p=>(gn (ao s).length).map (Kn.mk p)
theorem eh {k:Kn}:k∈rq M s↔k.p < M.names.length/\k.g.length=(ao s).length:=by
 constructor
 .intro h
  obtain ⟨p,h1,h2⟩:=mem_flatMap.mp h
  obtain ⟨g,h3,rfl⟩:=aF h2
  exact ⟨dA h1,fL h3⟩
 .exact fun h=>mem_flatMap.mpr ⟨k.p,bz h.1,bn ⟨k.g,mr h.2,rfl⟩⟩
theorem n7:(rq M s).length=M.names.length * 2 ^ (ao s).length:=by
 have:∀l:List Nat,(l.flatMap fun p=>(gn (ao s).length).map (Kn.mk p)).length=l.length * 2 ^ (ao s).length:=fun l=>by
  induction l with
  |nil=>exact (Nat.zero_mul _).symm
  |cons p l ih=>rw [flatMap_cons,List.length_append,ih,length_map,gZ,length_cons,Nat.succ_mul,add_comm]
 rw [rq,this,length_range]
theorem iY (O:M.Ok){p:Nat}(h:p < M.names.length):vr M.names.length (M.road p):=by
 have h:=O.len▸h
 refine O.rows _ ?_
 rw [Mc.road,getElem?_eq_getElem h];exact getElem_mem h
theorem vH (O:M.Ok){k y:Kn}(hp:k.p < M.names.length)(h:y∈th M s k):y∈rq M s:=by
 obtain ⟨q,h1,h2⟩:=mem_flatMap.mp h
 obtain ⟨g,h3,rfl⟩:=aF h2
 exact eh.mpr ⟨(iY O hp).lt q h1,fL (bL h3).1⟩
structure ud (M:Mc) (s:Sy) (S D R:List Kn):Prop where
 nd:(D++R).Nodup
 sub:∀k∈D++R,k∈rq M s
 clo:∀k∈D,∀y∈th M s k,y∈D++R
 rch:∀k∈D++R,∃a∈S,mx (th M s) a k
 pre:S <+:D++R
theorem ud.push {S D R:List Kn}{k y:Kn}(P:ud M s S D R)(hk:k∈D++R)(hy:y∈th M s k)(hu:y∈rq M s)(hn:y∉D++R):ud M s S D (R++[y]):=by
 have e:D++(R++[y])=(D++R)++[y]:=(List.append_assoc ..).symm
 refine ⟨?_,?_,?_,?_,?_⟩
 .rw [e,nodup_append]
  exact ⟨P.nd,pairwise_singleton _ _,fun a ha b hb q=>hn (aa hb▸q▸ha)⟩
 .rw [e];exact fun x hx=>(ak hx).elim (P.sub x) fun h=>aa h▸hu
 .rw [e];exact fun x hx z hz=>mem_append_left _ (P.clo x hx z hz)
 .rw [e]
  intro x hx
  rcases ak hx with h |h
  .exact P.rch x h
  .obtain ⟨a,h1,h2⟩:=P.rch k hk
   exact ⟨a,h1,aa h▸h2.trans (.one hy)⟩
 .rw [e];exact P.pre.trans (List.prefix_append _ _)
theorem ud.done {S D R:List Kn}{k:Kn}(P:ud M s S D (k::R))(h:∀y∈th M s k,y∈D++k::R):ud M s S (D++[k]) R:=by
 have e:(D++[k])++R=D++k::R:=by rw [List.append_assoc];rfl
 refine ⟨e▸P.nd,e▸P.sub,fun x hx=>?_,e▸P.rch,e▸P.pre⟩
 rw [e]
 rcases ak hx with hx |hx
 .exact P.clo x hx
 .exact aa hx▸h
inductive SW (M:Mc) (s:Sy) (S:List Kn) (sp:Int) (bg:Nat):List Kn×List Kn×List Kw->aZ->Sg->Prop
 |mk {D R:List Kn} {kk:List Kw} {x3 x4:Option T} (P:ud M s S D R) (hk:kk.length<=12 * D.length):SW M s S sp bg (D,R,kk) [some .self,some (lr (D++R)),some (.int D.length),x3,x4,none] (wS M s sp kk (D++R) bg D)
inductive SF (M:Mc) (s:Sy) (S:List Kn) (sp:Int) (bg:Nat) (D:List Kn) (k:Kn) (kk:List Kw):List Kn->aZ->Sg->Prop
 |mk {pre R':List Kn} {x4:Option T} (P:ud M s S D (k::R')) (hp:∀y∈pre,y∈D++k::R'):SF M s S sp bg D k kk pre [some .self,some (lr (D++k::R')),some (.int D.length),some (aT k),x4,none] (wS M s sp kk (D++k::R') bg (D++[k]))
theorem yF (O:M.Ok)(G:Gs s)(U:(rq M s).length<=128){S:List Kn}{sp:Int}(hS:S.Nodup)(hu:∀k∈S,k∈rq M s)(bg:Nat)(n:Nat):
  aP (fun t u'=>t=.none/\∃kk K,u'=wS M s sp kk K bg K/\ud M s S K []) (ah Ψ (n+22) 1002 [.self] (wS M s sp [] S bg [])):=by
 have ul:=U
 refine rP (pk (e:=aT) (fun k=>.tup [aT k,.bool true]) (fun k _=>⟨_,rfl,fun _=>rfl⟩) (ry (wA hS) ?_))
 refine vz (S:=List Kn×List Kn×List Kw) (SW M s S sp bg)
  (fun x=>decide ((x.1.length:Int) < (((x.1++x.2.1).map aT).length:Int))) (fun x=>128 - x.1.length) ?_ ?_ ?_ (s:=([],S,[])) (show 128 - 0 < 400 by decide) (.mk ⟨hS,hu,fun _ h=>(nomatch h),fun k hk=>⟨k,hk,.refl _⟩,List.prefix_rfl⟩ (le_refl _))
 .rintro _ _ _ ⟨⟩ k hk
  exact hk
 .rintro _ _ _ @⟨D,R,kk,x3,x4,P,hk⟩ hg κ hκ
  have len:=le_trans (ba P.nd P.sub) ul
  obtain _ | ⟨k,R⟩:=R
  .have:=of_decide_eq_true hg
   rw [length_map,append_nil] at this
   exact absurd this (Int.lt_irrefl _)
  have km:k∈D++k::R:=mem_append_right _ (.head _)
  obtain ⟨hp,hgl⟩:=eh.mp (P.sub k km)
  have rr:=iY O hp
  have kD:k∉D:=fun h=>(aL P.nd).2.2 k h k (.head _) rfl
  rw [List.length_append,length_cons] at len
  have e1:(D++k::R)[D.length]?=some k:=by rw [getElem?_append_right (le_refl _),sub_self];rfl
  refine ry (b7 (e:=aT) e1 (by rw [b0];lia)) (dU (BM O G hp hgl rr.lt ?_ ?_ n) ?_)
  .have:=ba (m:=List.range M.names.length) rr.nd fun p hp=>bz (rr.lt p hp)
   rw [length_range] at this;exact le_trans this O.few
  .lia
  rintro _ _ ⟨rfl,kk',h1,rfl⟩
  refine ry (o:=i0 (Dh M s D) (aT k) _) (a:=Dh M s (D++[k])) ?_ ?_
  .rw [Dh,fS.put kD (by rw [b0];lia -abstractProof),Dh,map_append (f:=fun k=>T.lst _)];rfl
  refine ry (fS.get (l:=D++[k]) (a:=k) (mem_append_right _ (.head _))) ?_
  refine DT (e:=aT) (l:=th M s k) (SF M s S sp bg D k kk') ?_ ?_ (pre:=[]) rfl (.mk P fun _ h=>nomatch h)
  .rintro pre y suf _ _ hl @⟨R',x4,P,hp'⟩ κ' hκ'
   have yt:y∈th M s k:=by rw [hl];exact mem_append_right _ (.head _)
   have len:=le_trans (ba P.nd P.sub) ul
   by_cases h:y∈D++k::R'
   .refine ry (o:=ig (aT y) (lr (D++k::R'))) (a:=false) (by rw [tq,decide_eq_true h];rfl) (hκ' _ _ (.mk P fun z hz=>?_))
    exact (ak hz).elim (hp' z) fun q=>aa q▸h
   .have ll:(D++k::R').length < lim:=by exact lt_of_le_of_lt (by assumption) (by decide)
    refine ry (o:=ig (aT y) (lr (D++k::R'))) (a:=true) (by rw [tq,decide_eq_false h];rfl) (ry (y3 h ll) (ry (f6 y ll) ?_))
    have e:(D++k::R')++[y]=D++k::(R'++[y]):=List.append_assoc ..
    rw [e]
    refine hκ' _ _ (.mk (R':=R'++[y]) (P.push (mem_append_right _ (.head _)) yt (vH O hp yt) h) fun z hz=>?_)
    rw [<-e]
    exact (ak hz).elim (fun q=>mem_append_left _ (hp' z q)) fun q=>mem_append_right _ q
  .rintro _ _ @⟨R',x4,P,hp'⟩
   have e:(D++[k])++R'=D++k::R':=by rw [List.append_assoc];rfl
   have l:(D++[k]).length=D.length+1:=List.length_append ..
   have w:=SW.mk (sp:=sp) (bg:=bg) (kk:=kk') (x3:=some (aT k)) (x4:=x4) (P.done hp') (by rw [l];lia)
   rw [e,l] at w
   exact hκ _ _ _ (show 128 - (D++[k]).length < 128 - D.length by rw [l];lia) w
 .rintro _ _ _ @⟨D,R,kk,x3,x4,P,_⟩ hg
  obtain _ | ⟨k,R⟩:=R
  .exact fw ⟨rfl,kk,D,by rw [append_nil],P⟩
  .have:=of_decide_eq_false hg
   rw [length_map,List.length_append,length_cons] at this
   exact absurd (cD (by lia -abstractProof)) this
end
section
variable {M:Mc} {s:Sy}
theorem lQ {f:Nat->List (List Bool)}(hf:∀p,(f p).Nodup):∀{l:List Nat},l.Nodup->(l.flatMap fun p=>(f p).map (Kn.mk p)).Nodup:=by
 intro l
 induction l with
 |nil=>exact fun _=>.nil
 |cons p l ih=>
  intro h
  obtain ⟨h1,h2⟩:=aK h
  rw [flatMap_cons,nodup_append]
  refine ⟨fF (fun x y e=>congrArg Kn.g e) (hf p),ih h2,fun a ha b hb e=>?_⟩
  obtain ⟨g,_,rfl⟩:=aF ha
  obtain ⟨q,h3,h4⟩:=mem_flatMap.mp hb
  obtain ⟨g',_,rfl⟩:=aF h4
  exact h1 ((show p=q from congrArg Kn.p e)▸h3)
noncomputable def st (M:Mc)(s:Sy):List Kn:=M.firsts.flatMap fun p=>((gn (ao s).length).filter fun g=>!so (M.mark p) (ao s) g s).map (Kn.mk p)
theorem wB {k:Kn}:k∈st M s↔k.p∈M.firsts/\k.g.length=(ao s).length/\so (M.mark k.p) (ao s) k.g s=false:=by
 constructor
 .intro h
  obtain ⟨p,h1,h2⟩:=mem_flatMap.mp h
  obtain ⟨g,h3,rfl⟩:=aF h2
  obtain ⟨h4,h5⟩:=bL h3
  exact ⟨h1,fL h4,(not_eq_true' _).mp h5⟩
 .exact fun h=>mem_flatMap.mpr ⟨k.p,h.1,bn ⟨k.g,ik ⟨mr h.2.1,(not_eq_true' _).mpr h.2.2⟩,rfl⟩⟩
theorem kU (O:M.Ok){k:Kn}(h:k.p < M.names.length):(th M s k).Nodup:=lQ (fun _=>(iE _).filter _) (iY O h).nd
noncomputable abbrev iS (M:Mc)(s:Sy)(sp:Int)(F:List Kn):Sg:=⟨sp,some (10,[dE (ao s),.lst (mH s),M.t,.dct [] [],.lst (F.map aT)])⟩
theorem vB (O:M.Ok)(G:Gs s)(U:(rq M s).length<=128){sp:Int}(n:Nat):
  aP (fun t σ'=>t=.none/\∃kk K,σ'=wS M s sp kk K (st M s).length K/\ud M s (st M s) K []) (ah Ψ (n+23) 1001 [.self,M.t,bc s] ⟨sp,some (10,[])⟩):=by
 have inner:∀(p:Nat),p < M.names.length->∀(l:List (List Bool)),(∀g∈l,g.length=(ao s).length)->∀(F:List Kn) (x4:Option T) {k:PK aZ} {Q:T->Sg->Prop},F.length+l.length<=10000->
   (∀x4,aP Q (k [some .self,some M.t,some (bc s),some (nT p),x4] (iS M s sp (F++(l.filter fun g=>!so (M.mark p) (ao s) g s).map (Kn.mk p)))))->
   aP Q (cc (bx 4) (ai (bG (cW (qE (ax 10 (ab (pV 2) (ab (mI 0 1007 (pV 1) (ab (pV 3) ar)) (ab (fh 10 0) (ab (pV 4) ar))))))) (ai (ql 10 4 (aY (ab (pV 3) (ab (pV 4) ar)))) am) am) am) ⟨ah Ψ (n+22)⟩ (l.map gT) [some .self,some M.t,some (bc s),some (nT p),x4] (iS M s sp F) k):=fun p hp l=>by
  induction l with
  |nil=>intro _ F x4 k Q _ hk;rw [filter_nil,map_nil,append_nil] at hk;exact hk x4
  |cons g l ih=>
   intro hl F x4 k Q h1 hk
   rw [length_cons] at h1
   refine i7 (i9 O hp _) (i7 (kW (G.bds (hl g (.head _))) s (n+20) (le_trans G.dep (le_trans (by decide) (le_add_left 20 n))) (fX s)) ?_)
   cases e:so (M.mark p) (ao s) g s with
   |true=>
    rw [List.filter_cons_of_neg (by rw [e];decide)] at hk
    exact ih (fun g h=>hl g (.tail _ h)) F _ (by lia) hk
   |false=>
    rw [List.filter_cons_of_pos (by rw [e];rfl)] at hk
    refine ry (f6 (e:=aT) (l:=F) ⟨p,g⟩ (by rw [b0];lia)) (ih (fun g h=>hl g (.tail _ h)) (F++[⟨p,g⟩]) _ ?_ fun x4=>?_)
    .rw [List.length_append];exact le_trans (le_of_eq (add_assoc ..)) (add_comm 1 _▸h1)
    .rw [List.append_assoc];exact hk x4
 have outer:∀(l:List Nat),(∀p∈l,p < M.names.length)->∀(F:List Kn) (x3 x4:Option T) {k:PK aZ} {Q:T->Sg->Prop},F.length+l.length * 16<=10000->
   (∀x3 x4,aP Q (k [some .self,some M.t,some (bc s),x3,x4] (iS M s sp (F++l.flatMap fun p=>((gn (ao s).length).filter fun g=>!so (M.mark p) (ao s) g s).map (Kn.mk p)))))->
   aP Q (cc (bx 3) (ai (cU (bK (ax 8 (ab (fh 10 0) ar))) (bx 4) (ai (bG (cW (qE (ax 10 (ab (pV 2) (ab (mI 0 1007 (pV 1) (ab (pV 3) ar)) (ab (fh 10 0) (ab (pV 4) ar))))))) (ai (ql 10 4 (aY (ab (pV 3) (ab (pV 4) ar)))) am) am) am)) am) ⟨ah Ψ (n+22)⟩ (l.map nT) [some .self,some M.t,some (bc s),x3,x4] (iS M s sp F) k):=fun l=>by
  induction l with
  |nil=>intro _ F x3 x4 k Q _ hk;rw [flatMap_nil,append_nil] at hk;exact hk x3 x4
  |cons p l ih=>
   intro hl F x3 x4 k Q h1 hk
   rw [length_cons] at h1
   have gl:=lN (σ:=iS M s sp F) (n+21) ((ao s).map bc) (by rw [length_map];exact G.few)
   rw [length_map] at gl
   have al:(gn (ao s).length).length<=16:=by rw [gZ];exact pow_le_pow_right (j:=4) (by decide) G.few
   refine i7 gl (inner p (hl p (.head _)) _ (fun g h=>fL h) F _ (by lia -abstractProof) fun x4=>ih (fun q h=>hl q (.tail _ h)) _ _ _ ?_ fun x3 x4=>?_)
   .have:=length_filter_le (fun g=>!so (M.mark p) (ao s) g s) (gn (ao s).length)
    rw [List.length_append,length_map];lia -abstractProof
   .have:=hk x3 x4
    rw [flatMap_cons,<-List.append_assoc] at this
    exact this
 have fl:M.firsts.length<=12:=by
  have:=ba (m:=List.range M.names.length) O.firsts.nd fun p hp=>bz (O.firsts.lt p hp)
  rw [length_range] at this;exact le_trans this O.few
 have d8:dep s<=8:=le_trans G.dep (by decide)
 refine lf (i7 (yZ G (n+13)) (i7 (jn _ s (le_trans d8 (le_trans (by decide) (le_add_left 21 n))) d8) (i7 (qh d8 (le_trans G.few (by decide)) (n+12)) (i7 (ng (n+21)) ?_))))
 refine outer M.firsts O.firsts.lt [] none none (by rw [length_nil];lia -abstractProof) fun x3 x4=>?_
 refine dU (yF O G U (sp:=sp) (S:=st M s) (lQ (fun _=>(iE _).filter _) O.firsts.nd) (fun k hk=>eh.mpr ⟨O.firsts.lt _ (wB.mp hk).1,(wB.mp hk).2.1⟩) ((st M s).map aT).length n) ?_
 rintro _ _ ⟨rfl,kk,K,rfl,P⟩
 exact fw ⟨rfl,kk,K,by rw [length_map],P⟩
end
theorem fb {xs:List T}{j:Nat}{t:T}(h:xs[j]?=some t)(hj:j<=lim):aw (.lst xs) (.int j)=some t:=by
 have:=b7 (e:=id) h hj
 rw [List.map_id] at this;exact this
theorem Fp (k:Kn):aw (aT k) (.int 0)=some (nT k.p):=rfl
theorem Fq (k:Kn):aw (aT k) (.int 1)=some (gT k.g):=rfl
section
variable {M:Mc} {s:Sy}
noncomputable def rW (M:Mc)(s:Sy)(k:Kn):Nat->Bool
 | 0=>true
 |j+1=>match (jV s)[j]? with
  |some x=>dD (ao s) (M.mark k.p) k.g x
  |none=>true
noncomputable abbrev C9 (M:Mc)(s:Sy)(kk:List Kw)(K:List Kn):T:=C8 (dE (ao s)) (.lst (mH s)) M.t (fi s kk) K (st M s).length (th M s)
variable {kk:List Kw} {K:List Kn} {σ:Sg}
theorem om (G:Gs s):(jV s).length<=4:=le_trans (length_filter_le _ _) G.few
theorem wD (O:M.Ok)(G:Gs s)(hu:∀k∈K,k∈rq M s)(n:Nat):∀k∈K,∀j,j < (mH s).length->ah Ψ (n+20) 1005 [C9 M s kk K,aT k,.int j] σ=.ret (.bool (rW M s k j)) σ:=by
 intro k hk j hj
 obtain ⟨h1,h2⟩:=eh.mp (hu k hk)
 have pl:=om G
 obtain _ |j:=j
 .exact jS (mt (fb (j:=0) rfl (zero_le _)) (ay (i9 O h1 (n+18)) (ay (wz (m:=M.mark k.p) (g:=k.g) (t:=dE (ao s)) (n+18)) rfl)))
 .have hj:j < (jV s).length:=by rw [length_cons,length_map] at hj;exact Nat.lt_of_succ_lt_succ hj
  have e1:(jV s)[j]?=some (jV s)[j]:=getElem?_eq_getElem hj
  have m1:=bL (getElem_mem hj)
  have e2:(mH s)[j+1]?=some (bc (jV s)[j]):=by
   show ((jV s).map bc)[j]?=_
   rw [getElem?_map,e1];rfl
  have e3:rW M s k (j+1)=dD (ao s) (M.mark k.p) k.g (jV s)[j]:=by
   show (match (jV s)[j]? with |some x=>dD (ao s) (M.mark k.p) k.g x |none=>true)=_
   rw [e1]
  rw [e3]
  generalize (jV s)[j]=x at m1 e2
  have hk:(∃a c,x=.till a c)\/∃a,x=.always a:=by
   rcases cG m1.1 with ⟨a,rfl⟩ |h
   .cases m1.2
   .exact h
  exact jS (mt (fb e2 (le_trans (le_trans hj pl) (by decide))) (ay (i9 O h1 (n+18)) (ay (BH (G.bds h2) m1.1 hk (fun p hp=>fZ m1.1 hp) (n:=n+17) (le_trans (bS m1.1) (le_trans (succ_le_succ G.dep) (le_trans (by decide) (le_add_left 17 n))))) rfl)))
end
theorem pv {n b:Nat}(h:b<=n):clipAt n (b:Int)=b:=(l6 n b).trans (Nat.min_eq_left h)
theorem FK {α:Type}{b:Nat}{l:List α}(h:b<=l.length):cut (some (b:Int)) none l=l.drop b:=by
 show (l.drop (clipAt l.length b)).take (l.length - clipAt l.length b)=_
 rw [pv h,<-length_drop,take_length]
theorem eQ (a:Int){n:Nat}(h:0 < n):∃k:Nat,a.fmod (n:Int)=(k:Int)/\k < n:=by
 have h1:0<=a.fmod (n:Int):=Int.fmod_nonneg_of_pos _ (Int.natCast_pos.mpr h)
 have h2:a.fmod (n:Int) < (n:Int):=Int.fmod_lt_of_pos _ (Int.natCast_pos.mpr h)
 exact ⟨(a.fmod (n:Int)).toNat,(Int.toNat_of_nonneg h1).symm,(Int.toNat_lt h1).mpr h2⟩
theorem Lw.append {a b:Str}(ha:Lw a)(hb:Lw b):Lw (a++b):=fun c h=>by
 have e:(a++b).cps.toList=a.cps.toList++b.cps.toList:=by
  show (a.cps++b.cps).toList=_
  rw [Array.toList_append]
 rw [e] at h
 exact (ak h).elim (ha c) (hb c)
theorem Lw.cut {x:Str}{lo hi:Option Int}(h:Lw x):Lw (fH lo hi x):=fun c hc=>h c (List.mem_of_mem_drop (List.mem_of_mem_take hc))
theorem fP (a b:Str):(a++b).length=a.length+b.length:=Array.size_append ..
theorem zf:∀k,k < 26->yb.cps[k]?=some (97+k):=by decide+kernel
noncomputable def lt (x:Int):Str:=⟨#[97+(x.fmod 26).toNat]⟩
theorem wJ (x:Int):aw (.str yb) (.int (x.fmod 26))=some (.str (lt x)):=by
 obtain ⟨k,h1,h2⟩:=eQ x (n:=26) (by decide)
 have h1:x.fmod 26=(k:Int):=h1
 rw [lt,h1]
 show sX k yb=_
 rw [sX,jx (le_trans (le_of_lt h2) (by decide)),iW (show k < yb.length from h2)]
 show (yb.cps[k]?).map _=_
 rw [zf k h2];rfl
theorem lz (x:Int):Lw (lt x):=fun c h=>by
 obtain ⟨k,h1,h2⟩:=eQ x (n:=26) (by decide)
 have h1:x.fmod 26=(k:Int):=h1
 have e:c=97+(x.fmod 26).toNat:=aa h
 rw [e,h1]
 exact and_eq_true_iff.mpr ⟨ble_eq_true_of_le (le_add_right _ _),ble_eq_true_of_le (by lia)⟩
theorem lA (x:Int):(lt x).length=1:=rfl
noncomputable def yL (f:Nat->Int):Str:=Txt.join (ofString "") [lt (f 0),lt (f 1),lt (f 2),lt (f 3),lt (f 4),lt (f 5)]
theorem vW (f:Nat->Int):yL f=lt (f 0)++ofString ""++(lt (f 1)++ofString ""++(lt (f 2)++ofString ""++(lt (f 3)++ofString ""++(lt (f 4)++ofString ""++lt (f 5))))):=by
 show Builtin.Str.glued _ _=_
 rw [StrLaws.glued_eq_join];rfl
theorem o7:(ofString "").length=0:=by decide+kernel
theorem jD:Lw (ofString ""):=fun c h=>by
 have e:(ofString "").cps.toList=[]:=by decide+kernel
 rw [e] at h;cases h
theorem s7 (f:Nat->Int):(yL f).length=6:=by
 rw [vW];simp only [fP,lA,o7]
theorem vV (f:Nat->Int):Lw (yL f):=by
 rw [vW]
 exact ((lz _).append jD).append (((lz _).append jD).append (((lz _).append jD).append (((lz _).append jD).append (((lz _).append jD).append (lz _)))))
theorem zt (f:Nat->Int):tH (.str (ofString "")) (.lst [.str (lt (f 0)),.str (lt (f 1)),.str (lt (f 2)),.str (lt (f 3)),.str (lt (f 4)),.str (lt (f 5))])=some (.str (yL f)):=by
 have k:PyData.strOk (yL f)=true:=by
  have:=vV f
  exact Array.all_eq_true_iff_forall_mem.mpr fun c hc=>decide_eq_true (lt_of_le_of_lt (oX (this c (Array.mem_toList_iff.mpr hc))).2 (by decide))
 show (bif JoinOk (ofString "") [lt (f 0),lt (f 1),lt (f 2),lt (f 3),lt (f 4),lt (f 5)]&&PyData.strOk (yL f)&&cm (yL f).length then some (T.str (yL f)) else none)=_
 rw [k,s7,show JoinOk (ofString "") [lt (f 0),lt (f 1),lt (f 2),lt (f 3),lt (f 4),lt (f 5)]=true from by kernel_rfl];rfl
theorem xB {x:Str}{lo hi:Option Int}:(fH lo hi x).length<=x.length:=by
 show ((x.cps.toList.drop _).take _).toArray.size<=x.cps.toList.length
 rw [size_toArray,length_take,length_drop];exact le_trans (Nat.min_le_right _ _) (Nat.sub_le _ _)
theorem xz {x:Str}(hx:x.length=6){k:Nat}(h:1<=k):1<=(fH none (some (k:Int)) x).length:=by
 show 1<=(Mine.cut none (some (k:Int)) x.cps.toList).toArray.size
 have:x.cps.toList.length=6:=hx
 rw [pj,size_toArray,length_take,this];lia
theorem zR {x:Str}{k:Nat}:(fH none (some (k:Int)) x).length<=k:=by
 show (Mine.cut none (some (k:Int)) x.cps.toList).toArray.size<=k
 rw [pj,size_toArray,length_take];exact min_le_left _ _
theorem xA {x:Str}(hx:x.length=6){a z:Nat}(h:a<=z)(hz:z<=6):(fH (some (a:Int)) (some (z:Int)) x).length<=z - a:=by
 have e:x.cps.toList.length=6:=hx
 show ((x.cps.toList.drop (clipAt x.cps.toList.length a)).take (clipAt x.cps.toList.length z - clipAt x.cps.toList.length a)).toArray.size<=_
 rw [e,pv hz,pv (le_trans h hz),size_toArray,length_take];exact min_le_left _ _
structure Nm (x:Str):Prop where
 m:Mk x
 ne:x≠ofString ""
theorem Nm.of {x:Str}(h1:x.length<=6)(h2:Lw x)(h3:1<=x.length):Nm x:=⟨⟨h1,h2⟩,fun e=>by rw [e,o7] at h3;cases h3⟩
structure FV (x y z:Str):Prop where
 a:Nm x
 b:Nm y
 c:Nm z
noncomputable abbrev AH (x y z:Str):T:=.lst [.str x,.str y,.str z]
section
variable {σ:Sg}
theorem du (a:Int){k:Nat}(h:(bif ((k:Int)==0)||Nat.ble 1073741824 (k:Int).natAbs then false else true)=true):fk (.int a) (.int k)=some (.int (a.fdiv k)):=by
 unfold fk
 show (bif ((k:Int)==0)||Nat.ble 1073741824 (k:Int).natAbs then none else some (T.int (a.fdiv k)))=_
 cases e:((k:Int)==0)||Nat.ble 1073741824 (k:Int).natAbs with
 |true=>rw [e] at h;cases h
 |false=>rfl
theorem dJ (a:Int){k:Nat}(h:0 < k):ck (.int a) (.int k)=some (.int (a.fmod k)):=by
 unfold ck
 show (bif ((k:Int)==0) then none else some (T.int (a.fmod k)))=_
 rw [beq_eq_false_iff_ne.mpr (by lia)];rfl
theorem ii (a:Int){n:Nat}(h:0 < n):∃k:Nat,ck (.int a) (.int n)=some (nT k)/\k < n:=by
 obtain ⟨k,h1,h2⟩:=eQ a h
 exact ⟨k,by rw [dJ a h,h1],h2⟩
theorem add_int (a b:Int):bM (.int a) (.int b)=some (.int (a+b)):=by unfold bM;rfl
theorem kq {k:Nat}(a:Int)(h:sm k=true):gE (.int k) (.int a)=some (.int (k * a)):=by
 unfold gE
 show (bif sm k||sm a then some (T.int (k * a)) else none)=_
 rw [h];rfl
theorem vT (x:Str)(lo hi:Option Int):dc (.str x) lo hi=some (.str (fH lo hi x)):=by unfold dc;rfl
theorem A3 {a b:Str}(h:a.length+b.length<=100):bM (.str a) (.str b)=some (.str (a++b)):=by
 unfold bM
 exact pD (by rw [fP];exact le_trans h (by decide))
theorem wx (cell:Int)(n:Nat):aP (fun t σ'=>σ'=σ/\∃x y z,t=AH x y z/\FV x y z) (ah Ψ (n+1) 19 [.int cell] σ):=by
 let f:Nat->Int:=fun j=>cell.fdiv 7+5 * (j:Int)
 have hl:=s7 f
 have hw:=vV f
 refine oh (aE (k6 (n:=6) (by decide)) (pk (e:=nT) (fun j=>.str (lt (f j))) (fun j _=>⟨_,rfl,fun k=>?_⟩) (aE (zt f) ?_)))
 .exact ae rfl (ae rfl (ae (du cell (k:=7) rfl) (ae rfl (ae (kq (k:=5) j rfl) (ae (add_int _ _) (ae (dJ _ (k:=26) (by decide)) (ae (wJ _) rfl)))))))
 generalize yL f=rest at hl hw
 refine aE rfl (aE (dJ cell (k:=3) (by decide)) (aE (iw _ _) ?_))
 have c6:∀{lo hi:Option Int},(fH lo hi rest).length<=6:=hl▸xB
 refine jo (fun _=>?_) fun _=>?_
 .obtain ⟨q,hq,q4⟩:=ii (cell.fdiv (3:Nat)) (n:=4) (by decide)
  have e:∀k:Nat,(1+(q:Int))+(k:Int)=((1+q+k:Nat):Int):=fun k=>by lia
  have nm:∀k:Nat,Nm (fH none (some ((1+q+k:Nat):Int)) rest):=fun k=>.of c6 hw.cut (xz hl (by lia))
  refine aE rfl (aE (du cell (k:=3) rfl) (aE hq (aE (add_int 1 _) (aE (k6 (n:=3) (by decide)) (pk (e:=nT) (fun k=>.str (fH none (some ((1+q+k:Nat):Int)) rest)) (fun k _=>⟨_,rfl,fun κ=>?_⟩) (fw ⟨rfl,_,_,_,rfl,nm 0,nm 1,nm 2⟩))))))
  rw [<-e]
  exact ae rfl (ae rfl (ae rfl (ae (add_int _ _) (ae rfl (ae (vT _ _ _) rfl)))))
 .obtain ⟨z,hz,z6⟩:=ii (cell.fdiv (3:Nat)) (n:=6) (by decide)
  obtain ⟨a,ha,a1⟩:=ii (cell.fdiv (18:Nat)) (n:=z+1) (Nat.succ_pos _)
  let y:Nat->Str:=fun k=>fH none (some (a:Int)) rest++lt (cell.fdiv 90+7 * (k:Int))++fH (some (a:Int)) (some (z:Int)) rest
  have l1:(fH none (some (a:Int)) rest).length<=a:=zR
  have l2:(fH (some (a:Int)) (some (z:Int)) rest).length<=z - a:=xA hl (by lia) (by lia)
  have nm:∀k,Nm (y k):=fun k=>.of (by rw [fP,fP,lA];lia) ((hw.cut.append (lz _)).append hw.cut) (by rw [fP,fP,lA];lia)
  refine aE rfl (aE (du cell (k:=3) rfl) (aE hz (aE rfl (aE (du cell (k:=18) rfl) (aE rfl (aE (add_int _ _) (aE ha ?_)))))))
  have turn:∀(k:Nat) (X:List T) (x7:Option T),X.length<=10->∀κ:PK aZ,ai (aI 7 (p2 aw (pV 1) (p2 ck (p2 bM (p2 fk (pV 0) (pC (.int 90))) (p2 gE (pC (.int 7)) (pV 6))) (pC (.int 26))))) (ai (iL 5 eV (p2 bM (p2 bM (p3 dc (pV 2) tg (p1 gk (pV 4))) (pV 7)) (p3 dc (pV 2) (p1 gk (pV 4)) (p1 gk (pV 3))))) am)
    ⟨ah Ψ n⟩ [some (.int cell),some (.str yb),some (.str rest),some (nT z),some (nT a),some (.lst X),some (nT k),x7,none,none] σ κ=κ [some (.int cell),some (.str yb),some (.str rest),some (nT z),some (nT a),some (.lst (X++[.str (y k)])),some (nT k),some (.str (lt (cell.fdiv 90+7 * (k:Int)))),none,none] σ:=fun k X x7 hX κ=>
   ae rfl (ae rfl (ae (du cell (k:=90) rfl) (ae rfl (ae (kq (k:=7) k rfl) (ae (add_int _ _) (ae (dJ _ (k:=26) (by decide)) (ae (wJ _) (ae rfl (ae rfl (ae rfl (ae (vT _ _ _) (ae rfl (ae (A3 (by rw [lA];lia)) (ae rfl (ae rfl (ae rfl (ae rfl (ae rfl (ae (vT _ _ _) (ae (A3 (by rw [fP,lA];lia)) (ae (xX (lt_of_le_of_lt hX (by decide))) rfl)))))))))))))))))))))
  refine j5 rfl (aE (k6 (n:=3) (by decide)) ?_)
  have t0:=turn 0 [] none (le_of_ble_eq_true rfl)
  have t1:=fun x7=>turn 1 [.str (y 0)] x7 (le_of_ble_eq_true rfl)
  have t2:=fun x7=>turn 2 [.str (y 0),.str (y 1)] x7 (le_of_ble_eq_true rfl)
  refine ⟨AH (y 0) (y 1) (y 2),σ,?_,rfl,_,_,_,rfl,nm 0,nm 1,nm 2⟩
  refine (t0 _).trans ((t1 _ _).trans ((t2 _ _).trans ?_))
  exact ae rfl rfl
end
section
variable {ns:List Int} {σ:Sg}
theorem Bp {a n:Nat}(h:a<=n)(hn:n<=100000):yk [nT a,nT n]=some ((range' a (n - a)).map nT):=by
 have s:Builtin.Range.rangeSize a n 1=((n - a:Nat):Int):=by
  refine (if_pos (by decide)).trans ?_
  rcases Nat.lt_or_ge a n with q |q
  .rw [if_pos (cD q),ediv_one,Int.sub_add_cancel,Int.ofNat_sub h]
  .rw [if_neg (Int.not_lt.mpr (bJ q)),Nat.sub_eq_zero_of_le q];rfl
 have e:cV a n 1=(range' a (n - a)).map nT:=by
  rw [cV,s,List.range'_eq_map_range,map_map]
  exact map_congr_left fun k _=>congrArg T.int (by rw [Int.mul_one];rfl)
 unfold yk
 show rg a n=_
 rw [rg,e,jx (by rw [b0];lia),jx (by rw [b0];lia),length_map,List.length_range',show cm (n - a)=true from ble_eq_true_of_le (by rw [b0];lia)];rfl
theorem oe {k:Nat}(h:k < ns.length)(hn:ns.length<=63):aw (.scr ns) (nT k)=some (.int ns[k]):=by
 have:Af k (ns.map T.int)=some (.int ns[k]):=sQ (getElem?_eq_getElem h) (le_trans (le_of_lt h) (le_trans hn (by decide)))
 unfold aw;exact this
theorem t3 (hn:ns.length<=63)(k n:Nat):aP (fun t σ'=>σ'=σ/\∃z,t=.int z) (ah Ψ (n+1) 17 [.scr ns,nT k] σ):=by
 refine lc (aE rfl (aE rfl (aE rfl (aE rfl (jo (fun h=>?_) fun _=>fw ⟨rfl,0,rfl⟩)))))
 have h:k < ns.length:=Int.ofNat_lt.mp (of_decide_eq_true h)
 exact aE rfl (aE rfl (aE (oe h hn) (fw ⟨rfl,_,rfl⟩)))
theorem AJ (a:Int){k:Nat}(h:sm k=true):gE (.int a) (.int k)=some (.int (a * k)):=by
 unfold gE
 show (bif sm a||sm k then some (T.int (a * k)) else none)=_
 rw [h,Bool.or_true];rfl
theorem Di (j:Nat):jw (.int ((j:Int)+1)) (.int 1)=some (nT j):=by unfold jw;exact congrArg (fun z=>some (T.int z)) (Int.add_sub_cancel ..)
theorem kI (hn:ns.length<=63)(j n:Nat){se:Option (Nat×List T)}:aP (fun t σ'=>σ'=⟨((j+1:Nat):Int),se⟩/\∃z,t=.int z) (ah Ψ (n+1) 18 [.scr ns,.spot] ⟨(j:Int),se⟩):=by
 refine qg (aE (add_int _ _) (aE (Di j) (aE rfl (aE rfl (aE rfl (aE rfl (jo (fun h=>?_) fun _=>?_)))))))
 .have h:j < ns.length:=Int.ofNat_lt.mp (of_decide_eq_true h)
  exact aE rfl (aE rfl (aE (oe h hn) (fw ⟨rfl,_,rfl⟩)))
 .refine aE rfl (aE rfl (aE rfl (jo (fun h=>?_) fun _=>?_)))
  .have h:4 < ns.length:=by have:=of_decide_eq_true h;lia
   obtain ⟨k,hk,k1⟩:=ii (j:Int) (n:=ns.length) (Nat.lt_trans (by decide) h)
   refine aE rfl (aE rfl (jo (fun _=>?_) fun _=>?_))
   .exact Es (aE rfl (aE rfl (aE rfl (aE rfl (aE hk (aE (oe k1 hn) (aE rfl (aE (kq (k:=7919) j rfl) (aE (add_int _ _) (aE (AJ _ (k:=48271) rfl) (aE (dJ _ (k:=1000003) (by decide)) (fw ⟨rfl,_,rfl⟩))))))))))))
   .exact fw ⟨rfl,0,rfl⟩
  .exact fw ⟨rfl,0,rfl⟩
noncomputable def vl (f:Int)(m k:Nat):Nat:=((f+(k:Int)).fmod (m:Int)).toNat
theorem Dc {f:Int}{m k:Nat}(hm:0 < m):vl f m k < m:=by
 obtain ⟨x,h1,h2⟩:=eQ (f+(k:Int)) hm
 rw [vl,h1];exact h2
theorem vE {f:Int}{m k:Nat}(hm:0 < m):ck (.int (f+(k:Int))) (nT m)=some (nT (vl f m k)):=by
 obtain ⟨x,h1,h2⟩:=eQ (f+(k:Int)) hm
 rw [dJ _ hm,vl,h1];rfl
theorem Db {f:Int}{m j k:Nat}(hm:0 < m)(hj:j < k)(hk:k < m):vl f m j≠vl f m k:=fun e=>by
 have e1:(f+(j:Int)).fmod m=(f+(k:Int)).fmod m:=by
  obtain ⟨x,h1,_⟩:=eQ (f+(j:Int)) hm
  obtain ⟨y,h2,_⟩:=eQ (f+(k:Int)) hm
  rw [vl,vl,h1,h2] at e
  rw [h1,h2];exact congrArg ofNat e
 rw [Int.fmod_eq_emod_of_nonneg _ (by lia),Int.fmod_eq_emod_of_nonneg _ (by lia)] at e1
 have h0:=(Int.emod_eq_emod_iff_emod_sub_eq_zero).mp e1
 have h1:(f+(j:Int)) - (f+(k:Int))=-(((k - j:Nat):Int)):=by lia
 rw [h1] at h0
 have h2:((k - j:Nat):Int) % (m:Int)=0:=Int.emod_eq_zero_of_dvd (Int.dvd_neg.mp (Int.dvd_of_emod_eq_zero h0))
 rw [Int.emod_eq_of_lt (by lia) (by lia)] at h2
 lia
theorem sY {m:Nat}(hm:0 < m)(hm':m<=1000)(cell first:Int)(n:Nat):aP (fun t σ'=>σ'=σ/\∃r,t=cK r/\vr m r) (ah Ψ (n+1) 24 [.int cell,nT m,.int first] σ):=by
 have lp:∀(d k:Nat) (r:List Nat) (z:Int) (x5:Option T),k+d=m->r≠[]->r.Nodup->(∀p∈r,∃j,j < k/\p=vl first m j)->r.length<=k->
   aP (fun t σ'=>σ'=σ/\∃r,t=cK r/\vr m r) (cc (bx 5) (ai (bG (p2 cA (p2 ck (pV 3) (pC (.int 3))) (pC (.int 1))) (ai (iL 4 eV (p2 ck (p2 bM (pV 2) (pV 5)) (pV 1))) am) am) (ai (aI 3 (p2 fk (pV 3) (pC (.int 3)))) am)) ⟨ah Ψ n⟩ ((range' k d).map nT) [some (.int cell),some (nT m),some (.int first),some (.int z),some (cK r),x5] σ fun ρ σ=>ai (aD (pV 4)) am ⟨ah Ψ n⟩ ρ σ (kE 24)):=fun d=>by
  induction d with
  |zero=>exact fun k r z x5 e h1 h2 h3 _=>aE rfl (fw ⟨rfl,r,rfl,h1,h2,fun p hp=>by obtain ⟨j,_,rfl⟩:=h3 p hp;exact Dc hm⟩)
  |succ d ih=>
   intro k r z x5 e h1 h2 h3 h4
   have ih':=fun r z x5=>ih (k+1) r z x5 (by lia)
   have dv:∀(r:List Nat),r≠[]->r.Nodup->(∀p∈r,∃j,j < k+1/\p=vl first m j)->r.length<=k+1->aP (fun t σ'=>σ'=σ/\∃r,t=cK r/\vr m r) (ai (aI 3 (p2 fk (pV 3) (pC (.int 3)))) am ⟨ah Ψ n⟩ [some (.int cell),some (nT m),some (.int first),some (.int z),some (cK r),some (nT k)] σ fun ρ σ=>cc (bx 5) (ai (bG (p2 cA (p2 ck (pV 3) (pC (.int 3))) (pC (.int 1))) (ai (iL 4 eV (p2 ck (p2 bM (pV 2) (pV 5)) (pV 1))) am) am) (ai (aI 3 (p2 fk (pV 3) (pC (.int 3)))) am)) ⟨ah Ψ n⟩ ((range' (k+1) d).map nT) ρ σ fun ρ σ=>ai (aD (pV 4)) am ⟨ah Ψ n⟩ ρ σ (kE 24)):=fun r a b c d=>aE rfl (aE (du z (k:=3) rfl) (ih' r _ _ a b c d))
   refine DU (v:=nT k) (l:=(range' (k+1) d).map nT) rfl (aE rfl (aE (dJ z (k:=3) (by decide)) (aE (iw _ _) (jo (fun _=>?_) fun _=>?_))))
   .refine aE rfl (aE rfl (aE (add_int _ _) (aE rfl (aE (vE hm) (aE (f6 (e:=nT) (vl first m k) (lt_of_le_of_lt h4 (by rw [b0];lia))) (dv (r++[vl first m k]) ?_ ?_ ?_ ?_))))))
    .exact fun q=>by cases List.append_eq_nil_iff.mp q |>.2
    .refine nodup_append.mpr ⟨h2,pairwise_singleton _ _,fun a ha b hb q=>?_⟩
     obtain ⟨j,j1,rfl⟩:=h3 a ha
     exact Db hm j1 (by lia) (q.trans (aa hb))
    .intro p hp
     rcases ak hp with h |h
     .obtain ⟨j,j1,e⟩:=h3 p h
      exact ⟨j,Nat.lt_succ_of_lt j1,e⟩
     .exact ⟨k,Nat.lt_succ_self _,aa h⟩
    .rw [List.length_append];exact succ_le_succ h4
   .exact dv r h1 h2 (fun p hp=>by obtain ⟨j,j1,e⟩:=h3 p hp;exact ⟨j,Nat.lt_succ_of_lt j1,e⟩) (le_succ_of_le h4)
 have e0:ck (.int first) (nT m)=some (nT (vl first m 0)):=by
  have:=vE (f:=first) (k:=0) hm
  rw [show first+((0:Nat):Int)=first from Int.add_zero _] at this;exact this
 exact qe (aE rfl (aE (AJ _ (k:=48271) rfl) (aE (dJ _ (k:=1000003) (by decide)) (aE rfl (aE rfl (aE e0 (j5 rfl (aE rfl (aE (Bp (a:=1) hm (le_trans hm' (by decide))) (lp (m - 1) 1 [vl first m 0] _ none (by lia) (fun q=>nomatch q) (pairwise_singleton _ _) (fun p hp=>⟨0,Nat.zero_lt_one,aa hp⟩) (le_refl _)))))))))))
end
section
variable {ns:List Int}
theorem BG:Mk (ofString ""):=⟨by rw [o7];decide,jD⟩
theorem w9 {a:T}{l:List T}:aw (.lst (a::l)) (.int 0)=some a:=fb (j:=0) rfl (zero_le _)
theorem w8 {a b:T}{l:List T}:aw (.lst (a::b::l)) (.int 1)=some b:=fb (j:=1) rfl (by decide)
theorem Ew {a b:List T}(h:(a++b).length<=lim):bM (.lst a) (.lst b)=some (.lst (a++b)):=by unfold bM;exact pD h
theorem rX (hn:ns.length<=63)(j n:Nat){x y z:Str}(N:FV x y z){most:Nat}(h1:0 < most)(h2:most<=12):
  aP (fun t w'=>(∃j':Nat,w'=⟨(j':Int),none⟩)/\∃M:Mc,t=.tup M.fs/\M.Ok/\M.names.length<=most) (ah Ψ (n+2) 25 [.scr ns,.spot,AH x y z,nT most] ⟨(j:Int),none⟩):=by
 refine k9 (aE rfl (aE rfl (dU (kI hn j n) ?_)))
 rintro _ _ ⟨rfl,cell,rfl⟩
 obtain ⟨m0,hm,ml⟩:=ii cell h1
 refine aE rfl (aE hm (aE (add_int 1 _) (aE rfl (aE rfl (aE w9 (aE rfl (aE w8 (j5 rfl (aE (Ew (le_of_ble_eq_true rfl)) (j5 rfl (j5 rfl (aE rfl ?_))))))))))))
 obtain ⟨m,em⟩:∃m:Nat,m=1+m0:=⟨_,rfl⟩
 rw [show (1:Int)+(m0:Int)=(m:Int) by lia]
 have mp:0 < m:=by lia
 have mm:m<=most:=by lia
 let six':List Str:=[x,y,z,ofString "",x,y]
 have mk6:∀{i:Nat},i < 6->∃s,aw (.lst (six'.map .str)) (nT i)=some (.str s)/\Mk s:=fun {i} hi=>by
  have e:six'[i]?=some six'[i]:=getElem?_eq_getElem (show i < six'.length from hi)
  refine ⟨_,b7 (e:=T.str) e (le_trans (le_of_lt hi) (by decide)),?_⟩
  have:=mem_of_getElem? e
  generalize six'[i]=s at this
  simp only [six',mem_cons,not_mem_nil,or_false] at this
  rcases this with rfl |rfl |rfl |rfl |rfl |rfl
  .exact N.a.m
  .exact N.b.m
  .exact N.c.m
  .exact BG
  .exact N.a.m
  .exact N.b.m
 have lp:∀(d k:Nat) (L:List Str) (R:List (List Nat)) (x8 x9:Option T) (j:Nat) {κ:PK aZ} {Q:T->Sg->Prop},k+d=m->L.length=k->R.length=k->(∀s∈L,Mk s)->(∀r∈R,vr m r)->
   (∀(L:List Str) (R:List (List Nat)) (x8 x9:Option T) (j:Nat),L.length=m->R.length=m->(∀s∈L,Mk s)->(∀r∈R,vr m r)->aP Q (κ [some (.scr ns),some .spot,some (AH x y z),some (nT most),some (nT m),some (.lst (six'.map .str)),some (.lst (L.map .str)),some (.lst (R.map cK)),x8,x9] ⟨(j:Int),none⟩))->
   aP Q (cc (bx 8) (ai (aI 9 (ax 18 (ab (pV 0) (ab (pV 1) ar)))) (ai (iL 6 eV (p2 aw (pV 5) (p2 ck (pV 9) (pC (.int 6))))) (ai (iL 7 eV (ax 24 (ab (pV 9) (ab (pV 4) (ab (p2 fk (pV 9) (pC (.int 6))) ar))))) am))) ⟨ah Ψ (n+1)⟩ ((range' k d).map nT)
    [some (.scr ns),some .spot,some (AH x y z),some (nT most),some (nT m),some (.lst (six'.map .str)),some (.lst (L.map .str)),some (.lst (R.map cK)),x8,x9] ⟨(j:Int),none⟩ κ):=fun d=>by
  induction d with
  |zero=>exact fun k L R x8 x9 j κ Q e l1 l2 a b hk=>hk L R x8 x9 j (by lia) (by lia) a b
  |succ d ih=>
   intro k L R x8 x9 j κ Q e l1 l2 a b hk
   refine DU (v:=nT k) (l:=(range' (k+1) d).map nT) rfl (aE rfl (aE rfl (dU (kI hn j n) ?_)))
   rintro _ _ ⟨rfl,c,rfl⟩
   obtain ⟨i,hi,i6⟩:=ii c (n:=6) (by decide)
   obtain ⟨s,hs,ms⟩:=mk6 i6
   refine aE rfl (aE rfl (aE hi (aE hs (aE (f6 (e:=T.str) s (by rw [b0];lia)) (aE rfl (aE rfl (aE rfl (aE (du c (k:=6) rfl) (dU (sY mp (by lia) c _ n) ?_)))))))))
   rintro _ _ ⟨rfl,r,rfl,hr⟩
   refine aE (f6 (e:=cK) r (by rw [b0];lia)) (ih (k+1) (L++[s]) (R++[r]) _ _ (j+1) (by lia) (by rw [List.length_append,l1];rfl) (by rw [List.length_append,l2];rfl) (fun s' h=>(ak h).elim (a s') fun q=>aa q▸ms) (fun r' h=>(ak h).elim (b r') fun q=>aa q▸hr) hk)
 have rg:yk [nT m]=some ((range' 0 m).map nT):=by rw [<-List.range_eq_range'];exact k6 (by lia)
 refine aE rg (lp m 0 [] [] none _ (j+1) (zero_add _) rfl rfl (fun _ h=>nomatch h) (fun _ h=>nomatch h) ?_)
 intro L R x8 x9 j l1 l2 a b
 refine aE rfl (aE rfl (dU (kI hn j n) ?_))
 rintro _ _ ⟨rfl,c,rfl⟩
 have ok:∀r,vr m r->(⟨L,R,r⟩:Mc).Ok:=fun r hr=>⟨by rw [l1];exact mp,by rw [l1];lia,a,by rw [l1,l2],by rw [l1];exact b,by rw [l1];exact hr⟩
 refine aE rfl (aE (dJ c (k:=4) (by decide)) (aE (iw _ _) (jo (fun _=>?_) fun _=>?_)))
 .refine aE rfl (aE rfl (aE rfl (aE rfl (aE rfl (aE (du c (k:=4) rfl) (dU (sY mp (by lia) c _ n) ?_))))))
  rintro _ _ ⟨rfl,r,rfl,hr⟩
  exact fw ⟨⟨j+1,rfl⟩,⟨L,R,r⟩,rfl,ok r hr,by rw [show (⟨L,R,r⟩:Mc).names=L from rfl,l1];exact mm⟩
 .obtain ⟨p,hp,pm⟩:=ii (c.fdiv (4:Nat)) mp
  refine aE rfl (aE rfl (aE rfl (aE (du c (k:=4) rfl) (aE rfl (aE hp (fw ⟨⟨j+1,rfl⟩,⟨L,R,[p]⟩,rfl,ok [p] ⟨(fun q=>nomatch q),pairwise_singleton _ _,(fun q hq=>by cases aa hq;exact pm)⟩,?_⟩))))))
  rw [show (⟨L,R,[p]⟩:Mc).names=L from rfl,l1];exact mm
end
noncomputable def AM:List Str:=["not","and","or","next","till","always","again","till","always","next","not"].map ofString
theorem vP:od (.str (ofString "not and or next till always again till always next not")) (.str (ofString " "))=some (.lst (AM.map .str)):=by kernel_rfl
noncomputable abbrev F3:T:=.tup [.str (ofString "not"),.str (ofString "next"),.str (ofString "always"),.str (ofString "again")]
structure Un (k:Str) (C:Sy->Sy):Prop where
 t:kF (.str k) F3=some true
 to:∀a,bc (C a)=.tup [.str k,bc a]
 dep:∀a,dep (C a)=dep a+1
 all:∀a,all (C a)=C a::all a
 ne:∀a x,Sy.mark x≠C a
structure Bi (k:Str) (C:Sy->Sy->Sy):Prop where
 t:kF (.str k) F3=some false
 to:∀a c,bc (C a c)=.tup [.str k,bc a,bc c]
 dep:∀a c,dep (C a c)=max (dep a) (dep c)+1
 all:∀a c,all (C a c)=C a c::(all a++all c)
 ne:∀a c x,Sy.mark x≠C a c
theorem vF:Un (ofString "not") .not:=⟨by kernel_rfl,fun _=>rfl,fun _=>rfl,fun _=>rfl,fun _ _ h=>nomatch h⟩
theorem sV:Un (ofString "next") .next:=⟨by kernel_rfl,fun _=>rfl,fun _=>rfl,fun _=>rfl,fun _ _ h=>nomatch h⟩
theorem m7:Un (ofString "always") .always:=⟨by kernel_rfl,fun _=>rfl,fun _=>rfl,fun _=>rfl,fun _ _ h=>nomatch h⟩
theorem vG:Un (ofString "again") .again:=⟨by kernel_rfl,fun _=>rfl,fun _=>rfl,fun _=>rfl,fun _ _ h=>nomatch h⟩
theorem Cy:Bi (ofString "and") .and:=⟨by kernel_rfl,fun _ _=>rfl,fun _ _=>rfl,fun _ _=>rfl,fun _ _ _ h=>nomatch h⟩
theorem Et:Bi (ofString "or") .or:=⟨by kernel_rfl,fun _ _=>rfl,fun _ _=>rfl,fun _ _=>rfl,fun _ _ _ h=>nomatch h⟩
theorem t7:Bi (ofString "till") .till:=⟨by kernel_rfl,fun _ _=>rfl,fun _ _=>rfl,fun _ _=>rfl,fun _ _ _ h=>nomatch h⟩
theorem zq:∀i,i < 11->∃k,AM[i]?=some k/\((∃C,Un k C)\/∃C,Bi k C)
 | 0,_=>⟨_,rfl,.inl ⟨_,vF⟩⟩
 | 1,_=>⟨_,rfl,.inr ⟨_,Cy⟩⟩
 | 2,_=>⟨_,rfl,.inr ⟨_,Et⟩⟩
 | 3,_=>⟨_,rfl,.inl ⟨_,sV⟩⟩
 | 4,_=>⟨_,rfl,.inr ⟨_,t7⟩⟩
 | 5,_=>⟨_,rfl,.inl ⟨_,m7⟩⟩
 | 6,_=>⟨_,rfl,.inl ⟨_,vG⟩⟩
 | 7,_=>⟨_,rfl,.inr ⟨_,t7⟩⟩
 | 8,_=>⟨_,rfl,.inl ⟨_,m7⟩⟩
 | 9,_=>⟨_,rfl,.inl ⟨_,sV⟩⟩
 | 10,_=>⟨_,rfl,.inl ⟨_,vF⟩⟩
 |_+11,h=>absurd h (by lia)
theorem Un.gm {k:Str}{C:Sy->Sy}(U:Un k C){a:Sy}(h:Gm a):Gm (C a):=fun x hx=>by
 rw [U.all] at hx
 rcases an hx with e |hx
 .exact absurd e (U.ne a x)
 .exact h x hx
theorem Bi.gm {k:Str}{C:Sy->Sy->Sy}(U:Bi k C){a c:Sy}(h:Gm a)(h':Gm c):Gm (C a c):=fun x hx=>by
 rw [U.all] at hx
 rcases an hx with e |hx
 .exact absurd e (U.ne a c x)
 .exact (ak hx).elim (h x) (h' x)
section
variable {ns:List Int}
theorem lt_int (a b:Int):rB (.int a) (.int b)=some (decide (a < b)):=by unfold rB;rfl
theorem sub_int (a b:Int):jw (.int a) (.int b)=some (.int (a - b)):=by unfold jw;rfl
theorem y9 (hn:ns.length<=63){x y z:Str}(N:FV x y z):∀(d j n:Nat),1<=d->d<=n->aP (fun t w'=>(∃j':Nat,w'=⟨(j':Int),none⟩)/\∃s,t=bc s/\dep s<=d/\Gm s) (ah Ψ (n+1) 20 [.scr ns,.spot,AH x y z,nT d] ⟨(j:Int),none⟩):=by
 intro d
 induction d with
 |zero=>intro j n h;cases h
 |succ d ih=>
  intro j n _ hd
  obtain ⟨n,rfl⟩:∃k,n=k+1:=⟨n - 1,by lia⟩
  refine qf (aE rfl (aE rfl (dU (kI hn j n) ?_)))
  rintro _ _ ⟨rfl,c,rfl⟩
  have leaf:∀{κ:PK aZ},aP (fun t w'=>(∃j':Nat,w'=⟨(j':Int),none⟩)/\∃s,t=bc s/\dep s<=d+1/\Gm s) (ai (bG (p2 cA (p2 ck (pV 5) (pC (.int 9))) (pC (.int 4))) (ai (aD (aY (ab (pC (.str (ofString "yes"))) ar))) am) am) (ai (aD (aY (ab (pC (.str (ofString "mark"))) (ab (p2 aw (pV 2) (p2 ck (pV 5) (pC (.int 3)))) ar)))) am)
    ⟨ah Ψ (n+1)⟩ [some (.scr ns),some .spot,some (AH x y z),some (nT (d+1)),some (.int c),some (.int (c.fdiv (13:Nat))),none,none,none] ⟨((j+1:Nat):Int),none⟩ κ):=fun {κ}=>by
   refine aE rfl (aE (dJ _ (k:=9) (by decide)) (aE (iw _ _) (jo (fun _=>?_) fun _=>?_)))
   .exact fw ⟨⟨_,rfl⟩,.yes,rfl,succ_le_succ (zero_le _),fun x h=>by cases aa h⟩
   .obtain ⟨i,hi,i3⟩:=ii (c.fdiv (13:Nat)) (n:=3) (by decide)
    obtain ⟨s,hs,ms⟩:∃s,aw (AH x y z) (nT i)=some (.str s)/\Nm s:=by
     rcases Nat.lt_succ_iff_lt_or_eq.mp i3 with h |rfl
     .rcases Nat.lt_succ_iff_lt_or_eq.mp h with h |rfl
      .cases Nat.lt_one_iff.mp h;exact ⟨x,fb (j:=0) rfl (by decide),N.a⟩
      .exact ⟨y,fb (j:=1) rfl (by decide),N.b⟩
     .exact ⟨z,fb (j:=2) rfl (by decide),N.c⟩
    exact aE rfl (aE rfl (aE hi (aE hs (fw ⟨⟨_,rfl⟩,.mark s,rfl,succ_le_succ (zero_le _),fun x h=>by cases aa h;exact ⟨ms.m,ms.ne⟩⟩))))
  obtain ⟨i,hi,i13⟩:=ii c (n:=13) (by decide)
  refine aE rfl (aE (du c (k:=13) rfl) (aE rfl (aE (lt_int _ _) ?_)))
  by_cases h1:((d+1:Nat):Int) < 2
  .rw [decide_eq_true h1];exact leaf
  rw [decide_eq_false h1]
  refine Aa (aE rfl (aE hi (aE (lt_int _ _) ?_)))
  by_cases h2:(i:Int) < 2
  .rw [decide_eq_true h2];exact leaf
  rw [decide_eq_false h2]
  obtain ⟨k,hk,kc⟩:=zq (i - 2) (by lia)
  have e1:jw (nT i) (.int 2)=some (nT (i - 2)):=by rw [sub_int];exact congrArg (fun z=>some (T.int z)) (by lia)
  have e2:jw (nT (d+1)) (.int 1)=some (nT d):=by rw [sub_int];exact congrArg (fun z=>some (T.int z)) (by lia)
  refine Aa (Aa (aE rfl (aE vP (aE rfl (aE hi (aE e1 (aE (b7 (e:=T.str) hk (by rw [b0];lia)) (aE rfl (aE rfl (aE rfl (aE rfl (aE e2 (dU (ih (j+1) n (by lia) (by lia)) ?_)))))))))))))
  rintro _ _ ⟨⟨j',rfl⟩,a,rfl,da,ga⟩
  refine aE rfl (j5 rfl ?_)
  rcases kc with ⟨C,U⟩ | ⟨C,U⟩
  .refine aE U.t (Es ?_)
   exact aE rfl (aE rfl (fw ⟨⟨j',rfl⟩,C a,(U.to a).symm,by rw [U.dep];exact succ_le_succ da,U.gm ga⟩))
  .refine aE U.t (Aa ?_)
   refine aE rfl (aE rfl (aE rfl (aE rfl (aE rfl (aE rfl (aE e2 (dU (ih j' n (by lia) (by lia)) ?_)))))))
   rintro _ _ ⟨⟨j'',rfl⟩,b,rfl,db,gb⟩
   exact fw ⟨⟨j'',rfl⟩,C a b,(U.to a b).symm,by rw [U.dep];exact succ_le_succ (max_le.mpr ⟨da,db⟩),U.gm ga gb⟩
end
section
variable {σ:Sg}
theorem uc {α:Type}{e:α->T}{l q:List α}(h:l.length+q.length<=lim):bM (.lst (l.map e)) (.lst (q.map e))=some (.lst ((l++q).map e)):=by
 show nO _ _=_
 rw [<-map_append,length_map,List.length_append,nO,show cm (l.length+q.length)=true from ble_eq_true_of_le h];rfl
theorem Ai:∀s:Sy,(all s).length+1<=2 ^ dep s:=by
 have two:∀(s a c:Sy),(all a).length+1<=2 ^ dep a->(all c).length+1<=2 ^ dep c->dep s=max (dep a) (dep c)+1->all s=s::(all a++all c)->(all s).length+1<=2 ^ dep s:=fun s a c ha hc e e2=>by
  have h1:=pow_le_pow_right (n:=2) (by decide) (le_max_left (dep a) (dep c))
  have h2:=pow_le_pow_right (n:=2) (by decide) (le_max_right (dep a) (dep c))
  rw [e,e2,pow_succ,length_cons,List.length_append];lia
 have one:∀(s a:Sy),(all a).length+1<=2 ^ dep a->dep s=dep a+1->all s=s::all a->(all s).length+1<=2 ^ dep s:=fun s a ha e e2=>by
  rw [e,e2,pow_succ,length_cons];lia
 intro s
 induction s with
 |mark |yes=>exact le_refl 2
 |not a ih |next a ih |always a ih |again a ih=>exact one _ a ih rfl rfl
 |and a c ih ih' |or a c ih ih' |till a c ih ih'=>exact two _ a c ih ih' rfl rfl
theorem x0 {s:Sy}(h:dep s<=8):(all s).length<=256:=le_trans (le_succ _) (le_trans (Ai s) (pow_le_pow_right (j:=8) (by decide) h))
noncomputable abbrev Ex:PS:=ai (bG (qE (p1 (eO .tuple) (pV 2))) (ai (aI 1 (p2 bM (pV 1) (ax 21 (ab (pV 2) ar)))) am) am) am
theorem Be (s:Sy):∃ts,bc s=.tup ts:=by cases s<;>exact ⟨_,rfl⟩
theorem xZ {c:iK}{t:Option T}:∀(l:List Sy),(∀a∈l,(all a).length<=256/\c.call 21 [bc a] σ=.ret (dE (all a)) σ)->∀(F:List Sy) (x2:Option T) {k:PK aZ} {r:c7},F.length+l.length * 256<=10000->
  (∀x2,k [t,some (dE (l.foldl (fun f a=>f++all a) F)),x2] σ=r)->cc (bx 2) Ex c (l.map bc) [t,some (dE F),x2] σ k=r:=by
 intro l
 induction l with
 |nil=>intro _ F x2 k r _ hk;exact hk x2
 |cons a l ih=>
  intro hl F x2 k r h1 hk
  obtain ⟨h2,h3⟩:=hl a (.head _)
  rw [length_cons] at h1
  have e:=ih (fun b hb=>hl b (.tail _ hb)) (F++all a) (some (bc a)) (by rw [List.length_append];lia) hk
  obtain ⟨ts,et⟩:=Be a
  rw [map_cons,et]
  rw [et] at h3 e
  exact ay h3 (mt (uc (by rw [b0];lia)) e)
theorem CE (s:Sy):all s=(bu s).foldl (fun f a=>f++all a) [s]:=by cases s<;>rfl
theorem CD:∀(n:Nat) (s:Sy),dep s<=n->dep s<=8->ah Ψ (n+1) 21 [bc s] σ=.ret (dE (all s)) σ:=by
 intro n
 induction n with
 |zero=>intro s h;exact absurd (gX s) (fK (lt_succ_of_le h))
 |succ n ih=>
  intro s h h8
  have pl:(bu s).length<=2:=by cases s<;>exact le_of_ble_eq_true rfl
  have L:=xZ (σ:=σ) (c:=⟨ah Ψ (n+1)⟩) (t:=some (bc s)) (bu s) (fun a ha=>⟨x0 (le_trans (le_of_lt (bI ha)) h8),ih a (le_of_lt_succ (lt_of_lt_of_le (bI ha) h)) (le_trans (le_of_lt (bI ha)) h8)⟩) [s] none (k:=fun ρ σ=>ai (aD (pV 1)) am ⟨ah Ψ (n+1)⟩ ρ σ (kE 21)) (r:=.ret (dE (all s)) σ) (by show 1+_<=_;lia) fun x2=>by rw [CE s];rfl
  cases s with
  |mark x=>exact mh (mt (a:=.tup [.str x]) (by kernel_rfl) rfl)
  |_=>exact mh (mt (a:=.tup ((bu _).map bc)) (by kernel_rfl) (ae rfl L))
end
section
variable {σ:Sg}
noncomputable abbrev wQ:PS:=(ai (aI 3 (cq ar))
  (ai (bG (p2 kF (p2 aw (pV 2) (pC (.int 0))) (aY (ab (pC (.str (ofString "next"))) (ab (pC (.str (ofString "till"))) (ab (pC (.str (ofString "always"))) ar)))))
  (ai (aI 3 (cq (ab (pV 2) ar)))
  am)
  (ai (bG (p2 cA (p2 aw (pV 2) (pC (.int 0))) (pC (.str (ofString "again"))))
  (ai (aI 3 (cq (ab (aY (ab (pC (.str (ofString "till"))) (ab (aY (ab (pC (.str (ofString "yes"))) ar)) (ab (p2 aw (pV 2) (pC (.int 1))) ar)))) (ab (aY (ab (pC (.str (ofString "always"))) (ab (aY (ab (pC (.str (ofString "till"))) (ab (aY (ab (pC (.str (ofString "yes"))) ar)) (ab (p2 aw (pV 2) (pC (.int 1))) ar)))) ar))) ar))))
  am)
  am)
  am))
  (ai (aI 1 (p2 bM (pV 1) (bE (bK (pV 3)) (bx 4) (p2 hJ (pV 4) (pV 1)) (pV 4))))
  am)))
theorem BR {c:iK}{t2:Option T}{t0:Option T}{f xs:List Sy}(hf:∀x∈f,dep x<=40)(hx:∀x∈xs,dep x<=40)(hl:f.length+xs.length<=20000){k:PK aZ}{r:c7}(hk:k [t0,some (dE (ext f xs)),t2,some (dE xs),none] σ=r):
  ai (aI 1 (p2 bM (pV 1) (bE (bK (pV 3)) (bx 4) (p2 hJ (pV 4) (pV 1)) (pV 4)))) am c [t0,some (dE f),t2,some (dE xs),none] σ k=r:=
 lX (i:=4) (fun _=>rfl) (fun _=>rfl) hf hx (mt (uc (e:=bc) (l:=f) (q:=xs.filter fun x=>!f.contains x) (oA f xs hl)) hk)
theorem zj {c:iK}{t0 x3:Option T}{f:List Sy}{t:Sy}(hf:∀x∈f,dep x<=40)(ht:dep t<=30)(hl:f.length<=10000){k:PK aZ}{r:c7}(hk:k [t0,some (dE (ext f (bQ t))),some (bc t),some (dE (bQ t)),none] σ=r):
  wQ c [t0,some (dE f),some (bc t),x3,none] σ k=r:=by
 have hx:∀x∈bQ t,dep x<=40:=fun x hx=>le_trans (bS (aQ.mpr ⟨t,iX t,hx⟩)) (le_trans (succ_le_succ ht) (by decide))
 have ol:(bQ t).length<=2:=by cases t<;>exact le_of_ble_eq_true rfl
 have E:=BR (c:=c) (t0:=t0) (t2:=some (bc t)) hf hx (by lia) hk
 cases t<;>exact E
theorem zl {c:iK}{t0:Option T}:∀(l:List Sy),(∀a∈l,dep a<=30)->∀(f:List Sy) (x2 x3:Option T) {k:PK aZ} {r:c7},(∀x∈f,dep x<=40)->f.length+l.length * 2<=10000->
  (∀x2 x3,k [t0,some (dE (l.foldl (fun f t=>ext f (bQ t)) f)),x2,x3,none] σ=r)->cc (bx 2) wQ c (l.map bc) [t0,some (dE f),x2,x3,none] σ k=r:=by
 intro l
 induction l with
 |nil=>intro _ f x2 x3 k r _ _ hk;exact hk x2 x3
 |cons t l ih=>
  intro hl f x2 x3 k r hf h1 hk
  rw [length_cons] at h1
  have ht:=hl t (.head _)
  have ol:(bQ t).length<=2:=by cases t<;>exact le_of_ble_eq_true rfl
  have el:=fU f (bQ t)
  exact zj hf ht (by lia) (ih (fun a ha=>hl a (.tail _ ha)) _ _ _ (fun x hx=>(i8.mp hx).elim (hf x) fun q=>le_trans (bS (aQ.mpr ⟨t,iX t,q⟩)) (le_trans (succ_le_succ ht) (by decide))) (by lia) hk)
theorem DK {n:Nat}{s:Sy}(h:dep s<=n)(h8:dep s<=8):ah Ψ (n+2) 22 [bc s] σ=.ret (dE (lb s)) σ:=
 pF (ay (CD n s h h8) (zl (all s) (fun a ha=>le_trans (ua ha) (le_trans h8 (by decide))) [] none none (fun _ h=>nomatch h) (by have:=x0 h8;rw [length_nil];lia) fun _ _=>rfl))
theorem uN {s:Sy}(h:0 < (lb s).length):∃p∈bu s,aw (bc s) (.int (-1))=some (bc p):=by
 cases s with
 |mark |yes=>cases h
 |not a |next a |always a |again a=>exact ⟨a,.head _,rfl⟩
 |and a c |or a c |till a c=>exact ⟨c,.tail _ (.head _),rfl⟩
theorem Cf {s:Sy}{m:Nat}(h8:dep s<=8)(hg:Gm s)(n:Nat):aP (fun t σ'=>σ'=σ/\∃s',t=bc s'/\dep s'<=dep s/\Gm s'/\(ao s').length<=m) (ah Ψ (n+12) 23 [bc s,nT m] σ):=by
 have lp:∀(N:Nat) (s':Sy),dep s' < N->dep s'<=dep s->Gm s'->aP (fun t σ'=>σ'=σ/\∃s',t=bc s'/\dep s'<=dep s/\Gm s'/\(ao s').length<=m)
   (fN (p2 Cc (p1 bF (ax 22 (ab (pV 0) ar))) (pV 1)) (ai (aI 0 (p2 aw (pV 0) (p1 oE (pC (.int 1))))) am) ⟨ah Ψ (n+11)⟩ N [some (bc s'),some (nT m)] σ fun ρ σ=>ai (aD (pV 0)) am ⟨ah Ψ (n+11)⟩ ρ σ (kE 23)):=fun N=>by
  induction N with
  |zero=>intro s' h;cases h
  |succ N ih=>
   intro s' h hs g
   have L:=DK (σ:=σ) (n:=n+9) (s:=s') (le_trans (le_trans hs h8) (by lia)) (le_trans hs h8)
   rw [iM]
   refine i7 L (aE rfl (aE rfl (aE rfl (jo (fun q=>?_) fun q=>?_))))
   .have q:m < (lb s').length:=by have:=of_decide_eq_true q;rw [length_map] at this;lia
    obtain ⟨p,hp,e⟩:=uN (lt_of_le_of_lt (zero_le _) q)
    have d:=bI hp
    exact ry e (ih p (by lia) (by lia) fun x hx=>g x (gM hp hx))
   .have q:(lb s').length<=m:=by have:=of_decide_eq_false q;rw [length_map] at this;lia
    exact fw ⟨rfl,s',rfl,hs,g,BQ s'▸q⟩
 exact rO (lp 40 s (by lia) (le_refl _) hg)
end
section
variable {bs:List Sy} {g g':List Bool} {m m':Str} {σ:Sg}
noncomputable def Bd (x:Sy):Prop:=(∃a,x=.next a)\/(∃a c,x=.till a c)\/∃a,x=.always a
theorem fR (B:rG bs g){x:Sy}(hx:x∈bs):fj (dE bs) (bc x)=some (.int (bs.idxOf x))/\aw (gT g) (.int (bs.idxOf x))=some (.bool (look bs g x)):=
 ⟨(lV 40).idx (by decide) (B.dep x hx) B.dep hx,oY (e:=T.bool) (tx B hx) (le_trans (le_of_lt (List.idxOf_lt_length_iff.mpr hx)) (le_trans B.few (by decide)))⟩
theorem AO (B:rG bs g){x:Sy}(h:dep x<=40):kF (bc x) (dE bs)=some (decide (x∈bs)):=(lV 40).mem (by decide) h B.dep rfl
section
variable {c:iK} {t0 M Bt G v:T} {w:Str} {i:Int} {ts ys:List T} {k:PK aZ}
noncomputable abbrev sF (t0 M Bt G:T)(w:Str)(y:Option T):aZ:=[some t0,some M,some Bt,some G,some (.str w),y,none]
theorem oL {xs:List T}(h0:aw t0 (.int 0)=some (.str w))(e1:cA (.str w) (.str (ofString "mark"))=some false)(e2:cA (.str w) (.str (ofString "yes"))=some false)(e3:cA (.str w) (.str (ofString "again"))=some false)(hi:kF t0 (.lst xs)=some true)(hx:fj (.lst xs) t0=some (.int i))(hv:aw G (.int i)=some v):
  dG c [some t0,some M,some (.lst xs),some G,none,none,none] σ k=.ret v σ:=
 ae rfl (ae h0 (ae rfl (ae e1 (bY rfl (ae rfl (ae e2 (bY rfl (ae rfl (ae e3 (bY rfl (ae rfl (ae rfl (ae hi (gh rfl (ae rfl (ae rfl (ae rfl (ae hx (ae hv rfl)))))))))))))))))))
@[reducible] noncomputable def Fm:PS:=(ai (bG (p2 cA (pV 4) (pC (.str (ofString "not")))) (ai (aD (mL (p2 aw (pV 5) (pC (.int 0))))) am) am) (ai (aD (p2 aw (cq (ab (eX (p2 aw (pV 5) (pC (.int 0))) (p2 aw (pV 5) (pC (.int 1)))) (ab (wj (p2 aw (pV 5) (pC (.int 0))) (p2 aw (pV 5) (pC (.int 1)))) ar))) (p1 lJ (pB (p2 cA (pV 4) (pC (.str (ofString "or")))))))) am))
theorem BL {x y:Bool}:Fm c (sF t0 M Bt G (ofString "and") (some (.lst [.bool x,.bool y]))) σ k=.ret (.bool (x&&y)) σ:=by
 cases x<;>cases y<;>with_unfolding_all rfl
theorem DI {x y:Bool}:Fm c (sF t0 M Bt G (ofString "or") (some (.lst [.bool x,.bool y]))) σ k=.ret (.bool (x||y)) σ:=by
 cases x<;>cases y<;>with_unfolding_all rfl
theorem oK {xs:List T}{o:c7}(h0:aw t0 (.int 0)=some (.str w))(e1:cA (.str w) (.str (ofString "mark"))=some false)(e2:cA (.str w) (.str (ofString "yes"))=some false)(e3:cA (.str w) (.str (ofString "again"))=some false)(hi:kF t0 (.lst xs)=some false)(hS:dc t0 (some 1) none=some (.tup ts))
  (hC:∀k:PK (List T),bW (bx 6) b9 (ax 26 (ab (pV 6) (ab (pV 1) (ab (pV 2) (ab (pV 3) ar))))) c (sF t0 M (.lst xs) G w none) ts σ [] k=k ys σ)
  (h:Fm c (sF t0 M (.lst xs) G w (some (.lst ys))) σ k=o):
  dG c [some t0,some M,some (.lst xs),some G,none,none,none] σ k=o:=
 ae rfl (ae h0 (ae rfl (ae e1 (bY rfl (ae rfl (ae e2 (bY rfl (ae rfl (ae e3 (bY rfl (ae rfl (ae rfl (ae hi (bY rfl (ae rfl (ae rfl (ae hS (ae rfl ((hC _).trans h)))))))))))))))))))
end
theorem jA (B:rG bs g)(hb:∀x∈bs,Bd x):∀(n:Nat) (s:Sy),dep s<=n->dep s<=40->dw bs s->ah Ψ (n+1) 26 [bc s,.str m,dE bs,gT g] σ=.ret (.bool (so m bs g s)) σ:=by
 have no:∀{x:Sy},¬Bd x->x∉bs:=fun h q=>h (hb _ q)
 intro n
 induction n with
 |zero=>intro s h;exact absurd (gX s) (not_lt.mpr h)
 |succ n ih=>
  intro s hs h40 cl
  have C:∀{w:Str} (k:PK (List T)),bW (bx 6) b9 (ax 26 (ab (pV 6) (ab (pV 1) (ab (pV 2) (ab (pV 3) ar))))) ⟨ah Ψ (n+1)⟩ (sF (bc s) (.str m) (dE bs) (gT g) w none) ((bu s).map bc) σ [] k=k ((bu s).map fun p=>.bool (so m bs g p)) σ:=fun {w} k=>
   eT (e:=bc) (fun p=>.bool (so m bs g p)) (fun p hp=>⟨_,rfl,fun κ=>ay (ih p (le_of_lt_succ (lt_of_lt_of_le (bI hp) hs)) (le_trans (le_of_lt (bI hp)) h40) (bX cl hp)) rfl⟩) rfl
  have bd:∀{x:Sy},x=s->x∈bs->kF (bc x) (dE bs)=some true:=fun {x} e hx=>by rw [AO B (e▸h40),decide_eq_true hx]
  have nb:∀{x:Sy},x=s->¬Bd x->kF (bc x) (dE bs)=some false:=fun {x} e hx=>by rw [AO B (e▸h40),decide_eq_false (no hx)]
  cases s with
  |mark x=>exact cF rfl
  |yes=>exact cF rfl
  |not a=>
   refine cF (oK rfl rfl rfl rfl (nb rfl ?_) (by with_unfolding_all rfl) C ?_)
   .rintro (⟨_,h⟩ | ⟨_,_,h⟩ | ⟨_,h⟩)<;>cases h
   .exact ae rfl (ae rfl (gh rfl (ae rfl (ae (b7 (e:=fun p=>T.bool (so m bs g p)) (l:=[a]) (i:=0) rfl (by decide)) rfl))))
  |and a b=>
   refine cF (oK rfl rfl rfl rfl (nb rfl ?_) (by with_unfolding_all rfl) C ?_)
   .rintro (⟨_,h⟩ | ⟨_,_,h⟩ | ⟨_,h⟩)<;>cases h
   .exact BL (x:=so m bs g a) (y:=so m bs g b)
  |or a b=>
   refine cF (oK rfl rfl rfl rfl (nb rfl ?_) (by with_unfolding_all rfl) C ?_)
   .rintro (⟨_,h⟩ | ⟨_,_,h⟩ | ⟨_,h⟩)<;>cases h
   .exact DI (x:=so m bs g a) (y:=so m bs g b)
  |next a=>exact have h:=fR B (bq cl _ (.head _));cF (oL rfl rfl rfl rfl (bd rfl (bq cl _ (.head _))) h.1 h.2)
  |till a b=>exact have h:=fR B (bq cl _ (.head _));cF (oL rfl rfl rfl rfl (bd rfl (bq cl _ (.head _))) h.1 h.2)
  |always a=>exact have h:=fR B (bq cl _ (.head _));cF (oL rfl rfl rfl rfl (bd rfl (bq cl _ (.head _))) h.1 h.2)
  |again a=>
   have h:=fR B (x:=.always (.till .yes a)) (bq cl _ (.tail _ (.head _)))
   exact cF (ae rfl (ae rfl (ae rfl (ae rfl (bY rfl (ae rfl (ae rfl (bY rfl (ae rfl (ae rfl (gh rfl (ae rfl (ae rfl (gh rfl (ae rfl (ae rfl (gh rfl (gh rfl (ae h.1 (ae h.2 rfl))))))))))))))))))))
end
section
variable {s:Sy} {g g':List Bool} {m m':Str} {σ:Sg}
noncomputable abbrev oB:PS:=(ai (aI 7 (bE (bK (p3 dc (pV 6) (p1 gk (pC (.int 1))) tg)) (bx 9) b9 (ax 26 (ab (pV 9) (ab (pV 1) (ab (pV 0) (ab (pV 2) ar)))))))
  (ai (aI 8 (ax 26 (ab (p2 aw (pV 6) (pC (.int 1))) (ab (pV 3) (ab (pV 0) (ab (pV 4) ar))))))
  (ai (bG (p2 cA (p2 aw (pV 6) (pC (.int 0))) (pC (.str (ofString "always"))))
  (ai (aI 8 (eX (p2 aw (pV 7) (pC (.int 0))) (p2 aw (pV 4) (pV 5))))
  am)
  am)
  (ai (bG (p2 cA (p2 aw (pV 6) (pC (.int 0))) (pC (.str (ofString "till"))))
  (ai (aI 8 (wj (p2 aw (pV 7) (pC (.int 1))) (eX (p2 aw (pV 7) (pC (.int 0))) (p2 aw (pV 4) (pV 5)))))
  am)
  am)
  (ai (bG (p2 jW (p2 aw (pV 2) (pV 5)) (pV 8))
  (ai (aD (pC (.bool false)))
  am)
  am)
  am)))))
noncomputable abbrev oF (B:T)(m g m' g':T)(k x:Option T)(y z:Option T):aZ:=[some B,some m,some g,some m',some g',k,x,y,z,none]
theorem BC {c:iK}{B M G M' G' K x y:T}{a b:Bool}{o:c7}{κ:PK aZ}(hg:aw G K=some (.bool a))(h:a=b->κ (oF B M G M' G' (some K) (some x) (some y) (some (.bool b))) σ=o)(h2:a≠b->c7.ret (.bool false) σ=o):
  (ai (bG (p2 jW (p2 aw (pV 2) (pV 5)) (pV 8)) (ai (aD (pC (.bool false))) am) am) am) c (oF B M G M' G' (some K) (some x) (some y) (some (.bool b))) σ κ=o:=by
 refine ae rfl (ae rfl (ae hg (ae rfl ?_)))
 cases a<;>cases b<;>first |exact h rfl |exact h2 (fun q=>nomatch q)
theorem uM (hd:∀x∈ao s,dep x<=40)(B:rG (ao s) g)(B':rG (ao s) g'){n:Nat}(hn:∀x∈ao s,dep x<=n):
  ah Ψ (n+2) 27 [dE (ao s),.str m,gT g,.str m',gT g'] σ=.ret (.bool (o3 (ao s) m g m' g')) σ:=by
 have lp:∀(suf pre:List Sy) (x5 x6 x7 x8:Option T) (k:PK aZ),ao s=pre++suf->(∀x5 x6 x7 x8,k (oF (dE (ao s)) (.str m) (gT g) (.str m') (gT g') x5 x6 x7 x8) σ=.ret (.bool true) σ)->
   cc (yB 5 6) oB ⟨ah Ψ (n+1)⟩ (gL pre.length (suf.map bc)) (oF (dE (ao s)) (.str m) (gT g) (.str m') (gT g') x5 x6 x7 x8) σ k=.ret (.bool (suf.all fun x=>look (ao s) g x==fg (ao s) m g m' g' x)) σ:=by
  intro suf
  induction suf with
  |nil=>exact fun pre x5 x6 x7 x8 k _ hk=>hk x5 x6 x7 x8
  |cons x suf ih=>
   intro pre x5 x6 x7 x8 k e hk
   have hx:x∈ao s:=e▸mem_append_right _ (.head _)
   have hi:(ao s).idxOf x=pre.length:=by
    have nd:=aX s
    rw [e] at nd ⊢
    have hp:x∉pre:=fun q=>(aL nd).2.2 x q x (.head _) rfl
    rw [List.idxOf_append,if_neg hp,idxOf_cons,beq_self_eq_true,cond_true,zero_add]
   have h1:=(fR B hx).2
   have h2:=(fR B' hx).2
   rw [hi] at h1 h2
   have ih:=fun x5 x6 x7 x8=>ih (pre++[x]) x5 x6 x7 x8 k (by rw [e,List.append_assoc];rfl) hk
   rw [List.length_append] at ih
   have dp:∀p∈bu x,dep p<=n/\dep p<=40:=fun p hp=>⟨le_trans (le_of_lt (bI hp)) (hn x hx),le_trans (le_of_lt (bI hp)) (hd x hx)⟩
   have cl:∀p∈bu x,dw (ao s) p:=fun p hp=>fZ hx hp
   have S:∀{m:Str} {g:List Bool},rG (ao s) g->∀p∈bu x,ah Ψ (n+1) 26 [bc p,.str m,dE (ao s),gT g] σ=.ret (.bool (so m (ao s) g p)) σ:=fun B p hp=>jA B (fun x hx=>cG hx) n p (dp p hp).1 (dp p hp).2 (cl p hp)
   have C:∀k:PK (List T),bW (bx 9) b9 (ax 26 (ab (pV 9) (ab (pV 1) (ab (pV 0) (ab (pV 2) ar))))) ⟨ah Ψ (n+1)⟩ (oF (dE (ao s)) (.str m) (gT g) (.str m') (gT g') (some (nT pre.length)) (some (bc x)) x7 x8) ((bu x).map bc) σ [] k=k ((bu x).map fun p=>.bool (so m (ao s) g p)) σ:=fun k=>
    eT (e:=bc) (fun p=>.bool (so m (ao s) g p)) (fun p hp=>⟨_,rfl,fun κ=>ay (S B p hp) rfl⟩) rfl
   have fin:∀{b:Bool} {y:T},fg (ao s) m g m' g' x=b->(ai (bG (p2 jW (p2 aw (pV 2) (pV 5)) (pV 8)) (ai (aD (pC (.bool false))) am) am) am) ⟨ah Ψ (n+1)⟩ (oF (dE (ao s)) (.str m) (gT g) (.str m') (gT g') (some (nT pre.length)) (some (bc x)) (some y) (some (.bool b))) σ (fun ρ σ=>cc (yB 5 6) oB ⟨ah Ψ (n+1)⟩ (gL (pre.length+1) (suf.map bc)) ρ σ k)=.ret (.bool ((x::suf).all fun x=>look (ao s) g x==fg (ao s) m g m' g' x)) σ:=fun {b y} hw=>by
    refine BC h1 (fun q=>?_) fun q=>?_
    .rw [List.all_cons,hw,<-q,beq_self_eq_true,Bool.true_and];exact ih _ _ _ _
    .rw [List.all_cons,hw,beq_eq_false_iff_ne.mpr q,Bool.false_and]
   rcases cG hx with ⟨a,rfl⟩ | ⟨a,c,rfl⟩ | ⟨a,rfl⟩
   .refine je (v:=.tup [nT pre.length,bc (Sy.next a)]) (l:=gL (pre.length+1) (suf.map bc)) rfl ?_
    refine ae rfl (ae rfl (ae (show dc (bc (Sy.next a)) (some 1) none=some (.tup ((bu (Sy.next a)).map bc)) by with_unfolding_all rfl) ?_))
    refine ae rfl ?_
    refine (C _).trans ?_
    refine ae rfl (ae rfl (ae rfl (ae rfl (ae rfl (ay (S B' a (.head _)) ?_)))))
    exact fin pP
   .refine je (v:=.tup [nT pre.length,bc (Sy.till a c)]) (l:=gL (pre.length+1) (suf.map bc)) rfl ?_
    refine ae rfl (ae rfl (ae (show dc (bc (Sy.till a c)) (some 1) none=some (.tup ((bu (Sy.till a c)).map bc)) by with_unfolding_all rfl) ?_))
    refine ae rfl ?_
    refine (C _).trans ?_
    refine ae rfl (ae rfl (ae rfl (ae rfl (ae rfl (ay (S B' a (.head _)) ?_)))))
    have w:=jK (bs:=ao s) (m:=m) (g:=g) (m':=m') (g':=g') (a:=a) (c:=c)
    refine ae rfl (ae rfl (ae rfl (bY rfl (ae rfl (ae rfl (ae rfl (gh rfl (ae rfl (ae (b7 (e:=fun p=>T.bool (so m (ao s) g p)) (l:=[a,c]) (i:=1) rfl (by decide)) ?_)))))))))
    cases q1:so m (ao s) g c with
    |true=>rw [q1] at w;exact fin w
    |false=>
     refine ae rfl (ae (b7 (e:=fun p=>T.bool (so m (ao s) g p)) (l:=[a,c]) (i:=0) rfl (by decide)) ?_)
     cases q2:so m (ao s) g a with
     |false=>rw [q1,q2] at w;exact fin w
     |true=>rw [q1,q2] at w;exact ae rfl (ae rfl (ae h2 (fin w)))
   .refine je (v:=.tup [nT pre.length,bc (Sy.always a)]) (l:=gL (pre.length+1) (suf.map bc)) rfl ?_
    refine ae rfl (ae rfl (ae (show dc (bc (Sy.always a)) (some 1) none=some (.tup ((bu (Sy.always a)).map bc)) by with_unfolding_all rfl) ?_))
    refine ae rfl ?_
    refine (C _).trans ?_
    refine ae rfl (ae rfl (ae rfl (ae rfl (ae rfl (ay (S B' a (.head _)) ?_)))))
    have w:=ia (bs:=ao s) (m:=m) (g:=g) (m':=m') (g':=g') (a:=a)
    refine ae rfl (ae rfl (ae rfl (gh rfl (ae rfl (ae (b7 (e:=fun p=>T.bool (so m (ao s) g p)) (l:=[a]) (i:=0) rfl (by decide)) ?_)))))
    cases q2:so m (ao s) g a with
    |false=>rw [q2] at w;exact fin w
    |true=>rw [q2] at w;exact ae rfl (ae rfl (ae h2 (fin w)))
 exact vc (ae rfl (ae rfl (lp (ao s) [] none none none none _ rfl fun _ _ _ _=>rfl)))
theorem r8 (hd:∀x∈ao s,dep x<=40)(B:rG (ao s) g){x:Sy}(hx:x∈ao s)(hk:(∃a c,x=.till a c)\/∃a,x=.always a){n:Nat}(hn:dep x<=n):
  ah Ψ (n+2) 28 [bc x,.str m,dE (ao s),gT g] σ=.ret (.bool (dD (ao s) m g x)) σ:=by
 have h:=fR B hx
 have S:∀p∈bu x,ah Ψ (n+1) 26 [bc p,.str m,dE (ao s),gT g] σ=.ret (.bool (so m (ao s) g p)) σ:=fun p hp=>jA B (fun x hx=>cG hx) n p (le_trans (le_of_lt (bI hp)) hn) (le_trans (le_of_lt (bI hp)) (hd x hx)) (fZ hx hp)
 rcases hk with ⟨a,c,rfl⟩ | ⟨a,rfl⟩
 .refine fY (ae rfl (ae rfl (bY rfl (ae rfl (ae rfl (ae rfl (ae h.1 (ae h.2 (ae rfl (ae rfl (ae rfl (gh rfl (ae rfl (ae rfl ?_))))))))))))))
  rw [qo]
  cases look (ao s) g (.till a c) with
  |false=>rfl
  |true=>exact ae rfl (ae rfl (ay (S c (.tail _ (.head _))) rfl))
 .refine fY (ae rfl (ae rfl (bY rfl (ae rfl (ae rfl (ae rfl (ae h.1 (ae h.2 (ae rfl (ae rfl (ae rfl (bY rfl (ae rfl ?_)))))))))))))
  rw [lq]
  cases look (ao s) g (.always a) with
  |true=>rfl
  |false=>exact ae rfl (ae rfl (ay (S a (.head _)) rfl))
theorem oP {t:T}(n:Nat):ah Ψ (n+1) 28 [.none,.str m,t,gT g] σ=.ret (.bool true) σ:=fY rfl
end
noncomputable def r7:Nat->List (List Bool)
 | 0=>[[]]
 |n+1=>(r7 n).flatMap fun r=>[r++[false],r++[true]]
theorem oN:∀{n:Nat} {g:List Bool},g∈r7 n->g.length=n:=by
 intro n
 induction n with
 |zero=>intro g h;cases aa h;rfl
 |succ n ih=>
  intro g h
  obtain ⟨a,ha,h⟩:=mem_flatMap.mp h
  have:g=a++[false]\/g=a++[true]:=(an h).imp id fun h=>aa h
  rcases this with rfl |rfl<;>(rw [List.length_append,ih ha];rfl)
theorem zd:∀{n:Nat} {g:List Bool},g.length=n->g∈r7 n:=by
 intro n
 induction n with
 |zero=>intro g h;rw [length_eq_zero_iff.mp h];exact .head _
 |succ n ih=>
  intro g h
  rcases List.eq_nil_or_concat g with rfl | ⟨a,b,rfl⟩
  .cases h
  .rw [concat_eq_append,List.length_append] at h
   rw [concat_eq_append]
   refine mem_flatMap.mpr ⟨a,ih (Nat.succ.inj h),?_⟩
   cases b
   .exact .head _
   .exact .tail _ (.head _)
theorem nA:∀n:Nat,(r7 n).Nodup
 | 0=>pairwise_singleton _ _
 |n+1=>by
  have:∀l:List (List Bool),l.Nodup->(l.flatMap fun r=>[r++[false],r++[true]]).Nodup:=fun l=>by
   induction l with
   |nil=>exact fun _=>.nil
   |cons a l ih=>
    intro h
    obtain ⟨h1,h2⟩:=aK h
    rw [flatMap_cons,nodup_append]
    refine ⟨nodup_cons.mpr ⟨fun q=>?_,pairwise_singleton _ _⟩,ih h2,fun x hx y hy e=>?_⟩
    .cases (List.append_inj_right (aa q) rfl)
    .obtain ⟨b,hb,hy⟩:=mem_flatMap.mp hy
     have ex:x=a++[false]\/x=a++[true]:=(an hx).imp id fun h=>aa h
     have ey:y=b++[false]\/y=b++[true]:=(an hy).imp id fun h=>aa h
     have:a=b:=by
      have:=congrArg List.dropLast e
      rcases ex with rfl |rfl<;>rcases ey with rfl |rfl<;>(rw [List.dropLast_concat,List.dropLast_concat] at this;exact this)
     exact h1 (this▸hb)
  exact this _ (nA n)
section
variable {σ:Sg} {M:Mc} {s:Sy}
theorem nB (n:Nat):∀k:Nat,k<=4->ah Ψ (n+2) 29 [nT k] σ=.ret (.lst ((r7 k).map gT)) σ
 | 0,_=>cB (by kernel_rfl)
 | 1,_=>cB (by kernel_rfl)
 | 2,_=>cB (by kernel_rfl)
 | 3,_=>cB (by kernel_rfl)
 | 4,_=>cB (by kernel_rfl)
 |_+5,h=>absurd h (by lia -abstractProof)
noncomputable def vI (M:Mc)(s:Sy)(k:Kn):List Kn:=(M.road k.p).flatMap fun q=>((r7 (ao s).length).filter fun g=>o3 (ao s) (M.mark k.p) k.g (M.mark q) g).map (Kn.mk q)
noncomputable def Fb (M:Mc)(s:Sy):List Kn:=M.firsts.flatMap fun p=>((r7 (ao s).length).filter fun g=>!so (M.mark p) (ao s) g s).map (Kn.mk p)
theorem lB (n:Nat):(r7 n).Perm (gn n):=(List.perm_ext_iff_of_nodup (nA n) (iE n)).mpr fun g=>⟨fun h=>mr (oN h),fun h=>zd (fL h)⟩
theorem jB {α w:Type}{f g:α->List w}(h:∀a,(f a).Perm (g a)):∀l:List α,(l.flatMap f).Perm (l.flatMap g)
 | []=>.refl _
 |a::l=>by rw [flatMap_cons,flatMap_cons];exact (h a).append (jB h l)
theorem gu (k:Kn):(vI M s k).Perm (th M s k):=jB (fun q=>((lB _).filter _).map _) _
theorem iR:(Fb M s).Perm (st M s):=jB (fun q=>((lB _).filter _).map _) _
theorem qr:∀n:Nat,(r7 n).length=2 ^ n:=fun n=>(lB n).length_eq.trans (gZ n)
theorem kj (O:M.Ok){p:Nat}(h:p < M.names.length):aw (.lst (M.names.map .str)) (nT p)=some (.str (M.mark p)):=b7 (e:=T.str) (tN h) (O.lim h)
theorem ta (O:M.Ok){p:Nat}(h:p < M.names.length):aw (.lst (M.roads.map cK)) (nT p)=some (cK (M.road p)):=b7 (e:=cK) (tN (O.len▸h)) (O.lim h)
theorem xN:bF (dE (ao s))=some (nT (ao s).length):=congrArg (fun z:Nat=>some (T.int z)) (length_map ..)
noncomputable abbrev hB:PS:=ai (bG (qE (ax 27 (ab (pV 1) (ab (p2 aw (pV 3) (p2 aw (pV 2) (pC (.int 0)))) (ab (p2 aw (pV 2) (pC (.int 1))) (ab (p2 aw (pV 3) (pV 6)) (ab (pV 7) ar)))))))
  (ai (iL 5 eV (aY (ab (pV 6) (ab (pV 7) ar)))) am) am) am
noncomputable abbrev hF (M:Mc)(s:Sy)(k:Kn)(F:List Kn)(x6 x7:Option T):aZ:=[some (.tup M.fs),some (dE (ao s)),some (aT k),some (.lst (M.names.map .str)),some (.lst (M.roads.map cK)),some (.lst (F.map aT)),x6,x7]
theorem sM (O:M.Ok)(G:Gs s){k:Kn}(hp:k.p < M.names.length)(hg:k.g.length=(ao s).length)(n:Nat):ah Ψ (n+20) 31 [.tup M.fs,dE (ao s),aT k] σ=.ret (.lst ((vI M s k).map aT)) σ:=by
 have R:=iY O hp
 have dl:∀x∈ao s,dep x<=n+17:=fun x hx=>le_trans (bS hx) (le_trans (succ_le_succ G.dep) (le_trans (by decide) (le_add_left 17 n)))
 have d40:∀x∈ao s,dep x<=40:=fun x hx=>le_trans (bS hx) (le_trans (succ_le_succ G.dep) (by decide))
 have inner:∀(q:Nat),q < M.names.length->∀(l:List (List Bool)),(∀g∈l,g.length=(ao s).length)->∀(F:List Kn) (x7:Option T) {κ:PK aZ} {r:c7},F.length+l.length<=10000->
   (∀x7,κ (hF M s k (F++(l.filter fun g=>o3 (ao s) (M.mark k.p) k.g (M.mark q) g).map (Kn.mk q)) (some (nT q)) x7) σ=r)->
   cc (bx 7) hB ⟨ah Ψ (n+19)⟩ (l.map gT) (hF M s k F (some (nT q)) x7) σ κ=r:=fun q hq l=>by
  induction l with
  |nil=>intro _ F x7 κ r _ hk;rw [filter_nil,map_nil,append_nil] at hk;exact hk x7
  |cons g l ih=>
   intro hl F x7 κ r h1 hk
   rw [length_cons] at h1
   refine je (v:=gT g) (l:=l.map gT) rfl ?_
   refine ae rfl (ae rfl (ae rfl (ae rfl (ae (kj O hp) (ae rfl (ae rfl (ae rfl (ae rfl (ae (kj O hq) (ae rfl (ay (uM d40 (G.bds hg) (G.bds (hl g (.head _))) dl) ?_)))))))))))
   cases e:o3 (ao s) (M.mark k.p) k.g (M.mark q) g with
   |false=>
    rw [List.filter_cons_of_neg (by rw [e];decide)] at hk
    exact ih (fun g h=>hl g (.tail _ h)) F _ (by lia) hk
   |true=>
    rw [List.filter_cons_of_pos e] at hk
    have hz:F.length < lim:=by rw [b0];lia
    refine mt (o:=eV (.lst (F.map aT)) (aT ⟨q,g⟩)) (a:=.lst ((F++[Kn.mk q g]).map aT)) (f6 (e:=aT) (l:=F) (Kn.mk q g) hz) ?_
    refine ih (fun g h=>hl g (.tail _ h)) (F++[⟨q,g⟩]) _ ?_ fun x7=>?_
    .rw [List.length_append];exact le_trans (le_of_eq (add_assoc ..)) (add_comm 1 _▸h1)
    .rw [List.append_assoc];exact hk x7
 have outer:∀(l:List Nat),(∀q∈l,q < M.names.length)->∀(F:List Kn) (x6 x7:Option T) {κ:PK aZ} {r:c7},F.length+l.length * 16<=10000->
   (∀x6 x7,κ (hF M s k (F++l.flatMap fun q=>((r7 (ao s).length).filter fun g=>o3 (ao s) (M.mark k.p) k.g (M.mark q) g).map (Kn.mk q)) x6 x7) σ=r)->
   cc (bx 6) (ai (cU (bK (ax 29 (ab (p1 bF (pV 1)) ar))) (bx 7) hB) am) ⟨ah Ψ (n+19)⟩ (l.map nT) (hF M s k F x6 x7) σ κ=r:=fun l=>by
  induction l with
  |nil=>intro _ F x6 x7 κ r _ hk;rw [flatMap_nil,append_nil] at hk;exact hk x6 x7
  |cons q l ih=>
   intro hl F x6 x7 κ r h1 hk
   rw [length_cons] at h1
   have al:(r7 (ao s).length).length<=16:=by rw [qr];exact pow_le_pow_right (j:=4) (by decide) G.few
   refine je (v:=nT q) (l:=l.map nT) rfl ?_
   refine ae rfl (ae xN (ay (nB (n+17) _ G.few) (ae rfl (inner q (hl q (.head _)) _ (fun g h=>oN h) F _ (by lia -abstractProof) fun x7=>ih (fun q h=>hl q (.tail _ h)) _ _ _ ?_ fun x6 x7=>?_))))
   .have:=length_filter_le (fun g=>o3 (ao s) (M.mark k.p) k.g (M.mark q) g) (r7 (ao s).length)
    rw [List.length_append,length_map];lia -abstractProof
   .have:=hk x6 x7
    rw [flatMap_cons,<-List.append_assoc] at this
    exact this
 have rl:(M.road k.p).length<=12:=by
  have:=ba (m:=List.range M.names.length) R.nd fun p hp=>bz (R.lt p hp)
  rw [length_range] at this;exact le_trans this O.few
 refine m6 (ae rfl (ae rfl (ae (show dc (.tup M.fs) none (some 2)=some (.tup [.lst (M.names.map .str),.lst (M.roads.map cK)]) by with_unfolding_all rfl) (ae rfl (gh rfl (ae rfl (ae rfl (ae rfl (ae (ta O hp) (ae rfl ?_))))))))))
 exact outer (M.road k.p) R.lt [] none none (by rw [length_nil];lia -abstractProof) fun x6 x7=>rfl
noncomputable abbrev gB:PS:=ai (bG (cW (qE (ax 26 (ab (pV 2) (ab (p2 aw (p2 aw (pV 0) (pC (.int 0))) (pV 4)) (ab (pV 1) (ab (pV 5) ar)))))))
  (ai (iL 3 eV (aY (ab (pV 4) (ab (pV 5) ar)))) am) am) am
noncomputable abbrev gF (M:Mc)(s:Sy)(F:List Kn)(x4 x5:Option T):aZ:=[some (.tup M.fs),some (dE (ao s)),some (bc s),some (.lst (F.map aT)),x4,x5]
theorem nV (O:M.Ok)(G:Gs s)(n:Nat):ah Ψ (n+20) 501 [.tup M.fs,dE (ao s),bc s] σ=.ret (.lst ((Fb M s).map aT)) σ:=by
 have inner:∀(q:Nat),q < M.names.length->∀(l:List (List Bool)),(∀g∈l,g.length=(ao s).length)->∀(F:List Kn) (x5:Option T) {κ:PK aZ} {r:c7},F.length+l.length<=10000->
   (∀x5,κ (gF M s (F++(l.filter fun g=>!so (M.mark q) (ao s) g s).map (Kn.mk q)) (some (nT q)) x5) σ=r)->
   cc (bx 5) gB ⟨ah Ψ (n+19)⟩ (l.map gT) (gF M s F (some (nT q)) x5) σ κ=r:=fun q hq l=>by
  induction l with
  |nil=>intro _ F x7 κ r _ hk;rw [filter_nil,map_nil,append_nil] at hk;exact hk x7
  |cons g l ih=>
   intro hl F x7 κ r h1 hk
   rw [length_cons] at h1
   refine je (v:=gT g) (l:=l.map gT) rfl ?_
   refine ae rfl (ae rfl (ae rfl (ae rfl (ae (kj O hq) (ae rfl (ae rfl (ay (jA (G.bds (hl g (.head _))) (fun x hx=>cG hx) (n+18) s (le_trans G.dep (le_trans (by decide) (le_add_left 18 n))) (le_trans G.dep (by decide)) (fX s)) ?_)))))))
   cases e:so (M.mark q) (ao s) g s with
   |true=>
    rw [List.filter_cons_of_neg (by rw [e];decide)] at hk
    exact ih (fun g h=>hl g (.tail _ h)) F _ (by lia) hk
   |false=>
    rw [List.filter_cons_of_pos (by rw [e];rfl)] at hk
    have hz:F.length < lim:=by rw [b0];lia
    refine mt (o:=eV (.lst (F.map aT)) (aT ⟨q,g⟩)) (a:=.lst ((F++[Kn.mk q g]).map aT)) (f6 (e:=aT) (l:=F) (Kn.mk q g) hz) ?_
    refine ih (fun g h=>hl g (.tail _ h)) (F++[⟨q,g⟩]) _ ?_ fun x7=>?_
    .rw [List.length_append];exact le_trans (le_of_eq (add_assoc ..)) (add_comm 1 _▸h1)
    .rw [List.append_assoc];exact hk x7
 have outer:∀(l:List Nat),(∀q∈l,q < M.names.length)->∀(F:List Kn) (x6 x7:Option T) {κ:PK aZ} {r:c7},F.length+l.length * 16<=10000->
   (∀x6 x7,κ (gF M s (F++l.flatMap fun q=>((r7 (ao s).length).filter fun g=>!so (M.mark q) (ao s) g s).map (Kn.mk q)) x6 x7) σ=r)->
   cc (bx 4) (ai (cU (bK (ax 29 (ab (p1 bF (pV 1)) ar))) (bx 5) gB) am) ⟨ah Ψ (n+19)⟩ (l.map nT) (gF M s F x6 x7) σ κ=r:=fun l=>by
  induction l with
  |nil=>intro _ F x6 x7 κ r _ hk;rw [flatMap_nil,append_nil] at hk;exact hk x6 x7
  |cons q l ih=>
   intro hl F x6 x7 κ r h1 hk
   rw [length_cons] at h1
   have al:(r7 (ao s).length).length<=16:=by rw [qr];exact pow_le_pow_right (j:=4) (by decide) G.few
   refine je (v:=nT q) (l:=l.map nT) rfl ?_
   refine ae rfl (ae xN (ay (nB (n+17) _ G.few) (ae rfl (inner q (hl q (.head _)) _ (fun g h=>oN h) F _ (by lia -abstractProof) fun x7=>ih (fun q h=>hl q (.tail _ h)) _ _ _ ?_ fun x6 x7=>?_))))
   .have:=length_filter_le (fun g=>!so (M.mark q) (ao s) g s) (r7 (ao s).length)
    rw [List.length_append,length_map];lia -abstractProof
   .have:=hk x6 x7
    rw [flatMap_cons,<-List.append_assoc] at this
    exact this
 have rl:M.firsts.length<=12:=by
  have:=ba (m:=List.range M.names.length) O.firsts.nd fun p hp=>bz (O.firsts.lt p hp)
  rw [length_range] at this;exact le_trans this O.few
 refine pG (gh rfl (ae rfl (ae rfl (ae rfl ?_))))
 exact outer M.firsts O.firsts.lt [] none none (by rw [length_nil];lia -abstractProof) fun x6 x7=>rfl
end
section
variable {σ:Sg}
noncomputable abbrev kb (k:Kn):KB:=((k.p:Int),k.g)
theorem si {a b:Kn}(h:kb a=kb b):a=b:=sf (ofNat.inj (congrArg Prod.fst h)) (congrArg Prod.snd h)
noncomputable def GI (k:KB):PyData:=.tuple [.int k.1,.tuple (k.2.map .bool)]
theorem Ck:io gW GI 2 (fun _=>True):=⟨fun a m _ hm=>by
  obtain ⟨m,rfl⟩:=Nat.exists_eq_add_of_le' hm
  show (cS (bR (m+1)) [.int a.1,.tup (a.2.map .bool)]).map PyData.tuple=_
  rw [cS,kK,cS,jg.tup.dat a.2 (m+1) (fun _ _=>trivial) (le_add_left _ _)];rfl,
 fun a c=>by
  show ((a.1==c.1)&&(PyData.eqvAll (a.2.map .bool) (c.2.map .bool)&&true))=true↔_
  rw [Bool.and_true,and_eq_true,beq_iff_eq,jg.eqs]
  exact ⟨fun h=>Prod.ext h.1 h.2,fun h=>by rw [h];exact ⟨rfl,rfl⟩⟩⟩
theorem tF {a:List Kn}(h:a.Nodup)(hl:a.length < 64):gw (.lst (a.map aT))=some (.lst ((fu (a.map kb)).map gW)):=by
 have e:a.map aT=(a.map kb).map gW:=by rw [map_map];rfl
 rw [e,yI (fF (fun _ _ e=>si e) h) (by rw [length_map];exact hl)]
theorem oO {a b:List Kn}(p:a.Perm b)(h:a.Nodup)(hl:a.length < 64)(n:Nat):ah Ψ (n+1) 32 [.lst (a.map aT),.lst (b.map aT)] σ=.ret (.bool true) σ:=by
 have l1:bF (.lst (a.map aT))=some (.int a.length):=congrArg (fun z:Nat=>some (T.int z)) (length_map ..)
 have l2:bF (.lst (b.map aT))=some (.int b.length):=congrArg (fun z:Nat=>some (T.int z)) (length_map ..)
 have le:cA (.int a.length) (.int b.length)=some true:=by rw [iw,p.length_eq,decide_eq_true rfl]
 have se:cA (.lst ((fu (a.map kb)).map gW)) (.lst ((fu (b.map kb)).map gW))=some true:=by
  rw [yJ (p.map kb) (fF (fun _ _ e=>si e) h),Ck.lst.is (by decide) (fun _ _=>trivial) (fun _ _=>trivial),decide_eq_true rfl]
 exact qT (ae rfl (ae rfl (ae rfl (ae l1 (ae rfl (ae l2 (ae le (ae rfl (ae (tF h hl) (ae rfl (ae (tF (p.nodup_iff.mp h) (p.length_eq▸hl)) (ae se rfl))))))))))))
end
section
variable {σ:Sg} {M:Mc} {s:Sy} {kk:List Kw} {K:List Kn}
noncomputable def EE (o:Option Sy):T:=o.elim .none bc
noncomputable def Du (o:Option Sy):PyData:=o.elim .none fG
theorem xi (a:Sy):PyData.eqv .none (fG a)=false/\PyData.eqv (fG a) .none=false:=by cases a<;>exact ⟨rfl,rfl⟩
theorem Cj (n:Nat):io EE Du n (fun o=>∀s,o=some s->dep s<=n):=⟨fun o m h hm=>by
  cases o with
  |none=>cases m<;>rfl
  |some s=>exact dX s m (le_trans (h s rfl) hm),
 fun a c=>by
  cases a with
  |none=>cases c with
   |none=>exact ⟨fun _=>rfl,fun _=>rfl⟩
   |some c=>exact ⟨fun h=>(by rw [show PyData.eqv (Du none) (Du (some c))=_ from (xi c).1] at h;cases h),fun h=>nomatch h⟩
  |some a=>cases c with
   |none=>exact ⟨fun h=>(by rw [show PyData.eqv (Du (some a)) (Du none)=_ from (xi a).2] at h;cases h),fun h=>nomatch h⟩
   |some c=>exact (f9 a c).trans ⟨congrArg _,Option.some.inj⟩⟩
theorem yU (G:Gs s):jW (.lst (mH s)) (.lst (mH s))=some false:=by
 have e:mH s=(none::(jV s).map some).map EE:=by
  show _=EE none::((jV s).map some).map EE
  rw [map_map];rfl
 have h:∀o∈none::(jV s).map some,∀x,o=some x->dep x<=40:=fun o ho x q=>by
  subst q
  rcases an ho with h |h
  .cases h
  .obtain ⟨y,hy,h⟩:=aF h
   cases h
   exact le_trans (bS (bL hy).1) (le_trans (succ_le_succ G.dep) (by decide))
 rw [e,(Cj 40).lst.isN (by decide) h h,decide_eq_true rfl];rfl
theorem z0 (G:Gs s):jW (dE (ao s)) (dE (ao s))=some false:=by
 have h:∀x∈ao s,dep x<=40:=fun x hx=>le_trans (bS hx) (le_trans (succ_le_succ G.dep) (by decide))
 rw [(lV 40).lst.isN (by decide) h h,decide_eq_true rfl];rfl
structure CI (M:Mc) (s:Sy) (K D R:List Kn):Prop where
 nd:(D++R).Nodup
 sub:∀k∈D++R,k∈K
 beg:∀k∈st M s,k∈D++R
 clo:∀k∈D,∀y∈th M s k,y∈D++R
theorem CI.step {D R:List Kn}{k:Kn}(S:ud M s (st M s) K [])(O:M.Ok)(L:CI M s K D (k::R)):CI M s K (D++[k]) (R++(vI M s k).filter fun y=>!decide (y∈D++k::R)):=by
 have e:∀T:List Kn,(D++[k])++(R++T)=(D++k::R)++T:=fun T=>by rw [List.append_assoc,List.append_assoc];rfl
 have hk:k∈K:=L.sub k (mem_append_right _ (.head _))
 have kp:=(eh.mp (S.sub k (by rw [append_nil];exact hk))).1
 have nt:(vI M s k).Nodup:=(gu k).nodup_iff.mpr (kU O kp)
 have cl:∀y∈th M s k,y∈K:=fun y hy=>by have:=S.clo k hk y hy;rwa [append_nil] at this
 refine ⟨?_,?_,?_,?_⟩
 .rw [e,nodup_append]
  refine ⟨L.nd,nt.filter _,fun a ha b hb q=>?_⟩
  have:=(bL hb).2
  rw [<-q,decide_eq_true ha] at this;cases this
 .rw [e]
  exact fun y hy=>(ak hy).elim (L.sub y) fun h=>cl y ((gu k).mem_iff.mp (bL h).1)
 .rw [e];exact fun y hy=>mem_append_left _ (L.beg y hy)
 .rw [e]
  intro x hx y hy
  rcases ak hx with hx |hx
  .exact mem_append_left _ (L.clo x hx y hy)
  .cases aa hx
   by_cases q:y∈D++k::R
   .exact mem_append_left _ q
   .exact mem_append_right _ (ik ⟨(gu k).mem_iff.mpr hy,by rw [decide_eq_false q];rfl⟩)
theorem CI.all {D:List Kn}(S:ud M s (st M s) K [])(L:CI M s K D []):K.Perm D:=by
 have sub:=L.sub;have beg:=L.beg;have clo:=L.clo;have nd:=L.nd
 rw [append_nil] at sub beg clo nd
 have nk:=S.nd;have rch:=S.rch
 rw [append_nil] at nk rch
 refine (List.perm_ext_iff_of_nodup nk nd).mpr fun k=>⟨fun hk=>?_,sub k⟩
 obtain ⟨a,ha,r⟩:=rch k hk
 have go:∀{a b:Kn},mx (th M s) a b->a∈D->b∈D:=fun r=>by
  induction r with
  |refl=>exact id
  |step h _ ih=>exact fun q=>ih (clo _ q _ h)
 exact go r (beg a ha)
end
section
variable {σ:Sg} {M:Mc} {s:Sy} {kk:List Kw} {K:List Kn}
noncomputable abbrev rF (M:Mc)(s:Sy)(kk:List Kw)(K:List Kn)(x5 x6 x7 x8 x9 x10 x11:Option T):aZ:=[some (C9 M s kk K),some (.tup M.fs),some (bc s),some (dE (ao s)),some (.lst (mH s)),x5,x6,x7,x8,x9,x10,x11,none,none]
noncomputable abbrev Gq:PT:=p2 rB (pV 6) (p1 bF (pV 5))
noncomputable abbrev Gr:PS:=(ai (aI 7 (ax 31 (ab (pV 1) (ab (pV 3) (ab (p2 aw (pV 5) (pV 6)) ar)))))
  (ai (bG (cW (qE (ax 32 (ab (p2 idxD (p1 (iB 10 6) (pV 0)) (p2 aw (pV 5) (pV 6))) (ab (pV 7) ar)))))
  (ai (aD (pC (.bool false)))
  am)
  am)
  (ai (iL 5 hU (bE (bK (pV 7)) (bx 13) (p2 hJ (pV 13) (pV 5)) (pV 13)))
  (ai (aI 6 (p2 bM (pV 6) (pC (.int 1))))
  am))))
theorem wL (l:List Kn):bF (.lst (l.map aT))=some (nT l.length):=congrArg (fun z:Nat=>some (T.int z)) (length_map ..)
theorem DH (a c:Nat):rB (nT a) (nT c)=some (decide (a < c)):=congrArg some (by
 by_cases h:a < c
 .rw [decide_eq_true h];exact decide_eq_true (cD h)
 .rw [decide_eq_false h];exact decide_eq_false fun q=>h (Int.ofNat_lt.mp q))
theorem Dj (O:M.Ok)(G:Gs s)(U:(rq M s).length < 64)(S:ud M s (st M s) K [])(n:Nat){κ:PK aZ}{r:c7}(hκ:∀D x6 x7,CI M s K D []->κ (rF M s kk K (some (.lst (D.map aT))) x6 x7 none none none none) σ=r):
  ∀(N:Nat) (D R:List Kn) (x7:Option T),K.length < D.length+N->CI M s K D R->fN Gq Gr ⟨ah Ψ (n+21)⟩ N (rF M s kk K (some (.lst ((D++R).map aT))) (some (nT D.length)) x7 none none none none) σ κ=r:=by
 have nk:=S.nd;have ku:=S.sub
 rw [append_nil] at nk ku
 have kl:K.length < 64:=lt_of_le_of_lt (ba nk ku) U
 intro N
 induction N with
 |zero=>
  intro D R x7 h L
  have:=ba (aL L.nd).1 (fun k hk=>L.sub k (mem_append_left _ hk))
  exact absurd h (not_lt.mpr (by rw [Nat.add_zero];exact this))
 |succ N ih=>
  intro D R x7 h L
  rw [iM]
  refine ae rfl (ae rfl (ae (wL (D++R)) (ae (DH _ _) ?_)))
  cases R with
  |nil=>
   rw [append_nil,decide_eq_false (lt_irrefl _),cond_false]
   exact hκ D _ _ L
  |cons k R=>
   have il:D.length < (D++k::R).length:=by rw [List.length_append,length_cons];lia -abstractProof
   rw [decide_eq_true il,cond_true]
   have ll:=ba L.nd L.sub
   have hk:k∈K:=L.sub k (mem_append_right _ (.head _))
   obtain ⟨kp,kg⟩:=eh.mp (ku k hk)
   have e1:aw (.lst ((D++k::R).map aT)) (nT D.length)=some (aT k):=b7 (e:=aT) (by rw [getElem?_append_right (le_refl _),sub_self];rfl) (le_trans (le_of_lt il) (le_trans ll (le_trans (le_of_lt kl) (by decide))))
   have e2:idxD (.dct (K.map aT) (K.map fun k=>.lst ((th M s k).map aT))) (aT k)=some (.lst ((th M s k).map aT)):=fS.get hk
   have tl:(th M s k).length<=(rq M s).length:=ba (kU O kp) fun y hy=>vH O kp hy
   have e3:∀y:Kn,hJ (aT y) (.lst ((D++k::R).map aT))=some (!decide (y∈D++k::R)):=fun y=>sB.nin (by decide) trivial (fun _ _=>trivial) rfl
   have e4:hU (.lst ((D++k::R).map aT)) (.lst (((vI M s k).filter fun y=>!decide (y∈D++k::R)).map aT))=some (.lst (((D++k::R)++(vI M s k).filter fun y=>!decide (y∈D++k::R)).map aT)):=kH (by
    have a:=length_filter_le (fun y=>!decide (y∈D++k::R)) (vI M s k)
    have b:=(gu (M:=M) (s:=s) k).length_eq
    rw [b0];lia -abstractProof)
   refine ae rfl (ae rfl (ae rfl (ae rfl (ae e1 (ay (sM O G kp kg (n+1)) ?_)))))
   refine ae rfl (ae rfl (ae rfl (ae rfl (ae e1 (ae e2 (ae rfl (ay (oO (gu k).symm (kU O kp) (lt_of_le_of_lt tl U) (n+20)) ?_)))))))
   refine ae rfl ?_
   refine bY rfl ?_
   refine ae rfl (ae rfl ?_)
   refine (eS (e:=aT) (fun y=>!decide (y∈D++k::R)) aT (fun y _=>⟨_,rfl,fun κ=>ae rfl (ae rfl (ae (e3 y) rfl)),fun _ κ=>rfl⟩) rfl).trans ?_
   refine ae e4 ?_
   refine ae rfl (ae (show bM (nT D.length) (.int 1)=some (nT (D++[k]).length) by rw [List.length_append];rfl) ?_)
   have:=ih (D++[k]) (R++(vI M s k).filter fun y=>!decide (y∈D++k::R)) (some (.lst ((vI M s k).map aT))) (by rw [List.length_append,length_singleton];lia -abstractProof) (L.step S O)
   rw [show (D++[k])++(R++(vI M s k).filter fun y=>!decide (y∈D++k::R))=(D++k::R)++(vI M s k).filter fun y=>!decide (y∈D++k::R) by rw [List.append_assoc,List.append_assoc];rfl] at this
   exact this
end
section
variable {σ:Sg} {M:Mc} {s:Sy} {kk:List Kw} {K:List Kn}
noncomputable abbrev Gd:PS:=(ai (aI 10 (mI 10 1005 (pV 0) (ab (pV 8) (ab (pV 9) ar))))
  (ai (aI 11 (ax 28 (ab (p2 aw (pV 4) (pV 9)) (ab (p2 aw (p2 aw (pV 1) (pC (.int 0))) (p2 aw (pV 8) (pC (.int 0)))) (ab (pV 3) (ab (p2 aw (pV 8) (pC (.int 1))) ar))))))
  (ai (bG (gq (cW (qE (p1 (eO .bool) (pV 10)))) (gq (p2 jW (pV 10) (pV 11)) cj))
  (ai (aD (pC (.bool false)))
  am)
  am)
  am)))
theorem uI (O:M.Ok)(G:Gs s){k:Kn}(hk:k.p < M.names.length)(hg:k.g.length=(ao s).length)(n:Nat):∀j,j < (mH s).length->∃t,(mH s)[j]?=some t/\ah Ψ (n+20) 28 [t,.str (M.mark k.p),dE (ao s),gT k.g] σ=.ret (.bool (rW M s k j)) σ:=by
 intro j hj
 obtain _ |j:=j
 .exact ⟨.none,rfl,oP (n+19)⟩
 .have hj:j < (jV s).length:=by rw [length_cons,length_map] at hj;exact Nat.lt_of_succ_lt_succ hj
  have e1:(jV s)[j]?=some (jV s)[j]:=getElem?_eq_getElem hj
  have m1:=bL (getElem_mem hj)
  have e2:(mH s)[j+1]?=some (bc (jV s)[j]):=by
   show ((jV s).map bc)[j]?=_
   rw [getElem?_map,e1];rfl
  have e3:rW M s k (j+1)=dD (ao s) (M.mark k.p) k.g (jV s)[j]:=by
   show (match (jV s)[j]? with |some x=>dD (ao s) (M.mark k.p) k.g x |none=>true)=_
   rw [e1]
  have kd:(∃a c,(jV s)[j]=.till a c)\/∃a,(jV s)[j]=.always a:=by
   rcases cG m1.1 with ⟨a,e⟩ |h
   .have:=m1.2;rw [e] at this;cases this
   .exact h
  have dp:=bS m1.1
  refine ⟨_,e2,?_⟩
  rw [e3]
  exact r8 (fun x hx=>le_trans (bS hx) (le_trans (succ_le_succ G.dep) (by decide))) (G.bds hg) m1.1 kd (n:=n+18) (le_trans dp (le_trans (succ_le_succ G.dep) (le_trans (by decide) (le_add_left 18 n))))
theorem BJ (O:M.Ok)(G:Gs s)(hu:∀k∈K,k∈rq M s)(n:Nat){D:List Kn}(hd:∀k∈D,k∈K){x5 x6 x7:Option T}{κ:PK aZ}{r:c7}(hκ:∀x8 x9 x10 x11,κ (rF M s kk K x5 x6 x7 x8 x9 x10 x11) σ=r):
  ∀x8 x9 x10 x11,cc (bx 8) (ai (cU (dW (ab (p1 bF (pV 4)) ar)) (bx 9) Gd) am) ⟨ah Ψ (n+21)⟩ (D.map aT) (rF M s kk K x5 x6 x7 x8 x9 x10 x11) σ κ=r:=by
 have pl:=om G
 have inner:∀(k:Kn),k∈K->∀(l:List Nat),(∀j∈l,j < (mH s).length)->∀(x9 x10 x11:Option T) {κ:PK aZ},(∀x9 x10 x11,κ (rF M s kk K x5 x6 x7 (some (aT k)) x9 x10 x11) σ=r)->
   cc (bx 9) Gd ⟨ah Ψ (n+21)⟩ (l.map nT) (rF M s kk K x5 x6 x7 (some (aT k)) x9 x10 x11) σ κ=r:=fun k hk l=>by
  induction l with
  |nil=>exact fun _ x9 x10 x11 κ hκ=>hκ x9 x10 x11
  |cons j l ih=>
   intro hl x9 x10 x11 κ hκ
   obtain ⟨kp,kg⟩:=eh.mp (hu k hk)
   have hj:=hl j (.head _)
   obtain ⟨t,e1,e2⟩:=uI (σ:=σ) O G kp kg (n+1) j hj
   have jl:j<=lim:=le_trans (le_of_lt hj) (le_trans (m:=5) (by rw [length_cons,length_map];exact succ_le_succ pl) (by decide))
   refine je (v:=nT j) (l:=l.map nT) rfl ?_
   refine ae rfl (ae rfl (ae rfl (ay (wD (kk:=kk) O G hu (n+1) k hk j hj) ?_)))
   refine ae rfl (ae rfl (ae (fb e1 jl) (ae rfl (ae rfl (ae rfl (ae (Fp k) (ae (kj O kp) (ae rfl (ae rfl (ae (Fq k) (ay e2 ?_)))))))))))
   refine ae rfl (ae rfl (ae rfl ?_))
   refine bY rfl ?_
   refine ae rfl (ae rfl (ae (show jW (.bool (rW M s k j)) (.bool (rW M s k j))=some false by cases rW M s k j<;>rfl) ?_))
   exact ih (fun j h=>hl j (.tail _ h)) _ _ _ hκ
 induction D with
 |nil=>exact fun x8 x9 x10 x11=>hκ x8 x9 x10 x11
 |cons k D ih=>
  intro x8 x9 x10 x11
  refine je (v:=aT k) (l:=D.map aT) rfl ?_
  have ll:bF (.lst (mH s))=some (nT (mH s).length):=rfl
  have hr:yk [nT (mH s).length]=some ((List.range (mH s).length).map nT):=k6 (le_trans (m:=5) (by rw [length_cons,length_map];exact succ_le_succ pl) (by decide))
  refine ae rfl (ae ll (ae hr ?_))
  exact inner k (hd k (.head _)) _ (fun j hj=>dA hj) _ _ _ fun x9 x10 x11=>ih (fun k h=>hd k (.tail _ h)) _ _ _ _
theorem qc (O:M.Ok)(G:Gs s)(U:(rq M s).length < 64)(S:ud M s (st M s) K [])(n:Nat):ah Ψ (n+22) 33 [C9 M s kk K,.tup M.fs,bc s] σ=.ret (.bool true) σ:=by
 have d8:dep s<=8:=le_trans G.dep (by decide)
 have nk:=S.nd;have ku:=S.sub;have pre:=S.pre
 rw [append_nil] at nk ku pre
 have kl:K.length < 64:=lt_of_le_of_lt (ba nk ku) U
 obtain ⟨K',ek⟩:=pre
 have sk:∀k∈st M s,k∈K:=fun k h=>ek▸mem_append_left _ h
 have ns:(st M s).Nodup:=by rw [<-ek] at nk;exact (aL nk).1
 have sl:(st M s).length < 64:=lt_of_le_of_lt (ba ns sk) kl
 have e1:dc (.lst (K.map aT)) none (some ((st M s).length:Int))=some (.lst ((st M s).map aT)):=by
  rw [Ay,tV,pj,<-ek,List.take_left]
 refine pE (ae rfl (ay (jn (n+20) s (le_trans d8 (le_trans (by decide) (le_add_left 20 n))) d8) (gh rfl (ae rfl (ae rfl ?_)))))
 refine (eS (e:=bc) Fw bc (fun x hx=>⟨_,rfl,fun k=>?_,fun _ _=>rfl⟩) rfl).trans ?_
 .rcases cG hx with ⟨a,rfl⟩ | ⟨a,c,rfl⟩ | ⟨a,rfl⟩<;>kernel_rfl
 refine ae (a:=.lst (mH s)) ?_ ?_
 .show nO ((T.none::(jV s).map bc).length) (T.lst (mH s))=_
  exact pD (le_trans (m:=5) (by rw [length_cons,length_map];exact succ_le_succ (om G)) (by decide))
 refine ae rfl (ae rfl (ae rfl (ae (z0 G) ?_)))
 refine bY rfl (ae rfl (ae rfl (ae rfl (ae (yU G) ?_))))
 refine bY rfl (ae rfl (ae rfl (ae rfl (ae rfl ?_))))
 refine bY rfl ?_
 refine bY rfl ?_
 refine ae rfl (ae rfl (ae rfl (ae rfl (ae rfl (ae e1 (ae rfl (ae rfl (ae rfl (ay (nV O G (n+1)) ?_)))))))))
 refine ay (oO (iR (M:=M) (s:=s)).symm ns sl (n+20)) (ae rfl (bY rfl ?_))
 refine ae rfl (ae rfl (ae rfl (ay (nV O G (n+1)) ?_)))
 refine Dj (kk:=kk) O G U S n (fun D x6 x7 L=>?_) 400 [] (Fb M s) none (by rw [length_nil];lia -abstractProof) ⟨(iR (M:=M) (s:=s)).nodup_iff.mpr ns,fun k h=>sk k ((iR (M:=M) (s:=s)).mem_iff.mp h),fun k h=>(iR (M:=M) (s:=s)).mem_iff.mpr h,fun k h=>nomatch h⟩
 have kd:=L.all S
 refine ae rfl (ae rfl (ae rfl (ay (oO kd nk kl (n+20)) (ae rfl (bY rfl ?_)))))
 refine ae rfl (ae rfl (ae (show qK (.dct (K.map aT) (K.map fun k=>.lst ((th M s k).map aT)))=some (nT K.length) from congrArg (fun z:Nat=>some (T.int z)) (length_map ..)) (ae rfl (ae (wL D) (ae (ww kd.length_eq) (bY rfl ?_))))))
 refine bY rfl ?_
 refine ae rfl (ae rfl ?_)
 exact BJ (kk:=kk) O G ku n (fun k h=>kd.mem_iff.mpr h) (fun _ _ _ _=>rfl) _ _ _ _
end
theorem BF {Q:T->Sg->Prop}{o:c7}{c:Nat}{sp:Int}{fs:List T}{k:PK T}(h:o=.ret .none ⟨sp,some (c,fs)⟩)(h2:aP Q (k (.obj c fs) ⟨sp,none⟩)):aP Q (uF c o k):=by
 rw [h]
 unfold uF
 show aP Q (bif Nat.beq c c then k (.obj c fs) ⟨sp,none⟩ else .bad)
 rw [beq_refl];exact h2
section
variable {ns:List Int} {M:Mc} {s:Sy}
noncomputable def Ga:List Nat:=[3,1,8]
noncomputable def bnd:List Nat:=[2,4,1]
theorem Da {y:Nat}(h:y < 8):∃i,i < 3/\gE (nT y) (.int (b2i (decide ((y:Int) < 3))))=some (nT i):=by
 have m:∀a:Int,gE (nT y) (.int a)=some (.int (y * a)):=fun a=>kq a (jx (le_trans (le_of_lt h) (by decide)))
 by_cases q:y < 3
 .refine ⟨y,q,?_⟩
  rw [m,decide_eq_true (by lia)];exact congrArg (fun i=>some (T.int i)) (Int.mul_one _)
 .refine ⟨0,by decide,?_⟩
  rw [m,decide_eq_false (by lia)];exact congrArg (fun i=>some (T.int i)) (Int.mul_zero _)
structure Pb (i p b:Nat):Prop where
 e1:Ga[i]?=some p
 e2:bnd[i]?=some b
 p0:0 < p
 p8:p<=8
 b4:b<=4
 sz:p * 2 ^ b<=16
theorem pb:∀i,i < 3->∃p b,Pb i p b
 | 0,_=>⟨3,2,rfl,rfl,by decide,by decide,by decide,by decide⟩
 | 1,_=>⟨1,4,rfl,rfl,by decide,by decide,by decide,by decide⟩
 | 2,_=>⟨8,1,rfl,rfl,by decide,by decide,by decide,by decide⟩
structure EW (M:Mc) (s:Sy):Prop where
 ok:M.Ok
 g:Gs s
 u:(rq M s).length<=16
inductive EX (s:Sy):T->Sy->Prop
 |part (p:Sy) (h:p∈bu s):EX s (bc p) (.not p)
 |none (x:Str) (h:bu s=[]):EX s (.str x) (.next s)
theorem BB (s:Sy):∃t o,EX s t o/\aw (bc s) (.int (-1))=some t:=by
 cases s with
 |mark x=>exact ⟨_,_,.none x rfl,by with_unfolding_all rfl⟩
 |yes=>exact ⟨_,_,.none (ofString "yes") rfl,by with_unfolding_all rfl⟩
 |not a=>exact ⟨_,_,.part a (.head _),by with_unfolding_all rfl⟩
 |next a=>exact ⟨_,_,.part a (.head _),by with_unfolding_all rfl⟩
 |always a=>exact ⟨_,_,.part a (.head _),by with_unfolding_all rfl⟩
 |again a=>exact ⟨_,_,.part a (.head _),by with_unfolding_all rfl⟩
 |and a c=>exact ⟨_,_,.part c (.tail _ (.head _)),by with_unfolding_all rfl⟩
 |or a c=>exact ⟨_,_,.part c (.tail _ (.head _)),by with_unfolding_all rfl⟩
 |till a c=>exact ⟨_,_,.part c (.tail _ (.head _)),by with_unfolding_all rfl⟩
theorem Cd {p:Sy}(h:Gm s)(hp:p∈bu s):Gm (.not p):=fun x hx=>(an hx).elim (fun e=>nomatch e) fun hx=>h x (gM hp hx)
theorem zC (h:Gm s):Gm (.next s):=fun x hx=>(an hx).elim (fun e=>nomatch e) fun hx=>h x hx
theorem nr {p:Sy}(hp:p∈bu s):(ao (.not p)).length<=(ao s).length:=ba (aX _) fun x hx=>by
 obtain ⟨t,ht,hx⟩:=aQ.mp hx
 rcases an ht with rfl |ht
 .cases hx
 .exact aQ.mpr ⟨t,gM hp ht,hx⟩
theorem qm (h:bu s=[]):(ao (.next s)).length<=1:=ba (m:=[.next s]) (aX _) fun x hx=>by
 obtain ⟨t,ht,hx⟩:=aQ.mp hx
 rcases an ht with rfl |ht
 .exact hx
 .cases s with
  |mark |yes=>cases aa ht;cases hx
  |_=>cases h
theorem BA {t:T}{o:Sy}(S:EW M s)(h8:M.names.length<=8)(h:EX s t o):EW M o:=by
 cases h with
 |part p hp=>
  refine ⟨S.ok,⟨le_trans (Nat.succ_le_of_lt (bI hp)) S.g.dep,le_trans (nr hp) S.g.few,Cd S.g.gm hp⟩,?_⟩
  have:=S.u
  rw [n7] at this ⊢
  exact le_trans (Nat.mul_le_mul_left _ (pow_le_pow_right (by decide) (nr hp))) this
 |none x hp=>
  refine ⟨S.ok,⟨?_,le_trans (qm hp) (by decide),zC S.g.gm⟩,?_⟩
  .cases s with
   |mark |yes=>exact (by decide:2<=5)
   |_=>cases hp
  .rw [n7];exact Nat.mul_le_mul h8 (pow_le_pow_right (j:=1) (by decide) (qm hp))
theorem wV (K:List Kn):K.map aT=(K.map kb).map gW:=by rw [map_map];rfl
theorem Dg (K:List Kn):(K.map fun k=>T.lst ((th M s k).map aT))=(K.map fun k=>(th M s k).map kb).map vq:=by
 rw [map_map]
 exact map_congr_left fun k _=>congrArg T.lst (wV _)
theorem Bj (G:Gs s)(O:M.Ok){K:List Kn}(nd:K.Nodup)(hu:∀k∈K,k∈rq M s){ts:List T}:C3 (.dct (K.map aT) ts):=by
 rw [wV]
 refine .mk (ao s).length (K.map kb) ts G.few ⟨fF (fun _ _ e=>si e) nd,fun x hx=>?_,fun x hx=>?_,fun x hx=>?_⟩
 .obtain ⟨k,_,rfl⟩:=aF hx;exact natCast_nonneg _
 .obtain ⟨k,hk,rfl⟩:=aF hx;exact cD (lt_of_lt_of_le (eh.mp (hu k hk)).1 O.few)
 .obtain ⟨k,hk,rfl⟩:=aF hx;exact (eh.mp (hu k hk)).2
theorem Bh (K:List Kn):CY (.tup [.lst (K.map aT),.dct (K.map aT) (K.map fun k=>.lst ((th M s k).map aT))]) (.tup [.lst (K.map aT),.dct (K.map aT) (K.map fun k=>.lst ((th M s k).map aT))]):=by
 rw [Dg,wV];exact .mk _ _
theorem p9 (r:List Nat):cA (cK r) (cK r)=some true:=by rw [tR.lst.is (by decide) (fun _ _=>trivial) (fun _ _=>trivial),decide_eq_true rfl]
theorem kS {xs:List T}{j:Nat}{t:T}(h:xs[j]?=some t)(hj:j<=lim):aw (.tup xs) (.int j)=some t:=by
 have:=oY (e:=id) h hj
 rw [List.map_id] at this;exact this
noncomputable abbrev EM (ns:List Int)(x2 x3 x4 x5 x6 x7 x8 x9 x10:Option T):aZ:=[some (.scr ns),some .spot,x2,x3,x4,x5,x6,x7,x8,x9,x10]
variable {Q:T->Sg->Prop}
theorem Ch (O:M.Ok){kk:List Kw}{K:List Kn}{x2 x3 x5 x9 x10:Option T}{n:Nat}{σ:Sg}{κ:PK aZ}:
  (ai (aD (eX (pB (p2 cA (mI 0 1009 (pV 6) ar) (p2 aw (pV 4) (pC (.int 2))))) (pB (p2 cA (mI 0 1008 (pV 6) (ab (pC (.int 0)) ar)) (p2 aw (p2 aw (pV 4) (pC (.int 1))) (pC (.int 0))))))) am) ⟨ah Ψ (n+24)⟩ (EM ns x2 x3 (some (.tup M.fs)) x5 (some M.t) (some (C9 M s kk K)) (some (.tup [.lst (K.map aT),.dct (K.map aT) (K.map fun k=>.lst ((th M s k).map aT))])) x9 x10) σ κ=.ret (.bool true) σ:=by
 have h0:0 < M.names.length:=O.pos
 refine ae rfl (ay (ng (n+23)) (ae rfl (ae (kS (xs:=M.fs) (j:=2) rfl (by decide)) (ae (p9 _) ?_))))
 exact ae rfl (ay (qz O h0 (n+23)) (ae rfl (ae (kS (xs:=M.fs) (j:=1) rfl (by decide)) (ae (ta O h0) (ae (p9 _) rfl)))))
theorem Bb (S:EW M s)(h8:M.names.length<=8){x2 x3:Option T}{n:Nat}{sp:Int}{κ:PK aZ}:aP (fun t _=>t=.bool true)
  ((ai (aI 7 (oq 10 1001 (ab (pV 6) (ab (pV 5) ar))))
  (ai (bG (cW (qE (ax 33 (ab (pV 7) (ab (pV 4) (ab (pV 5) ar))))))
  (ai (aD (pC (.bool false)))
  am)
  am)
  (ai (aI 8 (aY (ab (p1 gG (p1 (iB 10 4) (pV 7))) (ab (p1 fW (p1 (iB 10 6) (pV 7))) ar))))
  (ai (aI 9 (EG (qE (p1 (eO .tuple) (p2 aw (pV 5) (p1 oE (pC (.int 1)))))) (aY (ab (pC (.str (ofString "not"))) (ab (p2 aw (pV 5) (p1 oE (pC (.int 1)))) ar))) (aY (ab (pC (.str (ofString "next"))) (ab (pV 5) ar)))))
  (ai (aI 10 (oq 10 1001 (ab (pV 6) (ab (pV 9) ar))))
  (ai (bG (gq (cW (qE (ax 33 (ab (pV 10) (ab (pV 4) (ab (pV 9) ar)))))) (gq (p2 y2 (aY (ab (p1 (iB 10 4) (pV 7)) (ab (p1 (iB 10 6) (pV 7)) ar))) (pV 8)) cj))
  (ai (aD (pC (.bool false)))
  am)
  am)
  (ai (aD (eX (pB (p2 cA (mI 0 1009 (pV 6) ar) (p2 aw (pV 4) (pC (.int 2))))) (pB (p2 cA (mI 0 1008 (pV 6) (ab (pC (.int 0)) ar)) (p2 aw (p2 aw (pV 4) (pC (.int 1))) (pC (.int 0)))))))
  am))))))) ⟨ah Ψ (n+24)⟩ (EM ns x2 x3 (some (.tup M.fs)) (some (bc s)) (some M.t) none none none none) ⟨sp,none⟩ κ):=by
 have O:=S.ok
 have U:=S.u
 obtain ⟨_,_,w1,rfl,kk,K,rfl,P⟩:=vB O S.g (le_trans U (by decide)) (sp:=sp) (n+1)
 refine aE rfl (aE rfl (BF w1 ?_))
 have r1:=qc (kk:=kk) (σ:=⟨sp,none⟩) O S.g (lt_of_le_of_lt U (by decide)) P (n+2)
 refine aE rfl (aE rfl (aE rfl (i7 r1 (aE rfl (jo (c:=false) (fun h=>nomatch h) fun _=>?_)))))
 have nk:=P.nd;have ku:=P.sub
 rw [append_nil] at nk ku
 refine aE rfl (aE rfl (aE rfl (aE rfl (aE rfl (aE (zU (Bj S.g O nk ku)) (j5 rfl ?_))))))
 obtain ⟨t,o,ho,e⟩:=BB s
 have So:=BA S h8 ho
 have hm:oE (.int 1)=some (.int (-1)):=rfl
 obtain ⟨_,_,w2,rfl,kk',K',rfl,P'⟩:=vB O So.g (le_trans So.u (by decide)) (sp:=sp) (n+1)
 have r2:=qc (kk:=kk') (σ:=⟨sp,none⟩) O So.g (lt_of_le_of_lt So.u (by decide)) P' (n+2)
 have fin:aP (fun t _=>t=.bool true) ((ai (aI 10 (oq 10 1001 (ab (pV 6) (ab (pV 9) ar))))
  (ai (bG (gq (cW (qE (ax 33 (ab (pV 10) (ab (pV 4) (ab (pV 9) ar)))))) (gq (p2 y2 (aY (ab (p1 (iB 10 4) (pV 7)) (ab (p1 (iB 10 6) (pV 7)) ar))) (pV 8)) cj))
  (ai (aD (pC (.bool false)))
  am)
  am)
  (ai (aD (eX (pB (p2 cA (mI 0 1009 (pV 6) ar) (p2 aw (pV 4) (pC (.int 2))))) (pB (p2 cA (mI 0 1008 (pV 6) (ab (pC (.int 0)) ar)) (p2 aw (p2 aw (pV 4) (pC (.int 1))) (pC (.int 0)))))))
  am))) ⟨ah Ψ (n+24)⟩ (EM ns x2 x3 (some (.tup M.fs)) (some (bc s)) (some M.t) (some (C9 M s kk K)) (some (.tup [.lst (K.map aT),.dct (K.map aT) (K.map fun k=>.lst ((th M s k).map aT))])) (some (bc o)) none) ⟨sp,none⟩ κ):=by
  refine aE rfl (aE rfl (BF w2 ?_))
  refine aE rfl (aE rfl (aE rfl (i7 r2 (aE rfl (jo (c:=false) (fun h=>nomatch h) fun _=>?_)))))
  refine aE rfl (aE rfl (aE rfl (aE rfl (j5 rfl (aE rfl (aE (y0 (Bh (M:=M) (s:=s) K)) ?_))))))
  exact ⟨_,_,Ch (kk:=kk) (κ:=κ) O,rfl⟩
 cases ho with
 |part p hp=>
  refine aE rfl (aE hm (aE e (aE (a:=.bool true) ?_ (aE rfl ?_))))
  .cases p<;>rfl
  .exact jo (c:=true) (fun _=>aE rfl (aE hm (aE e (j5 rfl fin)))) fun h=>nomatch h
 |none x hp=>exact aE rfl (aE hm (aE e (aE rfl (aE rfl (jo (c:=false) (fun h=>nomatch h) fun _=>aE rfl (j5 rfl fin))))))
theorem BV (hn:ns.length<=63){κ:PK aZ}(n:Nat):aP (fun t _=>t=.bool true) (wi ⟨ah Ψ (n+24)⟩ (EM ns none none none none none none none none none) ⟨((1:Nat):Int),none⟩ κ):=by
 refine aE rfl (dU (t3 hn 0 (n+23)) ?_)
 rintro _ _ ⟨rfl,c0,rfl⟩
 refine dU (wx c0 (n+23)) ?_
 rintro _ _ ⟨rfl,x,y,z,rfl,N⟩
 refine aE rfl (dU (t3 hn 0 (n+23)) ?_)
 rintro _ _ ⟨rfl,c,rfl⟩
 obtain ⟨y',h1,h2⟩:=ii (c.fdiv (5:Nat)) (n:=8) (by decide)
 obtain ⟨i,i3,ei⟩:=Da h2
 obtain ⟨p,b,B⟩:=pb i i3
 have i6:i<=lim:=le_trans (le_of_lt i3) (by decide)
 refine aE (du c (k:=5) rfl) (aE h1 (aE rfl (aE rfl (aE rfl (j5 rfl (aE rfl (aE rfl (aE rfl (aE rfl (aE ei (aE (b7 (e:=nT) (l:=Ga) B.e1 i6) (dU (rX hn 1 (n+22) N B.p0 (le_trans B.p8 (by decide))) ?_))))))))))))
 rintro _ _ ⟨⟨j1,rfl⟩,M,rfl,O,ml⟩
 refine aE rfl (aE rfl (aE rfl (dU (y9 hn N 5 j1 (n+23) (by decide) (le_trans (by decide) (le_add_left 23 n))) ?_)))
 rintro _ _ ⟨⟨j2,rfl⟩,s0,rfl,d0,g0⟩
 refine j5 rfl (aE rfl (aE rfl (aE rfl (aE rfl (aE ei (aE (b7 (e:=nT) (l:=bnd) B.e2 i6) (dU (Cf (m:=b) (le_trans d0 (by decide)) g0 (n+12)) ?_)))))))
 rintro _ _ ⟨rfl,s,rfl,ds,gs,bs⟩
 have S1:EW M s:=⟨O,⟨le_trans ds d0,le_trans bs B.b4,gs⟩,by rw [n7];exact le_trans (Nat.mul_le_mul ml (pow_le_pow_right (by decide) bs)) B.sz⟩
 refine aE rfl (aE (kS (xs:=M.fs) (j:=0) rfl (by decide)) (aE rfl (aE (kS (xs:=M.fs) (j:=1) rfl (by decide)) (aE rfl (aE (kS (xs:=M.fs) (j:=2) rfl (by decide)) (BF (zw O (n+21)) ?_))))))
 exact Bb S1 (le_trans ml B.p8)
end
end
end Mine.L06
namespace Mine.L06
noncomputable section
open PySem
noncomputable def depth:Nat:=16+24
theorem plain (ns:List Int)(h:ns.length<=63):∃s,wi ⟨ah Ψ depth⟩ (frame [.scr ns,.spot] 9) ⟨1,none⟩ (fun _ s=>.ret .none s)=.ret (.bool true) s:=by
 obtain ⟨_,s,e,rfl⟩:=BV h (κ:=fun _ s=>.ret .none s) 16
 exact ⟨s,e⟩
end
end Mine.L06
end
open PySem PySem.W PyProof.Rows Mine Mine.L06
set_option maxRecDepth 100000
set_option maxHeartbeats 8000000
namespace Mine.L06
theorem xo:(defOf q rw_uf020006_06.row.name).isSome=true:=by kernel_rfl
noncomputable def EQ:DefRec:=((defOf q rw_uf020006_06.row.name).get xo).1
theorem Eb:defOf q rw_uf020006_06.row.name=some (EQ,[]):=by kernel_rfl
theorem Ea:rw_uf020006_06.row.prog.theDef rw_uf020006_06.row.name=some (EQ.params,EQ.body,EQ.scope):=by kernel_rfl
end Mine.L06
theorem PySem.Challenge.cw_uf020006_06_holds : PySem.Challenge.rw_uf020006_06.Holds := by
 refine holds_law Fe fun sd=>?_
 refine holds_open (q:=q) (loose:=[]) (Xt:=Mine.L06.Xt) (XP:=XL q []) (Yf:=Hook.obs Hook.none) (Ya:=Hook.val Hook.none) (YP:=Hook.says Hook.none) (N:=4000) left (Hook.of _) (Hook.keeps _) (fun s e=>xl_of s (fM e)) (fun mg h h' x k=>XL.keeps mg h h' x k) Eb Ea (by kernel_rfl) (fun s e=>recFacts_of (gN e)) (by rfl) sd GD ⟨rfl,rfl,rfl,rfl,rfl,by decide+kernel⟩ ?hw ?hc
 case hw=>w_witness2
 intro w s0 s₁ mg mb G Y fa o pm cd doc dV kV ho hd hcd hD hmg hg args vals as hpre hlay hrd hwl hlo
 clear Y ho hd hcd hD
 wrow_args hpre hlay hrd hwl hlo
 rename IntsAre _ _=>hI
 rename Heap.IsList _ _ _=>hL
 obtain ⟨σ,hc⟩:=(fun {vs:List Value} {ns:List Int} (_:IntsAre vs ns)=>Mine.L06.plain ns) hI (by omega)
 refine wpAny_mono (wR (pg:=rw_uf020006_06.row.prog) (n:=Mine.L06.depth) (m:=9) (bd:=(sN jQ 999).tail) FB (fun f F e=>B0 e) G.T G.TE (zS G.T) yM zh rfl rfl rfl rfl rfl (by decide+kernel) rfl rfl rfl BS ⟨by decide,by decide,rfl⟩ hmg hL hI (by omega) hc) (fun v s' q=>?_) fun _ _ q=>q.elim
 obtain ⟨rfl,h',tk,rfl,hk⟩:=q
 exact xe rf (by first |rfl |wrow_post) (.of_eq hg) hk
