import PyProof.Rows.All
import Wide.All
import OpenK.AllK
import PySem.Challenge.RW_uf020006_01
set_option Elab.async false
set_option linter.all false
set_option autoImplicit false
set_option genInjectivity false
set_option genSizeOf false
set_option compiler.extract_closed false
set_option bootstrap.genMatcherCode false
open PySem.Str (ofString)
open List (all_eq_true any_eq_false any_eq_true append_nil concat_eq_append drop_zero eq_nil_or_concat find?_some findIdx?_cons flatten_append flatten_cons getElem?_append_left getElem?_append_right getElem?_eq_getElem getElem?_map getElem_mem getLast?_concat head?_append head?_drop length_cons length_drop length_filter_le length_map length_nil length_range length_reverse length_set length_singleton length_take lookup_cons map_append map_congr_left map_cons map_map map_nil mem_append mem_append_left mem_append_right mem_cons mem_cons_of_mem mem_cons_self mem_flatMap mem_of_getElem? mem_singleton nil_append nodup_append pairwise_singleton replicate size_toArray tail_drop take_length)
open Bool (and_eq_true and_eq_true_iff not_eq_true' or_eq_true)
open Int (le_natAbs max_eq_right natCast_nonneg ofNat ofNat_lt)
open Nat (add_assoc add_comm add_le_add add_le_add_left add_le_add_right beq_refl ble_eq_true_of_le eq_of_beq_eq_true le_add_left le_add_right le_antisymm le_max_left le_max_right le_of_ble_eq_true le_of_eq le_of_lt le_of_lt_succ le_of_succ_le_succ le_refl le_succ le_trans lt_of_le_of_lt lt_of_lt_of_le lt_one_iff lt_succ_of_le lt_succ_self lt_trans max_le min_le_left not_lt pow_le_pow_right pow_succ sub_le succ_le_succ succ_pos zero_add zero_le)
open PySem.Challenge (pw_uf020006_01 rw_uf020006_01)
open Option (bind_some)
namespace Mine
universe u
@[elab_as_elim] theorem rwm {α : Sort u} {a b : α} {motive : α → Prop} (t : a = b) (x : motive b) : motive a := t ▸ x
@[elab_as_elim] theorem rwn {α : Sort u} {a b : α} {motive : α → Prop} (t : b = a) (x : motive b) : motive a := t ▸ x
@[elab_as_elim] theorem rwi {a b : Prop} {motive : Prop → Prop} (t : a ↔ b) (x : motive b) : motive a := propext t ▸ x
@[elab_as_elim] theorem rwj {a b : Prop} {motive : Prop → Prop} (t : b ↔ a) (x : motive b) : motive a := propext t ▸ x
theorem rwp {a b : Prop} (t : b ↔ a) : a = b := propext t.symm
section
variable {α β : Type} {a b : α} {s t : List α} {x y : Bool} {n m i : Nat} {p : α → Prop}
theorem aa : a ∈ [b] → a = b := List.mem_singleton.mp
theorem ay : a = b → a ∈ [b] := List.mem_singleton.mpr
theorem ag : a ∈ s ++ t → a ∈ s ∨ a ∈ t := List.mem_append.mp
theorem ah : (x && y) = true → x = true ∧ y = true := Bool.and_eq_true_iff.mp
theorem cJ (h : (x && y) = true) : x = true := (Bool.and_eq_true_iff.mp h).1
theorem cI (h : (x && y) = true) : y = true := (Bool.and_eq_true_iff.mp h).2
theorem eM : (p a ∧ ∀ x, x ∈ s → p x) → ∀ x, x ∈ a :: s → p x := List.forall_mem_cons.mpr
theorem an : a ∈ b :: s → a = b ∨ a ∈ s := List.mem_cons.mp
theorem aj : s[i]? = some a → ∃ h : i < s.length, s[i] = a := List.getElem?_eq_some_iff.mp
theorem ar {x : Option β} {f : β → α} : Option.map f x = some b → ∃ a, x = some a ∧ f a = b := Option.map_eq_some_iff.mp
theorem aG {f : α → β} {b : β} : b ∈ s.map f → ∃ a, a ∈ s ∧ f a = b := List.mem_map.mp
theorem eL {f : α → β} {b : β} : (∃ a, a ∈ s ∧ f a = b) → b ∈ s.map f := List.mem_map.mpr
theorem aB {p : α → Bool} : s.all p = true → ∀ x, x ∈ s → p x = true := List.all_eq_true.mp
theorem bY : m ∈ List.range n → m < n := List.mem_range.mp
theorem bQ : m < n → m ∈ List.range n := List.mem_range.mpr
theorem aJ : (s ++ t).Nodup → s.Nodup ∧ t.Nodup ∧ ∀ a, a ∈ s → ∀ b, b ∈ t → a ≠ b := List.nodup_append.mp
theorem aT : (a :: s).Nodup → ¬ a ∈ s ∧ s.Nodup := List.nodup_cons.mp
theorem aE {x : Option α} : x.isSome = true → ∃ a, x = some a := Option.isSome_iff_exists.mp
theorem bE : m ≤ n → (m : Int) ≤ n := Int.ofNat_le.mpr
theorem bP : m < n → (m : Int) < n := Int.ofNat_lt.mpr
theorem bW : ¬ m < n → n ≤ m := Nat.not_lt.mp
theorem cU : m < n → ¬ n ≤ m := Nat.not_le.mpr
theorem b6 {p : α → Bool} : a ∈ s.filter p → a ∈ s ∧ p a = true := List.mem_filter.mp
theorem fh {p : α → Bool} : a ∈ s ∧ p a = true → a ∈ s.filter p := List.mem_filter.mpr
end
end Mine
open Lean in
local macro_rules (kind := Lean.Parser.Tactic.rwSeq)
  | s =>
    let l := s[2][1]
    let r := l[0]
    let h := s[3][0][1][0]
    if r.isMissing || !(s[3].isNone || h.getArgs.size == 1 && s[3][0][1][1].isMissing) then Macro.throwUnsupported else
    let z k a := Syntax.node .none (.str `Lean.Parser.Term k) a
    let y k a := Syntax.node .none (.str `Lean.Parser.Tactic k) a
    let w := Syntax.node .none `null
    let q x := s.setArg 2 (s[2].setArg 1 (w x))
    let c f a := z "app" #[f, w a]
    let t := c r[1] #[z "ellipsis" #[r]]
    let u a b := mkIdent (cond r[0].isNone a b)
    let i m v := w #[r, cond s[3].isNone (y "refine" #[r, c m #[t, z "syntheticHole" #[r, z "hole" #[r]]]])
      (y "replace" #[r, z "letDecl" #[z "letIdDecl" #[z "letId" #[h[0]], w #[], w #[], r, z "subst" #[v, r, h]]]])]
    return w #[y "first" #[r, w #[i (u `Mine.rwm `Mine.rwn) (cond r[0].isNone t (c (mkIdent `Eq.symm) #[t])), i (u `Mine.rwi `Mine.rwj) (c (u `propext `Mine.rwp) #[t]), w #[r, y "rewriteSeq" (q #[r]).getArgs]]], q (l.getArgs.extract 2)]
namespace Mine
noncomputable section
open PySem PySem.W PyProof.Rows
noncomputable def jh (tb:String->Option Builtin)(p:Program)(w:World)(n0:Nat)(ann:Option Value):Nat->SharedT->Thread->Option SharedT
 | 0,_,_=>none
 |n+1,s,t=>match through t with
  |true=>some s
  |false=>match stepOk n0 ann t with
   |false=>none
   |true=>match stepT (denote tb) p w s t with
    |some (s',t')=>jh tb p w n0 ann n s' t'
    |none=>none
theorem oA {tb:String->Option Builtin}{p:Program}{w:World}{n0:Nat}{ann:Option Value}:∀{n:Nat} {s s':SharedT} {t:Thread},jh tb p w n0 ann n s t=some s'->topRun tb p w n0 ann n s.abs t=some s'.abs
 | 0,_,_,_,h=>by cases h
 |n+1,s,s',t,h=>by
  unfold jh at h
  unfold topRun
  cases he:through t with
  |true=>rw [he] at h;cases h;rfl
  |false=>
   rw [he] at h
   cases hk:stepOk n0 ann t with
   |false=>rw [hk] at h;cases h
   |true=>
    rw [hk] at h
    cases hs:stepT (denote tb) p w s t with
    |none=>rw [hs] at h;cases h
    |some r=>obtain ⟨s2,t2⟩:=r;rw [hs] at h;rw [stepT_spec hs];exact oA h
noncomputable def Gn {α:Type}:List α->List α
 | []=>[]
 |a::r=>match r with
  | []=>[a]
  |_::r=>a::Gn r
noncomputable def sB:Nat->List Obj->BT
 | 0,_=>.nil
 |n+1,l=>match l with
  | []=>.nil
  |a::r=>.node a (sB n (Gn r)) (sB n (Gn r.tail))
def jL (P:Params):BT:=sB 14 (boot_heap P).objs.toList
theorem Aa {p q:Program}{loose:List Str}{Xt:Shared->Bool}{α:Type}{Yf:Shared->α}{Ya:World->α}{N:Nat}{g0:Bool}{m0:Nat}{ann:Option Value}{life:Life}
  (e:opening p=plainProg p.main.scope.names)(hN:Nat.ble 600 N=true)(f:∀s,fenceModules? p s=some s)
  (h0:∀P,absHeap (jL P) m0 life=boot_heap P)
  (size:∀P,((boot_heap P).isNs mainGlobals,(boot_heap P).objs.size,(boot_heap P).nsMap mainGlobals "__annotations__")=(true,m0,ann))
  (run:∀(w:World) (os:OsState),(jh treeTable p w m0 ann N ⟨jL w.params,m0,life,Array.mk [],boot_drawn,boot_toks,os⟩ (topStub p)).map (fun s=>
   (staticsOk (importedModules p.main.body) (boot_heap w.params) s.abs.heap&&namesBound p s.abs.heap&&gensDone s.abs&&laidKept (boot_heap w.params) s.abs.heap,openSeen q loose (importedModules p.main.body) Xt g0 s.abs,Yf s.abs))=some (true,openGood q loose,Ya w)):LeftO p q loose Xt Yf Ya N g0:=fun w=>by
 obtain ⟨⟨h,gs,d,k,os⟩,e1,e2⟩:=ar (boot_open e hN f w)
 obtain ⟨rfl,rfl,rfl,rfl⟩:h=boot_heap w.params/\gs=Array.mk []/\d=boot_drawn/\k=boot_toks:=by simpa using e2
 obtain ⟨s,e3,e4⟩:=ar (run w os)
 obtain ⟨l1,l2⟩:=Prod.mk.inj e4
 obtain ⟨z1,z2,z3⟩:_/\_/\_:=by simpa only [Prod.mk.injEq] using size w.params
 have r:=oA e3
 rw [SharedT.abs,h0 w.params] at r
 have t:topFrom treeTable p w N ⟨boot_heap w.params,Array.mk [],boot_drawn,boot_toks,os⟩=some s.abs:=by
  unfold topFrom
  dsimp only
  rw [z1,z2,z3,r]
  show (match staticsOk (importedModules p.main.body) (boot_heap w.params) s.abs.heap&&namesBound p s.abs.heap&&gensDone s.abs&&laidKept (boot_heap w.params) s.abs.heap with |true=>_ |false=>_)=_
  rw [l1]
 unfold openEnds
 rw [e1]
 show Option.map _ (topFrom treeTable p w N _)=_
 rw [t]
 exact congrArg some l2
noncomputable def n4 (mg:Str->Option Value)(x:Str):Addr:=match mg x with
 |some (.ref a)=>a
 |_=>0
theorem Di {mg:Str->Option Value}{x:Str}{a:Addr}(h:mg x=some (.ref a)):n4 mg x=a:=by unfold n4;rw [h]
def CP (xs:List Str)(mg:Str->Option Value)(h:Heap):Frag:=
 (xs.flatMap fun x=>n4 mg x::(match h.get? (n4 mg x) with
  |some ⟨_,_,.cls cd,_⟩=>[cd.ns]
  |_=>[])).filterMap fun a=>(h.get? a).map fun o=>(a,o)
theorem pZ {h:Heap}:∀(l:List Addr),Frag.In (l.filterMap fun a=>(h.get? a).map fun o=>(a,o)) h
 | [],a,o,e=>by cases e
 |b::l,a,o,e=>by
  cases hb:h.get? b with
  |none=>rw [List.filterMap_cons_none (by simp only [hb,Option.map_none])] at e;exact pZ l a o e
  |some ob=>
   rw [List.filterMap_cons_some (by simp only [hb,Option.map_some];rfl),lookup_cons] at e
   cases q:a==b with
   |true=>rw [q] at e;cases e;rw [beq_iff_eq.mp q];exact hb
   |false=>rw [q] at e;exact pZ l a o e
structure y7 (K:Frag) (D:Addr):Prop where
 ga:findIn K (.ref D) "__getattribute__"=some (some (.builtin "BaseException.__getattribute__"))
 gt:findIn K (.ref D) "__getattr__"=some none
 sb:subIn K (.ref D) (.type "BaseException")=some true
 hdct:hasDictIn K D=true
 ha:findIn K (.ref D) "__class__"=some (some (.builtin "object.__class__"))
 hn:specialIn K (.builtin "object.__class__") "__get__"=some (some (.builtin "getset_descriptor.__get__"))
 htk:takesIn K (.builtin "object.__class__")=some true
 hm:mroIn K D (.type "object")=some true
noncomputable def Bn (K:Frag)(D:Addr):Bool:=(findIn K (.ref D) "__getattribute__"==some (some (.builtin "BaseException.__getattribute__")))&&((findIn K (.ref D) "__getattr__"==some none)&&((subIn K (.ref D) (.type "BaseException")==some true)&&(hasDictIn K D&&((findIn K (.ref D) "__class__"==some (some (.builtin "object.__class__")))&&
 ((specialIn K (.builtin "object.__class__") "__get__"==some (some (.builtin "getset_descriptor.__get__")))&&((takesIn K (.builtin "object.__class__")==some true)&&(mroIn K D (.type "object")==some true)))))))
theorem kR {a b:Bool}(h:(a&&b)=true):a=true/\b=true:=ah h
theorem Aw {K:Frag}{D:Addr}(h:Bn K D=true):y7 K D:=by
 obtain ⟨h1,h⟩:=kR h
 obtain ⟨h2,h⟩:=kR h
 obtain ⟨h3,h⟩:=kR h
 obtain ⟨h4,h⟩:=kR h
 obtain ⟨h5,h⟩:=kR h
 obtain ⟨h6,h⟩:=kR h
 obtain ⟨h7,h8⟩:=kR h
 exact ⟨eq_of_beq h1,eq_of_beq h2,eq_of_beq h3,h4,eq_of_beq h5,eq_of_beq h6,eq_of_beq h7,eq_of_beq h8⟩
noncomputable def gW:List Str:=[ofString "BadSaying",ofString "TooMany",ofString "BadMachine",ofString "NoWalk"]
def CS (K:Frag)(mg:Str->Option Value)(x:Str)(bs:List Bool):Bool:=Bn K (n4 mg x)&&((exmOne K (.ref (n4 mg x)) (.ref (n4 mg (ofString "WalkError")))==some true)&&((kitOne K (.ref (n4 mg x)) (.type "ValueError")==some true)&&(gW.map (fun y=>kitOne K (.ref (n4 mg x)) (.ref (n4 mg y)))==bs.map some)))
def AJ (K:Frag)(mg:Str->Option Value):Bool:=CS K mg (ofString "BadSaying") [true,false,false,false]&&CS K mg (ofString "TooMany") [false,true,false,false]
def Fd (q:Program)(s:Shared):Bool:=(xlAt q [] s&&recOk [] s)&&AJ (CP (ofString "WalkError"::gW) (s.heap.nsMap mainGlobals) s.heap) (s.heap.nsMap mainGlobals)
def BA (q:Program)(mg:Str->Option Value)(h:Heap):Prop:=XL q [] mg h/\∃K:Frag,K.In h/\AJ K mg=true
theorem BA.of {q:Program}(s:Shared)(e:Fd q s=true):BA q (s.heap.nsMap mainGlobals) s.heap:=⟨xl_of s (kR (kR e).1).1,_,pZ _,(kR e).2⟩
theorem Fd.rc {q:Program}{s:Shared}(e:Fd q s=true):recOk [] s=true:=(kR (kR e).1).2
theorem BA.keeps {q:Program}(mg:Str->Option Value)(h h':Heap)(x:BA q mg h)(k:∀b o,h.get? b=some o->h'.get? b=some o):BA q mg h':=⟨XL.keeps mg h h' x.1 k,x.2.elim fun K y=>⟨K,fun a o e=>k a o (y.1 a o e),y.2⟩⟩
end
end Mine
section
namespace Mine.L01
end Mine.L01
open PySem PySem.W PyProof.Rows Mine Mine.L01
set_option maxRecDepth 100000
set_option maxHeartbeats 8000000
namespace Mine.L01
noncomputable section
noncomputable def q:Program:=PySem.W.view pw_uf020006_01 [1,2,3,4,5,7,8,9,10,11,12,13,14,15,16,17,18,20,21,22,23,24,25,26,28,30,31,32,33,34,35,36,37,38,39,41,42,43,44,46,47,48,49,50,51,52,53,54,55,56,57,58,59,60,61]
def Xt (s:Shared):Bool:=Fd q s
theorem l1:opening pw_uf020006_01=plainProg pw_uf020006_01.main.scope.names:=by kernel_rfl
theorem l2 (s:Shared):fenceModules? pw_uf020006_01 s=some s:=by kernel_rfl
theorem l3 (P:Params):absHeap (jL P) 11 {}=boot_heap P:=by kernel_rfl
theorem l4 (P:Params):((boot_heap P).isNs mainGlobals,(boot_heap P).objs.size,(boot_heap P).nsMap mainGlobals "__annotations__")=(true,11,some (.ref 6)):=by kernel_rfl
theorem l5 (w:World)(os:OsState):(jh treeTable pw_uf020006_01 w 11 (some (.ref 6)) 4000 ⟨jL w.params,11,{},Array.mk [],boot_drawn,boot_toks,os⟩ (topStub pw_uf020006_01)).map (fun s=>
   (staticsOk (importedModules pw_uf020006_01.main.body) (boot_heap w.params) s.abs.heap&&namesBound pw_uf020006_01 s.abs.heap&&gensDone s.abs&&laidKept (boot_heap w.params) s.abs.heap,openSeen q [] (importedModules pw_uf020006_01.main.body) Xt true s.abs,Hook.obs Hook.none s.abs))=some (true,openGood q [],Hook.val Hook.none w):=by kernel_rfl
theorem left:LeftO pw_uf020006_01 q [] Xt (Hook.obs Hook.none) (Hook.val Hook.none) 4000:=Aa l1 rfl l2 l3 l4 l5
end
end Mine.L01
end
section
set_option genInjectivity true
namespace Mine
noncomputable section
open PySem PySem.W
inductive Ky where
 |int (i:Int)
 |str (x:Str)
 |tup (ks:List Ky)
noncomputable instance:DecidableEq Ky:=fun a b=>Classical.propDecidable (a=b)
noncomputable def uF (b:Bool):Int:=if b then 1 else 0
inductive Kx where
 |int (i:Int)
 |bool (b:Bool)
 |str (x:Str)
 |tup (ks:List Kx)
mutual
noncomputable def Ky.hash (w:World):Ky->Int
 |.int i=>hashInt i
 |.str x=>hashStr w x
 |.tup ks=>reduceHash (Builtin.Tuple.tupleHashOf (Ky.hashes w ks))
termination_by structural k=>k
noncomputable def Ky.hashes (w:World):List Ky->List Int
 | []=>[]
 |k::r=>k.hash w::Ky.hashes w r
termination_by structural k=>k
end
mutual
noncomputable def Ky.draws:Ky->Nat
 |.int _=>1
 |.str _=>1
 |.tup ks=>Ky.drawsL ks+1
termination_by structural k=>k
noncomputable def Ky.drawsL:List Ky->Nat
 | []=>0
 |k::r=>k.draws+Ky.drawsL r
termination_by structural k=>k
end
mutual
noncomputable def Kx.norm:Kx->Ky
 |.int i=>.int i
 |.bool b=>.int (uF b)
 |.str x=>.str x
 |.tup ks=>.tup (Kx.norms ks)
termination_by structural k=>k
noncomputable def Kx.norms:List Kx->List Ky
 | []=>[]
 |k::r=>k.norm::Kx.norms r
termination_by structural k=>k
end
mutual
noncomputable def Kx.dat:Kx->PyData
 |.int i=>.int i
 |.bool b=>.bool b
 |.str x=>.str x
 |.tup ks=>.tuple (Kx.dats ks)
termination_by structural k=>k
noncomputable def Kx.dats:List Kx->List PyData
 | []=>[]
 |k::r=>k.dat::Kx.dats r
termination_by structural k=>k
end
mutual
noncomputable def cC (h:Heap):Kx->Nat->Value->Prop
 |.int i,_,v=>∃t,v=.int i t
 |.bool b,_,v=>v=.bool b
 |.str x,_,v=>PyData.strOk x=true/\∃t,v=.str x t
 |.tup ks,n,v=>∃a vs k m,v=.ref a/\n=m+1/\h.get? a=some ⟨.type "tuple",none,.seq vs k,#[]⟩/\fj h ks m vs.toList
termination_by structural k=>k
noncomputable def fj (h:Heap):List Kx->Nat->List Value->Prop
 | [],_,vs=>vs=[]
 |k::ks,n,vs=>∃v vs',vs=v::vs'/\cC h k n v/\fj h ks n vs'
termination_by structural k=>k
end
section
variable {h h':Heap}
theorem cC.keeps (hk:∀a vs k,h.get? a=some ⟨.type "tuple",none,.seq vs k,#[]⟩->h'.get? a=some ⟨.type "tuple",none,.seq vs k,#[]⟩)(x:Kx):∀n v,cC h x n v->cC h' x n v:=
 Kx.rec (motive_1:=fun x=>∀n v,cC h x n v->cC h' x n v) (motive_2:=fun x=>∀n v,fj h x n v->fj h' x n v)
  (fun _ _ _ q=>q) (fun _ _ _ q=>q) (fun _ _ _ q=>q) (fun _ ih _ _ ⟨a,vs,k,m,e,e',g,r⟩=>⟨a,vs,k,m,e,e',hk a vs k g,ih m _ r⟩) (fun _ _ q=>q) (fun _ _ i1 i2 n _ ⟨v,vs,e,r,r'⟩=>⟨v,vs,e,i1 n v r,i2 n vs r'⟩) x
theorem cC.inj (x:Kx):∀y n m v,cC h x n v->cC h y m v->x=y:=
 Kx.rec (motive_1:=fun x=>∀y n m v,cC h x n v->cC h y m v->x=y) (motive_2:=fun x=>∀y n m v,fj h x n v->fj h y m v->x=y)
  (fun i y n m v ⟨_,e⟩=>Kx.casesOn (motive_1:=fun y=>cC h y m v->Kx.int i=y) y (fun _ ⟨_,q⟩=>congrArg Kx.int (Value.int.inj (e.symm.trans q)).1) (fun _ q=>nomatch e.symm.trans (show v=_ from q)) (fun _ ⟨_,_,q⟩=>nomatch e.symm.trans q) (fun _ ⟨_,_,_,_,q,_⟩=>nomatch e.symm.trans q))
  (fun b y n m v e=>Kx.casesOn (motive_1:=fun y=>cC h y m v->Kx.bool b=y) y (fun _ ⟨_,q⟩=>nomatch (show v=_ from e).symm.trans q) (fun _ q=>congrArg Kx.bool (Value.bool.inj ((show v=_ from e).symm.trans q))) (fun _ ⟨_,_,q⟩=>nomatch (show v=_ from e).symm.trans q) (fun _ ⟨_,_,_,_,q,_⟩=>nomatch (show v=_ from e).symm.trans q))
  (fun s y n m v ⟨_,_,e⟩=>Kx.casesOn (motive_1:=fun y=>cC h y m v->Kx.str s=y) y (fun _ ⟨_,q⟩=>nomatch e.symm.trans q) (fun _ q=>nomatch e.symm.trans (show v=_ from q)) (fun _ ⟨_,_,q⟩=>congrArg Kx.str (Value.str.inj (e.symm.trans q)).1) (fun _ ⟨_,_,_,_,q,_⟩=>nomatch e.symm.trans q))
  (fun ks ih y n m v ⟨a,vs,k,j,e,_,g,r⟩=>Kx.casesOn (motive_1:=fun y=>cC h y m v->Kx.tup ks=y) y (fun _ ⟨_,q⟩=>nomatch e.symm.trans q) (fun _ q=>nomatch e.symm.trans (show v=_ from q)) (fun _ ⟨_,_,q⟩=>nomatch e.symm.trans q)
   (fun ls ⟨_,_,_,j',q,_,g',r'⟩=>by cases e.symm.trans q;rw [g] at g';cases g';rw [ih _ j j' _ r r']))
  (fun y n m v e q=>by rw [show v=_ from e] at q;cases y with
   |nil=>rfl
   |cons=>obtain ⟨_,_,e,_⟩:=q;cases e)
  (fun x xs i1 i2 y n m v ⟨u,us,e,r,r'⟩ q=>by subst e;cases y with
   |nil=>cases q
   |cons=>obtain ⟨_,_,e,q,q'⟩:=q;cases e;rw [i1 _ n m _ r q,i2 _ n m _ r' q']) x
theorem cC.reads (x:Kx):∀n v,cC h x n v->(∃as,Reads h v x.dat as)/\x.dat.canLay0=true/\x.dat.depth<=n:=
 Kx.rec (motive_1:=fun x=>∀n v,cC h x n v->(∃as,Reads h v x.dat as)/\x.dat.canLay0=true/\x.dat.depth<=n) (motive_2:=fun x=>∀n v,fj h x n v->(∃as,ReadsAll h v (Kx.dats x) as)/\PyData.canLayAll0 (Kx.dats x)=true/\PyData.depthAll (Kx.dats x)<=n)
  (fun i _ _ ⟨t,e⟩=>e▸⟨⟨_,.int i t⟩,rfl,zero_le _⟩) (fun b _ v e=>(show v=_ from e)▸⟨⟨_,.bool b⟩,rfl,zero_le _⟩) (fun x _ _ ⟨g,t,e⟩=>e▸⟨⟨_,.str _ t⟩,g,zero_le _⟩)
  (fun _ ih _ _ ⟨a,vs,k,m,e,e',g,r⟩=>let ⟨⟨as,q⟩,c,l⟩:=ih m _ r;e▸e'▸⟨⟨as,.tuple g rfl rfl q⟩,c,succ_le_succ l⟩)
  (fun _ v e=>(show v=_ from e)▸⟨⟨_,.nil⟩,rfl,zero_le _⟩)
  (fun _ _ i1 i2 n _ ⟨v,vs,e,r,r'⟩=>let ⟨⟨as,q⟩,c,l⟩:=i1 n v r;let ⟨⟨bs,q'⟩,c',l'⟩:=i2 n vs r';e▸⟨⟨_,.cons q q'⟩,and_eq_true_iff.mpr ⟨c,c'⟩,max_le.mpr ⟨l,l'⟩⟩) x
theorem uz {α Z:Type}{a b:α}{f:α->Z} [DecidableEq α] [DecidableEq Z] (hf:∀x y,f x=f y->x=y):decide (f a=f b)=decide (a=b):=by
 by_cases q:a=b
 .rw [decide_eq_true q,decide_eq_true (congrArg f q)]
 .rw [decide_eq_false q,decide_eq_false fun e=>q (hf _ _ e)]
theorem lK {α:Type} [BEq α] [LawfulBEq α] [DecidableEq α] (a b:α):(a==b)=decide (a=b):=by
 by_cases q:a=b
 .rw [decide_eq_true q,beq_iff_eq.mpr q]
 .rw [decide_eq_false q,beq_eq_false_iff_ne.mpr q]
theorem sX (i j:Int):decide (Ky.int i=Ky.int j)=decide (i=j):=uz fun _ _ e=>Ky.int.inj e
theorem Kx.eqv (x:Kx):∀y:Kx,PyData.eqv x.dat y.dat=decide (x.norm=y.norm):=
 have no:∀{a b:Ky},a≠b->false=decide (a=b):=fun h=>(decide_eq_false h).symm
 Kx.rec (motive_1:=fun x=>∀y:Kx,PyData.eqv x.dat y.dat=decide (x.norm=y.norm)) (motive_2:=fun x=>∀y:List Kx,PyData.eqvAll (Kx.dats x) (Kx.dats y)=decide (Ky.tup (Kx.norms x)=Ky.tup (Kx.norms y)))
  (fun i y=>match y with
   |.int j=>(lK i j).trans (sX i j).symm
   |.bool b=>(lK i (uF b)).trans (sX i _).symm
   |.str _=>no nofun
   |.tup _=>no nofun)
  (fun b y=>match y with
   |.int j=>(lK (uF b) j).trans (sX _ j).symm
   |.bool c=>by cases b<;>cases c<;>first |exact (decide_eq_true rfl).symm |exact no fun e=>absurd (Ky.int.inj e) (by decide)
   |.str _=>no nofun
   |.tup _=>no nofun)
  (fun s y=>match y with
   |.int _=>no nofun
   |.bool _=>no nofun
   |.str t=>(lK s t).trans (uz fun _ _ e=>Ky.str.inj e).symm
   |.tup _=>no nofun)
  (fun ks ih y=>match y with
   |.int _=>no nofun
   |.bool _=>no nofun
   |.str _=>no nofun
   |.tup ls=>ih ls)
  (fun y=>match y with
   | []=>(decide_eq_true rfl).symm
   |_::_=>no nofun)
  (fun x xs i1 i2 y=>match y with
   | []=>no nofun
   |z::zs=>by
    show (PyData.eqv x.dat z.dat&&PyData.eqvAll (Kx.dats xs) (Kx.dats zs))=decide (Ky.tup (x.norm::Kx.norms xs)=Ky.tup (z.norm::Kx.norms zs))
    rw [i1 z,i2 zs]
    by_cases h:x.norm=z.norm
    .rw [decide_eq_true h,h,Bool.true_and]
     exact decide_eq_decide.mpr ⟨fun e=>by rw [Ky.tup.inj e],fun e=>by rw [(List.cons.inj (Ky.tup.inj e)).2]⟩
    .rw [decide_eq_false h,Bool.false_and]
     exact no fun e=>h (List.cons.inj (Ky.tup.inj e)).1) x
end
section
variable {prog:Program} {w:World} {E:Value->Shared->Prop}
theorem cC.pyHash (x:Kx):∀(n:Nat) (v:Value) (A:Around) (s:Shared) (Q:Int->Shared->Prop),cC s.heap x n v->A.units+n < cLine->Q (x.norm.hash w) {s with toks:=s.toks+x.norm.draws}->wpAny (model prog w) A (PySem.pyHash v) Q E s:=
 Kx.rec (motive_1:=fun x=>∀(n:Nat) (v:Value) (A:Around) (s:Shared) (Q:Int->Shared->Prop),cC s.heap x n v->A.units+n < cLine->Q (x.norm.hash w) {s with toks:=s.toks+x.norm.draws}->wpAny (model prog w) A (PySem.pyHash v) Q E s)
  (motive_2:=fun x=>∀(n:Nat) (vs:List Value) (A:Around) (s:Shared) (b:Array Int) (Q:Array Int->Shared->Prop),fj s.heap x n vs->A.units+n < cLine->(∀b':Array Int,b'.toList=b.toList++Ky.hashes w (Kx.norms x)->Q b' {s with toks:=s.toks+Ky.drawsL (Kx.norms x)})->
   wpAny (model prog w) A (forIn vs b fun x r=>do let h <-PySem.pyHash x;pure PUnit.unit;pure (ForInStep.yield (r.push h))) Q E s)
  (fun i n v A s Q ⟨t,e⟩ _ h=>e▸wpAny_pyHash_int h)
  (fun b n v A s Q e hu h=>by
   rw [show v=_ from e]
   refine pyHash_slot (T:="bool") rfl F.slot_bool_hash entry_int_hash (args_int_hash _) (beq_builtin_none _) (.inl rfl) ?_
   cases b
   .exact (show wpAny _ _ (do ret (<-mkInt 0)) _ _ s from wpAny_bind (wpAny_mkInt (wpAny_pure ⟨_,_,rfl,h⟩)))
   .exact (show wpAny _ _ (do ret (<-mkInt 1)) _ _ s from wpAny_bind (wpAny_mkInt (wpAny_pure ⟨_,_,rfl,h⟩))))
  (fun x n v A s Q ⟨_,t,e⟩ _ h=>e▸wpAny_pyHash_str h)
  (fun ks ih n v A s Q ⟨a,vs,k,m,e,e',hg,r⟩ hu h=>by
   subst e e'
   refine pyHash_slot (T:="tuple") ⟨_,hg,rfl⟩ F.slot_tuple_hash F.entry_tuple_hash (F.args_tuple_hash_1 _) (beq_builtin_none _) (.inr (lt_of_le_of_lt (le_add_right _ _) hu)) ?_
   show wpAny _ _ (Builtin.Tuple.tupleItemsOf (.ref a) >>=_) _ _ s
   refine wpAny_bind (wpAny_tupleItemsOf hg rfl ?_)
   refine wpAny_bind ?_
   rw [<-Array.forIn_toList]
   refine ih m _ _ _ _ _ r (by simp only [Around.in1_units];lia -abstractProof) fun b hb=>?_
   show wpAny _ _ (retInt (Builtin.Tuple.tupleHashOf b.toList)) _ _ _
   rw [hb]
   exact wpAny_bind (wpAny_mkInt (wpAny_pure ⟨_,_,rfl,h⟩)))
  (fun n vs A s b Q e _ h=>by rw [show vs=_ from e];exact wpAny_pure (h b (append_nil _).symm))
  (fun x xs i1 i2 n vs A s b Q ⟨v,vs',e,r,r'⟩ hu h=>by
   rw [e,List.forIn_cons]
   refine wpAny_bind (wpAny_bind (i1 n _ _ _ _ r hu ?_))
   refine wpAny_bind (wpAny_pure (wpAny_pure ?_))
   refine i2 n _ _ _ _ _ r' hu fun b' hb=>?_
   have:=h b' (by rw [hb,Array.toList_push,List.append_assoc];rfl)
   rw [show Ky.drawsL (Kx.norms (x::xs))=_+_ from rfl,<-add_assoc] at this
   exact this) x
theorem cC.quiet (x:Kx):∀(n:Nat) (v:Value) (m:Nat) (A:Around) (s:Shared) (Q:Bool->Shared->Prop),cC s.heap x n v->n<=m->Q true s->wpAny (model prog w) A (eqIsQuiet m v) Q E s:=
 Kx.rec (motive_1:=fun x=>∀(n:Nat) (v:Value) (m:Nat) (A:Around) (s:Shared) (Q:Bool->Shared->Prop),cC s.heap x n v->n<=m->Q true s->wpAny (model prog w) A (eqIsQuiet m v) Q E s)
  (motive_2:=fun x=>∀(n:Nat) (vs:List Value) (m:Nat) (A:Around) (s:Shared) (Q:Option Bool×PUnit->Shared->Prop),fj s.heap x n vs->n<=m->Q (none,⟨⟩) s->
   wpAny (model prog w) A (forIn vs ((none:Option Bool),PUnit.unit) fun y r=>do
    let c <-eqIsQuiet m y
    if (!c)=true then pure (ForInStep.done (some false,PUnit.unit)) else pure (ForInStep.yield (none,PUnit.unit))) Q E s)
  (fun i n v m A s Q ⟨t,e⟩ _ h=>by rw [e,eqIsQuiet_byValue m rfl];exact wpAny_pure h)
  (fun b n v m A s Q e _ h=>by rw [show v=_ from e,eqIsQuiet_byValue m rfl];exact wpAny_pure h)
  (fun x n v m A s Q ⟨_,t,e⟩ _ h=>by rw [e,eqIsQuiet_byValue m rfl];exact wpAny_pure h)
  (fun ks ih n v m A s Q ⟨a,vs,k,j,e,e',hg,r⟩ hu h=>by
   subst e e'
   cases m with
   |zero=>exact absurd hu (Nat.not_succ_le_zero _)
   |succ m=>
    have hT:s.TypeIs (.ref a) "tuple":=⟨_,hg,rfl⟩
    unfold eqIsQuiet
    refine wpAny_bind (wpAny_specialOf hT F.slot_tuple_eq.lookup ?_)
    show wpAny _ _ (isInstance (.ref a) (.type "tuple") >>=_) _ _ s
    refine wpAny_bind (wpAny_isInstance hT isSubtype_tuple_tuple ?_)
    simp only [Bool.not_true,Bool.false_eq_true,if_false]
    refine wpAny_bind (wpAny_seqItems hg rfl ?_)
    refine wpAny_bind ?_
    show wpAny _ _ (forIn vs _ _) _ _ s
    rw [<-Array.forIn_toList]
    exact ih j _ m _ _ _ r (le_of_succ_le_succ hu) (wpAny_pure h))
  (fun n vs m A s Q e _ h=>by rw [show vs=_ from e];exact wpAny_pure h)
  (fun x xs i1 i2 n vs m A s Q ⟨v,vs',e,r,r'⟩ hu h=>by
   rw [e,List.forIn_cons]
   refine wpAny_bind (wpAny_bind (i1 n _ m _ _ _ r hu ?_))
   exact wpAny_pure (i2 n _ m _ _ _ r' hu h)) x
end
def vY (h:Heap)(n:Nat)(k:Ky)(v:Value):Prop:=∃x:Kx,x.norm=k/\cC h x n v
def Du (h:Heap)(n:Nat)(k:List Ky)(v:List Value):Prop:=∃x:List Kx,Kx.norms x=k/\fj h x n v
noncomputable def bL (prog:Program)(w:World):HeapKind prog w Ky where
 is:=fun h k a=>vY h 6 k (.ref a)
 hash:=Ky.hash w
 draws:=Ky.draws
 room:=fun A=>A.units+6 < cLine
 inj:=fun hx hy=>let ⟨x,e,q⟩:=hx;let ⟨y,e',q'⟩:=hy;by rw [<-e,<-e',cC.inj x y 6 6 _ q q']
 keeps:=fun {h h' k a d o es ep} hx ho hd hs=>let ⟨x,e,q⟩:=hx;⟨x,e,cC.keeps (fun b vs j e=>(hs.2 b fun q=>by rw [q,ho] at e;cases e;cases hd).trans e) x 6 _ q⟩
 pyHash:=fun hu hk h=>by obtain ⟨x,rfl,q⟩:=hk;exact cC.pyHash x 6 _ _ _ _ q hu h
 eqBool:=fun {A E s x y a b Q} hu hx hy h=>by
  obtain ⟨x,rfl,q1⟩:=hx
  obtain ⟨y,rfl,q2⟩:=hy
  by_cases q:a=b
  .subst q
   rw [cC.inj x y 6 6 _ q1 q2,decide_eq_true rfl] at h
   exact SeqAt.EqAt.same (.ref a) prog w E Q h
  .obtain ⟨⟨as,r1⟩,c1,l1⟩:=cC.reads x 6 _ q1
   obtain ⟨⟨bs,r2⟩,c2,l2⟩:=cC.reads y 6 _ q2
   rw [<-x.eqv y] at h
   exact SeqAt.EqAt.of_refs q (SeqAt.rcAt_reads r1 r2 c1 c2 (lt_of_le_of_lt (add_le_add_left (le_trans (min_le_left _ _) l1) _) hu)) prog w E Q h
 quiet:=fun hk h=>by obtain ⟨x,rfl,q⟩:=hk;exact cC.quiet x 6 _ _ _ _ _ q (by decide) h
end
end Mine
end
section
set_option backward.eqns.nonrecursive false
namespace Mine
noncomputable section
open PySem PyProof.Rows
noncomputable def lim:Nat:=1000000
noncomputable def cG:Nat:=50
noncomputable def cut {α:Type}(lo hi:Option Int)(xs:List α):List α:=
 (xs.drop (lo.elim 0 (clipAt xs.length))).take (hi.elim xs.length (clipAt xs.length) - lo.elim 0 (clipAt xs.length))
theorem nr (n k:Nat):clipAt n (k:Int)=min k n:=by
 unfold clipAt
 rw [if_neg (Int.not_lt.mpr (natCast_nonneg k))]
 rcases Nat.le_total k n with h |h
 .rw [Nat.min_eq_left h,Int.min_eq_left (bE h),max_eq_right (natCast_nonneg k)];rfl
 .rw [Nat.min_eq_right h,Int.min_eq_right (bE h),max_eq_right (natCast_nonneg n)];rfl
theorem uC (n:Nat):clipAt n (-1)=n - 1:=by
 unfold clipAt
 rw [if_pos (by decide)]
 cases n with
 |zero=>rfl
 |succ n=>
  rw [show (-1:Int)+((n+1:Nat):Int)=n from (Int.add_comm _ _).trans (Int.add_sub_cancel (n:Int) 1),Int.min_eq_left (bE (le_succ n)),max_eq_right (natCast_nonneg n)];rfl
noncomputable def fB (lo hi:Option Int)(x:Str):Str:=⟨(cut lo hi x.cps.toList).toArray⟩
inductive T where
 |none
 |bool (b:Bool)
 |int (i:Int)
 |str (s:Str)
 |tup (ts:List T)
 |lst (ts:List T)
 |dct (ks vs:List T)
 |obj (c:Nat) (fs:List T)
 |scr (ns:List Int)
 |spot
 |self
 deriving Inhabited
structure Sg where
 spot:Int
 self:Option (Nat×List T)
@[reducible] noncomputable def S1:Type:=Sg
@[reducible] noncomputable def S2:Type:=S1
@[reducible] noncomputable def S3:Type:=S2
@[reducible] noncomputable def S4:Type:=S3
@[reducible] noncomputable def S5:Type:=S4
@[reducible] noncomputable def B1:Type:=Bool
@[reducible] noncomputable def B2:Type:=B1
@[reducible] noncomputable def B3:Type:=B2
@[reducible] noncomputable def B4:Type:=B3
@[reducible] noncomputable def B5:Type:=B4
noncomputable abbrev aY:=List (Option T)
inductive du where
 |ret (t:T) (J:Sg)
 |fall (V:aY) (J:Sg)
 |exc (c:Nat) (J:Sg)
 |bad
@[reducible] noncomputable def gd (b:B5)(o:du):du:=Bool.rec (motive:=fun _=>du) .bad o b
structure jQ where
 call:Nat->List T->Sg->du
noncomputable abbrev PK (α:Type):=α->Sg->du
noncomputable abbrev PG (α:Type):=jQ->aY->Sg->PK α->du
noncomputable abbrev PE:=PG T
noncomputable abbrev PT:=PG Bool
noncomputable abbrev PL:=PG (List T)
noncomputable abbrev PO:=PG (Option Int)
noncomputable abbrev PS:=PG aY
noncomputable def b9:aY->Nat->Option T
 | [],_=>none
 |x::_,0=>x
 |_::r,n+1=>b9 r n
noncomputable def up {α:Type}(o:Option α)(J:S3)(k:PK α):du:=match o with
 |some a=>k a J
 |none=>.bad
@[irreducible] noncomputable def f8 (o:du)(k:PK T):du:=match o with
 |.ret t J=>k t J
 |_=>.bad
theorem qY {t:T}{J:Sg}{k:PK T}:f8 (.ret t J) k=k t J:=by with_unfolding_all rfl
def cq (n:Nat):Bool:=Nat.ble n lim
noncomputable def fi (f:T->Option PyData):List T->Option (List PyData)
 | []=>some []
 |x::r=>match f x with
  |none=>none
  |some d=>(fi f r).map (d::·)
def cu:Nat->T->Option PyData
 |_,.none=>some .none
 |_,.bool b=>some (.bool b)
 |_,.int i=>some (.int i)
 |_,.str s=>some (.str s)
 |n+1,.tup xs=>(fi (cu n) xs).map .tuple
 |n+1,.lst xs=>(fi (cu n) xs).map .list
 |_,_=>none
@[reducible] def pV (i:Nat):PE:=fun _ V J k=>up (b9 V i) J k
@[reducible] noncomputable def pC (t:T):PE:=fun _ _ (J:S5) k=>k t J
@[reducible] noncomputable def p1 {α z:Type}(f:α->Option z)(e:PG α):PG z:=fun c V J k=>e c V J fun a J=>up (f a) J k
@[reducible] noncomputable def p2 {α z g:Type}(f:α->z->Option g)(l:PG α)(r:PG z):PG g:=fun c V J k=>l c V J fun a J=>r c V J fun b J=>up (f a b) J k
@[reducible] noncomputable def p3 {α z g Z:Type}(f:α->z->g->Option Z)(l:PG α)(m:PG z)(r:PG g):PG Z:=fun c V J k=>l c V J fun a J=>m c V J fun b J=>r c V J fun x J=>up (f a b x) J k
@[reducible] noncomputable def pB (t:PT):PE:=fun c V (J:S5) k=>t c V J fun b J=>k (.bool b) J
@[reducible] noncomputable def ak:PL:=fun _ _ (J:S5) k=>k [] J
@[reducible] noncomputable def ae (e:PE)(r:PL):PL:=fun c V (J:S5) k=>e c V J fun v J=>r c V J fun vs J=>k (v::vs) J
@[reducible] def aH (r:PL):PE:=fun c V (J:S5) k=>r c V J fun vs J=>bif cq vs.length then k (.tup vs) J else .bad
@[reducible] def bo (r:PL):PE:=fun c V (J:S5) k=>r c V J fun vs J=>bif cq vs.length then k (.lst vs) J else .bad
noncomputable def cX:T->Option Bool
 |.none=>some false
 |.bool b=>some b
 |.int i=>some (i !=0)
 |_=>none
@[reducible] def qE (e:PE):PT:=p1 cX e
@[reducible] noncomputable def dW (t:PT):PT:=fun c V (J:S5) k=>t c V J fun b J=>k (!b) J
@[reducible] noncomputable def lh (t u:PT):PT:=fun c V (J:S5) k=>t c V J fun b J=>bif b then u c V J k else k false J
@[reducible] noncomputable def jp (t u:PT):PT:=fun c V (J:S5) k=>t c V J fun b J=>bif b then k true J else u c V J k
@[reducible] noncomputable def bB:PT:=fun _ _ (J:S5) k=>k true J
@[reducible] noncomputable def cN:PT:=fun _ _ (J:S5) k=>k false J
@[reducible] def sO (e:PE):PE:=p1 (fun t=>(cX t).map fun b=>.bool (!b)) e
@[reducible] def jv (d e:PE):PE:=fun c V (J:S5) k=>d c V J fun v J=>match cX v with
 |some true=>e c V J k
 |some false=>k v J
 |none=>.bad
@[reducible] def DB (d e:PE):PE:=fun c V (J:S5) k=>d c V J fun v J=>match cX v with
 |some true=>k v J
 |some false=>e c V J k
 |none=>.bad
@[reducible] noncomputable def Hx (t:PT)(d e:PE):PE:=fun c V (J:S5) k=>t c V J fun b J=>bif b then d c V J k else e c V J k
@[reducible] def aw (f:Nat)(args:PL):PE:=fun c V (J:S5) k=>args c V J fun vs J=>f8 (c.call f vs J) k
noncomputable def E9:T->Option Bool
 |.bool b=>some b
 |_=>none
noncomputable def iG:T->Option Int
 |.int i=>some i
 |_=>none
noncomputable def qp:T->Option Str
 |.str s=>some s
 |_=>none
noncomputable def lN:T->Option (List T)
 |.tup xs=>some xs
 |_=>none
noncomputable def fG:T->Option (List T)
 |.lst xs=>some xs
 |_=>none
noncomputable def De:T->Option (List Int)
 |.scr ns=>some ns
 |_=>none
noncomputable def el {α:Type}(x:Option α)(y:Option α):Option α:=match x with
 |some a=>some a
 |none=>y
noncomputable def o2 {α z g:Type}(x:Option α)(y:Option z)(f:α->z->Option g):Option g:=match x with
 |some a=>match y with
  |some b=>f a b
  |none=>none
 |none=>none
noncomputable def o1 {α z:Type}(x:Option α)(f:α->Option z):Option z:=match x with
 |some a=>f a
 |none=>none
def cQ (a b:T):Option Bool:=o2 (cu cG a) (cu cG b) fun d e=>some (PyData.eqv d e)
def iD (a b:T):Option Bool:=(cQ a b).map (!·)
noncomputable def oU {α:Type}(n:Nat)(x:α):Option α:=bif cq n then some x else none
def bx (a b:T):Option T:=match iG a with
 |some i=>o1 (iG b) fun j=>some (.int (i+j))
 |none=>match qp a with
  |some x=>o1 (qp b) fun y=>oU (x++y).length (.str (x++y))
  |none=>match lN a with
   |some x=>o1 (lN b) fun y=>oU (x++y).length (.tup (x++y))
   |none=>o2 (fG a) (fG b) fun x y=>oU (x++y).length (.lst (x++y))
def Aj (f:Int->Int->Option T)(a b:T):Option T:=o2 (iG a) (iG b) f
def dU:T->T->Option T:=Aj fun a b=>some (.int (a - b))
noncomputable def sm (i:Int):Bool:=Nat.ble i.natAbs 1000000000
@[irreducible] def iX:T->T->Option T:=Aj fun a b=>bif sm a||sm b then some (.int (a * b)) else none
@[irreducible] def dO:T->T->Option T:=Aj fun a b=>bif b==0||Nat.ble 1073741824 b.natAbs then none else some (.int (a.fdiv b))
@[irreducible] def bS:T->T->Option T:=Aj fun a b=>bif b==0 then none else some (.int (a.fmod b))
def mm (a:T):Option T:=o1 (iG a) fun i=>some (.int (-i))
def AG (f:Int->Int->Bool)(a b:T):Option Bool:=o2 (iG a) (iG b) fun i j=>some (f i j)
def ue:T->T->Option Bool:=AG fun a b=>decide (a < b)
def DD:T->T->Option Bool:=AG fun a b=>decide (a<=b)
def vA:T->T->Option Bool:=AG fun a b=>decide (a > b)
def DE:T->T->Option Bool:=AG fun a b=>decide (a ≥ b)
def iM (a:T):Option (List T):=el (lN a) (fG a)
def nc (xs:List T):Option (List PyData):=fi (cu cG) xs
def lr (a b:T):Option Bool:=o1 (iM b) fun xs=>o2 (cu cG a) (nc xs) fun d es=>some (es.any fun y=>PyData.eqv y d)
def iz (a b:T):Option Bool:=(lr a b).map (!·)
def zi (i:Int)(xs:List T):Option T:=bif sm i then o1 (seqIndex? i xs.length) fun j=>xs[j]? else none
def tO (i:Int)(x:Str):Option T:=bif sm i then ((seqIndex? i x.length).bind (x.cps[·]?)).map fun c=>T.str ⟨#[c]⟩ else none
def aA (a b:T):Option T:=o1 (iG b) fun i=>match iM a with
 |some xs=>zi i xs
 |none=>match De a with
  |some ns=>zi i (ns.map T.int)
  |none=>o1 (qp a) (tO i)
@[irreducible] def cg (a:T)(lo hi:Option Int):Option T:=match lN a with
 |some xs=>some (.tup (cut lo hi xs))
 |none=>match fG a with
  |some xs=>some (.lst (cut lo hi xs))
  |none=>o1 (qp a) fun x=>some (.str (fB lo hi x))
def bJ (a:T):Option T:=match iM a with
 |some xs=>some (.int xs.length)
 |none=>match De a with
  |some xs=>some (.int xs.length)
  |none=>o1 (qp a) fun x=>some (.int x.length)
def gR (a:T):Option T:=o1 (iM a) fun xs=>some (.lst xs)
def j2 (a:T):Option T:=o1 (fG a) fun xs=>some (.tup xs)
def eG (a v:T):Option T:=o1 (fG a) fun xs=>o2 (cu cG v) (nc xs) fun d es=>o1 (es.findIdx? fun y=>PyData.eqv y d) fun i=>some (.int i)
@[reducible] noncomputable def am:PS:=fun _ V (J:S5) k=>k V J
@[reducible] noncomputable def ai (a b:PS):PS:=fun c V (J:S5) k=>a c V J fun V J=>b c V J k
@[reducible] noncomputable def aI (i:Nat)(e:PE):PS:=fun c V (J:S5) k=>e c V J fun v J=>k (V.set i (some v)) J
@[reducible] def bR (t:PT)(a b:PS):PS:=fun c V (J:S5) k=>t c V J fun q J=>bif q then a c V J k else b c V J k
@[reducible] noncomputable def aF (e:PE):PS:=fun c V (J:S5) _=>e c V J fun v J=>.ret v J
@[reducible] noncomputable def jc (e:PE):PS:=fun c V (J:S5) k=>e c V J fun _ J=>k V J
@[reducible] noncomputable def gu:PS:=fun _ _ _ _=>.bad
@[reducible] def FA (x:Nat)(r:PL):PS:=fun c V J _=>r c V J fun vs J=>bif cq vs.length then .exc x J else .bad
noncomputable def c5:List Nat->List T->aY->Option aY
 | [],[],V=>some V
 |i::is,v::vs,V=>c5 is vs (V.set i (some v))
 |_,_,_=>none
@[reducible] def GW (is:List Nat)(e:PE):PS:=fun c V J k=>e c V J fun v J=>match v with
 |.tup ts=>up (c5 is ts V) J k
 |_=>.bad
noncomputable abbrev PB:=T->aY->Option aY
@[reducible] noncomputable def bz (i:Nat):PB:=fun v V=>some (V.set i (some v))
@[reducible] noncomputable def zm (i j:Nat):PB:=fun v V=>match v with
 |.tup [a,b]=>some ((V.set i (some a)).set j (some b))
 |_=>none
noncomputable def dB (bd:PB)(body:PS)(c:jQ):List T->aY->Sg->PK aY->du
 | [],V,J,k=>k V J
 |v::r,V,J,k=>match bd v V with
  |none=>.bad
  |some ρ'=>body c ρ' J fun V J=>dB bd body c r V J k
theorem yo {bd:PB}{body:PS}{c:jQ}{v:T}{r:List T}{V:aY}{J:Sg}{k:PK aY}:dB bd body c (v::r) V J k=(match bd v V with
  |none=>.bad
  |some ρ'=>body c ρ' J fun V J=>dB bd body c r V J k):=rfl
@[reducible] def dv (it:PL)(bd:PB)(body:PS):PS:=fun c V (J:S5) k=>it c V J fun xs J=>dB bd body c xs V J k
@[irreducible] noncomputable def iJ (t:PT)(body:PS)(c:jQ):Nat->aY->Sg->PK aY->du
 | 0,_,_,_=>.bad
 |n+1,V,J,k=>t c V J fun b J=>bif b then body c V J fun V J=>iJ t body c n V J k else k V J
theorem qA {t:PT}{body:PS}{c:jQ}{n:Nat}{V:aY}{J:Sg}{k:PK aY}:iJ t body c (n+1) V J k=t c V J fun b J=>bif b then body c V J fun V J=>iJ t body c n V J k else k V J:=by with_unfolding_all rfl
theorem wg {t:PT}{body:PS}{c:jQ}{V:aY}{J:Sg}{k:PK aY}:iJ t body c 0 V J k=.bad:=by with_unfolding_all rfl
@[reducible] def gr (n:Nat)(t:PT)(body:PS):PS:=fun c V (J:S5) k=>iJ t body c n V J k
@[irreducible] noncomputable def bO (bd:PB)(cond:PT)(elt:PE)(c:jQ)(V:aY):List T->Sg->List T->PK (List T)->du
 | [],J,acc,k=>k acc J
 |v::r,J,acc,k=>match bd v V with
  |none=>.bad
  |some ρ'=>cond c ρ' J fun b J=>bif b then elt c ρ' J fun x J=>bO bd cond elt c V r J (acc++[x]) k else bO bd cond elt c V r J acc k
theorem qh {bd:PB}{cond:PT}{elt:PE}{c:jQ}{V:aY}{J:Sg}{acc:List T}{k:PK (List T)}:bO bd cond elt c V [] J acc k=k acc J:=by with_unfolding_all rfl
theorem lJ {bd:PB}{cond:PT}{elt:PE}{c:jQ}{V:aY}{v:T}{r:List T}{J:Sg}{acc:List T}{k:PK (List T)}:bO bd cond elt c V (v::r) J acc k=(match bd v V with
  |none=>.bad
  |some ρ'=>cond c ρ' J fun b J=>bif b then elt c ρ' J fun x J=>bO bd cond elt c V r J (acc++[x]) k else bO bd cond elt c V r J acc k):=by with_unfolding_all rfl
@[reducible] def bv (it:PL)(bd:PB)(cond:PT)(elt:PE):PE:=fun c V (J:S5) k=>it c V J fun xs J=>bO bd cond elt c V xs J [] fun ys J=>k (.lst ys) J
@[reducible] def bK (e:PE):PL:=p1 iM e
noncomputable def em (a b c:Int):List T:=(List.range (Builtin.Range.rangeSize a b c).toNat).map fun k=>T.int (a+(k:Nat) * c)
def rg (a n:Int):Option (List T):=bif (sm a&&sm n)&&cq (em a n 1).length then some (em a n 1) else none
@[irreducible] def zd:List T->Option (List T)
 | []=>none
 |m::r=>match r with
  | []=>o1 (iG m) (rg 0)
  |n::r=>match r with
   | []=>o2 (iG m) (iG n) rg
   |_::_=>none
@[reducible] def c9 (r:PL):PL:=p1 zd r
noncomputable def k8:Nat->List T->List T
 |_,[]=>[]
 |n,x::r=>.tup [.int n,x]::k8 (n+1) r
def Hg (t:T):Option (List T):=o1 (fG t) fun xs=>some (k8 0 xs)
@[reducible] def rt (e:PE):PL:=p1 Hg e
def dC (x v:T):Option T:=o1 (fG x) fun xs=>oU (xs.length+1) (.lst (xs++[v]))
def jH (x v:T):Option T:=o2 (fG x) (fG v) fun xs ys=>oU (xs.length+ys.length) (.lst (xs++ys))
noncomputable def oK (f:Nat):Bool:=Nat.ble 1000 f
noncomputable def lC (f:Nat):Bool:=Nat.ble 500 f&&Nat.ble f 599
structure eP where
 np:Nat
 ns:Nat
 body:PS
noncomputable def frame (ts:List T)(n:Nat):aY:=ts.map some++replicate n none
def af (Y:Nat->Option eP):Nat->Nat->List T->Sg->du
 | 0,_,_,_=>.bad
 |n+1,f,args,J=>match Y f with
  |none=>.bad
  |some F=>bif Nat.beq args.length F.np then
    match F.body ⟨af Y n⟩ (frame args F.ns) J fun _ J=>bif lC f then .bad else .ret .none J with
    |.ret t J=>.ret t J
    |.exc c J=>.exc c J
    |_=>.bad
   else .bad
theorem uD {Y:Nat->Option eP}{n f:Nat}{args:List T}{J:Sg}:af Y (n+1) f args J=(match Y f with
  |none=>.bad
  |some F=>bif Nat.beq args.length F.np then
    match F.body ⟨af Y n⟩ (frame args F.ns) J fun _ J=>bif lC f then .bad else .ret .none J with
    |.ret t J=>.ret t J
    |.exc c J=>.exc c J
    |_=>.bad
   else .bad):=rfl
inductive BT where
 |list |bool |int |str |tuple
noncomputable def BT.id:BT->String
 |.list=>"list" |.bool=>"bool" |.int=>"int" |.str=>"str" |.tuple=>"tuple"
noncomputable def BT.nm (T:BT):Str:=ofString T.id
inductive MK where
 |list |str |tuple
noncomputable def MK.id:MK->String
 |.list=>"list" |.str=>"str" |.tuple=>"tuple"
noncomputable def pQ (κs:List Ky)(H:Ky):Option Nat:=κs.findIdx? fun x=>decide (x=H)
noncomputable def ma {α:Type}(i:Option Nat)(k v:α)(ks vs:List α):List α×List α:=match i with
 |some i=>(ks,vs.set i v)
 |none=>(ks++[k],vs++[v])
noncomputable def isN:T->Bool
 |.none=>true
 |_=>false
def yb (a b:T):Option Bool:=bif isN b then some (isN a) else none
def dA (t:T):Option (Option Int):=o1 (iG t) fun i=>some (some i)
def dT:List T->Option (List Bool)
 | []=>some []
 |t::r=>o2 (cX t) (dT r) fun b bs=>some (b::bs)
def Fa (f:List Bool->Bool)(t:T):Option T:=o1 (fG t) fun ts=>o1 (dT ts) fun bs=>some (.bool (f bs))
def yU:T->Option T:=Fa (·.any id)
def iH:T->Option T:=Fa (·.all id)
def oO (t:T):Option T:=o1 (E9 t) fun b=>some (.int (if b then 1 else 0))
noncomputable def F8 (X:BT):T->Option Bool
 |.bool _=>some (match X with |.bool |.int=>true |_=>false)
 |.int _=>some (match X with |.int=>true |_=>false)
 |.str _=>some (match X with |.str=>true |_=>false)
 |.tup _=>some (match X with |.tuple=>true |_=>false)
 |.lst _=>some (match X with |.list=>true |_=>false)
 |.none=>some false
 |.dct us _=>bif us.isEmpty then some false else none
 |_=>none
def eF (X:BT)(t:T):Option T:=o1 (F8 X t) fun b=>some (.bool b)
def kT (K:MK)(t:T):Bool:=match K with
 |.list=>(fG t).isSome
 |.str=>(qp t).isSome
 |.tuple=>(lN t).isSome
@[reducible] def xb (K:MK)(F:T->T->Option T)(l r:PE):PE:=fun c V J k=>l c V J fun a J=>gd (kT K a) (r c V J fun b J=>up (F a b) J k)
def tf (a v:T):Option T:=o1 (fG a) fun xs=>o2 (cu cG v) (nc xs) fun d es=>some (.int ((es.countP fun y=>PyData.eqv y d:Nat):Int))
def wz:List T->Option (List Str)
 | []=>some []
 |t::r=>o2 (qp t) (wz r) fun x xs=>some (x::xs)
def uk (a b:T):Option T:=o2 (qp a) (fG b) fun sep ts=>o1 (wz ts) fun xs=>bif JoinOk sep xs&&PyData.strOk (Txt.join sep xs)&&cq (Txt.join sep xs).length then some (.str (Txt.join sep xs)) else none
def o5 (a b:T):Option T:=o2 (qp a) (qp b) fun x y=>bif !(y.length==0)&&cq (Txt.split x y).length&&(Txt.split x y).all (fun t=>PyData.strOk t&&decide (t.length<=lim)) then some (.lst ((Txt.split x y).map T.str)) else none
@[irreducible] def uX (a b:T):Option T:=o2 (fG a) (iG b) fun xs k=>bif decide (0<=k)&&(decide (k<=1000)&&Nat.ble xs.length 1000) then some (.lst (replicate k.toNat xs).flatten) else none
def AI (t:T):Option (List T):=o1 (qp t) fun x=>bif x.cps.all (· < 128) then some (x.cps.toList.map fun c=>T.str ⟨#[c]⟩) else none
def Ew (a b:T):Option Bool:=o2 (qp a) (qp b) fun y x=>some (Txt.contains x y)
@[reducible] def jb (i:Nat)(F:T->T->Option T)(e:PE):PS:=fun c V (J:S5) k=>match b9 V i with
 |some x=>gd (kT .list x) (e c V J fun v J=>up (F x v) J fun y J=>k (V.set i (some y)) J)
 |none=>.bad
def jT:Nat->T->Option Ky
 |_,.int i=>some (.int i)
 |_,.bool b=>some (.int (uF b))
 |_,.str s=>some (.str s)
 |n+1,.tup xs=>o1 (go (jT n) xs) fun ks=>some (.tup ks)
 |_,_=>none
where go (f:T->Option Ky):List T->Option (List Ky)
 | []=>some []
 |x::r=>o2 (f x) (go f r) fun k ks=>some (k::ks)
theorem Bd {n:Nat}{xs:List T}:jT (n+1) (.tup xs)=o1 (jT.go (jT n) xs) fun ks=>some (.tup ks):=rfl
theorem vB {f:T->Option Ky}{x:T}{r:List T}:jT.go f (x::r)=o2 (f x) (jT.go f r) fun k ks=>some (k::ks):=rfl
def xT (t:T):Option Ky:=o1 (lN t) fun xs=>jT 6 (.tup xs)
def fy (us:List T):Option (List Ky):=jT.go xT us
noncomputable def AQ:T->Option (List T×List T)
 |.dct us ts=>some (us,ts)
 |_=>none
def kA (us:List T)(k:T):Option (Option Nat):=o2 (fy us) (xT k) fun κs H=>some (pQ κs H)
def Bj (a b:T):Option Bool:=o1 (AQ b) fun p=>o1 (kA p.1 a) fun i=>some i.isSome
def idxD (a k:T):Option T:=o1 (AQ a) fun p=>o1 (kA p.1 k) fun i=>o1 i fun j=>p.2[j]?
def GO (a:T):Option T:=o1 (AQ a) fun p=>some (.int p.1.length)
def mZ:List T->List T->List T->Option (List T×List T)
 | [],us,ts=>some (us,ts)
 |x::r,us,ts=>o1 (lN x) fun ps=>match ps with
  | [k,v]=>o1 (kA us k) fun i=>mZ r (ma i k v us ts).1 (ma i k v us ts).2
  |_=>none
def rE (a:T):Option T:=o1 (fG a) fun xs=>o1 (mZ xs [] []) fun p=>some (.dct p.1 p.2)
@[reducible] def zo (i:Nat)(F:T->T->T->Option T)(j e:PE):PS:=fun c V (J:S5) k=>e c V J fun v J=>match b9 V i with
 |some x=>j c V J fun H J=>up (F x H v) J fun y J=>k (V.set i (some y)) J
 |none=>.bad
def G9 (x H v:T):Option T:=o2 (fG x) (iG H) fun xs i=>bif decide (0<=i)&&decide (i < xs.length) then some (.lst (xs.set i.toNat v)) else none
def er (x H v:T):Option T:=o1 (AQ x) fun p=>o1 (kA p.1 H) fun i=>oU (p.1.length+1) (.dct (ma i H v p.1 p.2).1 (ma i H v p.1 p.2).2)
noncomputable def bX:Nat->List Str
 | 0=>[ofString "names",ofString "roads",ofString "firsts"]
 | 10=>[ofString "bonds",ofString "promises",ofString "machine",ofString "known",ofString "knots",ofString "begun",ofString "threads"]
 |_=>[]
noncomputable def gQ:Nat->Nat->Bool
 | 10,3=>true
 | 10,4=>true
 | 10,6=>true
 |_,_=>false
@[reducible] def wY (j:Nat)(is:List Nat):PS:=fun _ V J k=>up (o1 (b9 V j) fun x=>o1 (fG x) fun xs=>o1 xs.getLast? fun t=>o1 (lN t) fun ts=>c5 is ts (V.set j (some (.lst xs.dropLast)))) J k
@[reducible] def oE (j i:Nat):PS:=fun _ V J k=>up (o1 (b9 V j) fun x=>o1 (fG x) fun xs=>o1 xs.head? fun y=>some ((V.set j (some (.lst xs.tail))).set i (some y))) J k
noncomputable def Fu (c:Nat):T->Option (List T)
 |.obj c' ts=>bif Nat.beq c' c then some ts else none
 |_=>none
def nR (c i:Nat)(t:T):Option T:=o1 (Fu c t) fun ts=>ts[i]?
def G8 (c i:Nat)(J:Sg):T->Option T
 |.self=>o1 J.self fun p=>bif Nat.beq p.1 c&&!gQ c i then p.2[i]? else none
 |t=>nR c i t
@[reducible] def e8 (c i:Nat):PE:=fun _ V J k=>up (o1 (b9 V 0) (G8 c i J)) J k
@[reducible] def ua (c f:Nat)(o:PE)(args:PL):PE:=fun cx V (J:S5) k=>o cx V J fun t J=>gd (Fu c t).isSome (args cx V J fun ts J=>f8 (cx.call f (t::ts) J) k)
def yc (c:Nat)(V:aY)(J:Sg):Bool:=match b9 V 0 with
 |some .self=>match J.self with
  |some p=>Nat.beq p.1 c
  |none=>false
 |_=>false
@[reducible] def sN (c f:Nat)(args:PL):PE:=fun cx V (J:S5) k=>gd (yc c V J) (args cx V J fun ts J=>f8 (cx.call f (.self::ts) J) k)
noncomputable def Sg.fld (J:Sg)(i:Nat)(y:T):Sg:=⟨J.spot,J.self.map fun p=>(p.1,p.2.set i y)⟩
def ej (c i:Nat)(V:aY)(J:Sg):Option T:=bif yc c V J&&gQ c i then o1 J.self fun p=>p.2[i]? else none
noncomputable def Sg.push (J:Sg)(y:T):Sg:=⟨J.spot,J.self.map fun p=>(p.1,p.2++[y])⟩
def Bz (c i:Nat)(V:aY)(J:Sg):Bool:=yc c V J&&(match J.self with
 |some p=>Nat.beq p.2.length i
 |none=>false)
@[reducible] def sM (c i:Nat)(e:PE):PS:=fun cx V J k=>e cx V J fun v J=>gd (Bz c i V J) (k V (J.push v))
@[irreducible] def og (c:Nat)(o:du)(k:PK T):du:=match o with
 |.ret t J=>bif isN t then (match J.self with
   |some p=>bif Nat.beq p.1 c then k (.obj c p.2) ⟨J.spot,none⟩ else .bad
   |none=>.bad) else .bad
 |_=>.bad
@[reducible] def qV (c f:Nat)(args:PL):PE:=fun cx V (J:S5) k=>args cx V J fun ts J=>match J.self with
 |some _=>.bad
 |none=>og c (cx.call f (.self::ts) ⟨J.spot,some (c,[])⟩) k
def pT (V:aY)(i:Nat):Bool:=match b9 V i with
 |some .spot=>true
 |_=>false
@[reducible] def oG (i:Nat):PE:=fun _ V J k=>gd (pT V i) (k (.int J.spot) J)
@[reducible] def ju (i:Nat)(e:PE):PS:=fun cx V J k=>e cx V J fun v J=>gd (pT V i) (match iG v with
 |some n=>k V ⟨n,J.self⟩
 |none=>.bad)
@[reducible] noncomputable def mj (F G:T->T->Option Bool)(l m r:PE):PT:=fun c V J k=>l c V J fun a J=>m c V J fun b J=>match F a b with
 |some true=>r c V J fun x J=>up (G b x) J k
 |some false=>k false J
 |none=>.bad
def eC (a b:T):Option Bool:=(Bj a b).map (!·)
def Ev (a b:T):Option Bool:=(yb a b).map (!·)
def sF (a:T):Option T:=o1 (fG a) fun xs=>some (.lst xs.reverse)
def tr:List T->Option (List Bool)
 | []=>some []
 |t::r=>o2 (E9 t) (tr r) fun b bs=>some (b::bs)
def GV (f:Bool->Bool->Bool)(a b:T):Option T:=o2 (fG a) (fG b) fun xs ys=>o2 (tr xs) (tr ys) fun bs cs=>some (.lst ((List.zipWith f bs cs).map T.bool))
def dn (a n c:Int):Option (List T):=bif (sm a&&sm n&&decide (c=-1))&&cq (em a n (-1)).length then some (em a n (-1)) else none
@[irreducible] def Hk:List T->Option (List T)
 | []=>none
 |m::r=>match r with
  | []=>none
  |n::r=>match r with
   | []=>none
   |l::r=>match r with
    | []=>o2 (iG m) (iG n) fun a b=>o1 (iG l) (dn a b)
    |_::_=>none
@[reducible] def Hz (r:PL):PL:=p1 Hk r
def ku (ks:List T)(kn:T):List T->List (List T)->Option (List (List T))
 | [],ds=>some ds
 |o::r,ds=>o1 (kA ks o) fun i=>o1 i fun j=>o1 ds[j]? fun l=>bif cq (l.length+1) then ku ks kn r (ds.set j (l++[kn])) else none
def rj (ks:List T)(th:T):List T->List (List T)->Option (List (List T))
 | [],ds=>some ds
 |kn::r,ds=>o1 (idxD th kn) fun l=>o1 (fG l) fun os=>o1 (ku ks kn os ds) fun ds=>rj ks th r ds
def eH:List T->List T->Bool
 | [],_=>true
 |k::r,us=>match kA us k with
  |some none=>eH r (us++[k])
  |_=>false
theorem Cx {ks:List T}{kn o:T}{r:List T}{ds:List (List T)}:ku ks kn (o::r) ds=o1 (kA ks o) fun i=>o1 i fun j=>o1 ds[j]? fun l=>bif cq (l.length+1) then ku ks kn r (ds.set j (l++[kn])) else none:=rfl
theorem Cw {ks:List T}{th kn:T}{r:List T}{ds:List (List T)}:rj ks th (kn::r) ds=o1 (idxD th kn) fun l=>o1 (fG l) fun os=>o1 (ku ks kn os ds) fun ds=>rj ks th r ds:=rfl
theorem mH {k:T}{r us:List T}:eH (k::r) us=(match kA us k with
  |some none=>eH r (us++[k])
  |_=>false):=rfl
def xP (w:T):Option T:=o1 (nR 10 4 w) fun kl=>o1 (fG kl) fun ks=>o1 (nR 10 6 w) fun th=>bif cq ks.length&&eH ks [] then o1 (rj ks th ks (ks.map fun _=>[])) fun ds=>some (.dct ks (ds.map .lst)) else none
@[reducible] def uI:PS:=fun _ V J _=>match b9 V 0 with
 |some w=>match xP w with
  |some t=>.ret t J
  |none=>.bad
 |none=>.bad
@[reducible] noncomputable def mi:PO:=fun _ _ (J:S5) k=>k none J
@[reducible] def qy (is:List Nat)(e:PE):PS:=fun c V (J:S5) k=>e c V J fun v J=>up (o1 (lN v) fun ts=>c5 is ts V) J k
@[reducible] noncomputable def sP:PE:=fun _ _ (J:S5) k=>k (.dct [] []) J
@[reducible] def pE (c i:Nat):PE:=fun _ V J k=>up (ej c i V J) J k
@[reducible] def Cg (c i:Nat)(F:T->T->Option T)(q:PE):PE:=fun cx V J k=>match ej c i V J with
 |some t=>q cx V ⟨J.spot,none⟩ fun s J'=>up (F t s) ⟨J'.spot,J.self⟩ k
 |none=>.bad
@[reducible] def qX (c i:Nat)(q:PE):PS:=fun cx V J k=>match ej c i V J with
 |some t=>gd (kT .list t) (q cx V ⟨J.spot,none⟩ fun v J'=>up (dC t v) ⟨J'.spot,J.self⟩ fun y J=>k V (J.fld i y))
 |none=>.bad
@[reducible] def qW (c i:Nat)(q e:PE):PS:=fun cx V J k=>e cx V J fun v J=>match ej c i V J with
 |some t=>q cx V ⟨J.spot,none⟩ fun H J'=>up (er t H v) ⟨J'.spot,J.self⟩ fun y J=>k V (J.fld i y)
 |none=>.bad
@[reducible] def pG (c i:Nat)(zb:PB)(elt:PE):PE:=fun cx V J k=>match o1 (ej c i V J) fG with
 |some xs=>bO zb bB elt cx V xs ⟨J.spot,none⟩ [] fun ys J'=>k (.lst ys) ⟨J'.spot,J.self⟩
 |none=>.bad
end
end Mine
end
namespace Mine
noncomputable section
open PySem
noncomputable def GK:Nat->T->Bool
 |n+1,.tup ts=>ts.all (GK n)
 |_,.none=>true
 |_,.bool _=>true
 |_,.int _=>true
 |_,.str _=>true
 |_,_=>false
def GL (t:T):Bool:=(fG t).elim false fun ts=>ts.all (GK 4)&&cq (ts.length+1)
def Hy (t:T):Option T:=bif GL t then some t else none
def Ep (t:T):T:=(fG t).elim t fun ts=>.lst (ts++[.str (ofString "more")])
def CD (t:T):Bool:=(lN t).elim false fun us=>(us.head?.bind qp).isSome&&(us.tail.all GL&&cq us.length)
def DM (t:T):T:=(lN t).elim t fun us=>.tup (us.take 1++us.tail.map Ep)
def GX (iF iK iP:Nat)(pr:PS)(c:jQ)(V:aY)(k:PK aY)(v:T):PK T:=fun kv J=>gd J.self.isNone (pr c ((((V.set iF none).set iK (some kv)).set iP none).set iF (some (DM v))) J k)
def GY (iF iK iP:Nat)(e3:PE)(pr:PS)(c:jQ)(V:aY)(k:PK aY)(v:T):PK Bool:=fun b J=>gd (!b&&J.self.isNone) (e3 c (V.set iF (some v)) J (GX iF iK iP pr c V k v))
def GZ (iF iK iP:Nat)(q2:PT)(e3:PE)(pr:PS)(c:jQ)(V:aY)(k:PK aY):PK T:=fun v J=>gd (J.self.isNone&&CD v) (q2 c (V.set iF (some v)) J (GY iF iK iP e3 pr c V k v))
def Gw (iF iK iP:Nat)(e1:PE)(q2:PT)(e3:PE)(pr:PS):PS:=fun c V J k=>e1 c V J (GZ iF iK iP q2 e3 pr c V k)
def GD:List T->List T->Int->Option (Option T)
 | [],_,_=>some none
 |u::us,ts,k=>o1 (iG u) fun i=>match ts with
  | []=>none
  |t::ts=>bif decide (i=k) then some (some t) else GD us ts k
def G6 (x H v:T):Option (T×T):=o2 (AQ x) (iG H) fun p i=>o1 (GD p.1 p.2 i) fun o=>match o with
 |some r=>some (r,x)
 |none=>oU (p.1.length+1) (v,.dct (p.1++[H]) (p.2++[v]))
@[reducible] def Fy (i:Nat)(ke ve we:PE)(b:PS):PS:=fun c V J k=>match b9 V i with
 |some d=>gd (AQ d).isSome (ke c V J fun H J=>ve c V J fun v J=>up (G6 d H v) J fun r J=>we c (V.set i (some r.2)) J fun w J=>up (iD r.1 w) J fun f J=>bif f then b c (V.set i (some r.2)) J k else k (V.set i (some r.2)) J)
 |none=>.bad
@[reducible] def Hw (i:Nat)(q:PT)(ke ve we:PE)(b:PS):PS:=bR q b (Fy i ke ve we b)
end
end Mine
namespace Mine
noncomputable section
open PySem PyProof.Rows
def yf:List T->Option (List Int)
 | []=>some []
 |x::r=>o2 (iG x) (yf r) fun i is=>some (i::is)
noncomputable def oj:List Int->Int
 | []=>0
 | [x]=>x
 |x::r=>max x (oj r)
def vg (a:T):Option T:=o1 (fG a) fun xs=>o1 (yf xs) fun is=>bif is.isEmpty then none else some (.int (oj is))
theorem xF (x y:Int)(r:List Int):oj (x::y::r)=max x (oj (y::r)):=rfl
theorem rd:∀{l:List Int},l≠[]->oj l∈l
 | [],h=>(h rfl).elim
 | [x],_=>.head _
 |x::y::r,_=>by
  rw [xF]
  rcases Int.le_total x (oj (y::r)) with q |q
  .rw [max_eq_right q];exact .tail _ (rd (fun h=>nomatch h))
  .rw [Int.max_eq_left q];exact .head _
theorem ud:∀{l:List Int} {x:Int},x∈l->x<=oj l
 | [x],_,.head _=>Int.le_refl _
 |x::y::r,z,h=>by
  rw [xF]
  rcases an h with rfl |h
  .exact Int.le_max_left _ _
  .exact Int.le_trans (ud h) (Int.le_max_right _ _)
theorem zW {l:List Int}{m:Int}(h:m∈l)(k:∀a∈l,a<=m):oj l=m:=Int.le_antisymm (k _ (rd fun q=>by rw [q] at h;cases h)) (ud h)
end
end Mine
section
set_option tactic.hygienic false
set_option backward.eqns.nonrecursive false
namespace Mine
noncomputable section
open PySem
structure Pg where
 prog:Program
 w:World
 h₀:Heap
 cls:Nat->Addr
 Ψ:Nat->Option eP
 fnA:Nat->Addr
 fd:Nat->FuncData
 gl:Nat->Bool
 mg:Str->Option Value
 mb:Str->Option Value
noncomputable abbrev Pg.M (P:Pg):Model:=model P.prog P.w
noncomputable abbrev Pg.cx (P:Pg)(n:Nat):jQ:=⟨af P.Ψ n⟩
structure Gh where
 F:Addr->Prop
 Z:Addr->Prop
 o:Nat->Option Addr
 sp:Addr
 sa:Addr
def Gh.O (g:Gh)(a:Addr):Prop:=∃i,g.o i=some a
noncomputable abbrev gn (vs:Array Value)(n:Nat):Obj:=⟨.type "tuple",none,.seq vs n,#[]⟩
noncomputable abbrev aX (vs:Array Value)(n:Nat):Obj:=⟨.type "list",none,.seq vs n,#[]⟩
structure Fi (P:Pg) (c:Nat) (dx:Addr) (o:Obj):Prop where
 cls:o.cls=.ref (P.cls c)
 dict:o.dict=some dx
 no:∀k,o.data≠.cls k
structure si (c:Nat) (m:Str->Option Value) (us:List Value):Prop where
 no:∀x,x∉bX c->m x=none
 at_:∀(i:Nat) (x:Str) (u:Value),us[i]?=some u->(bX c)[i]?=some x->m x=some u
structure GU (w:World) (ks:List T) (o:Obj) (es:List DictEntry):Prop where
 x:o.ExactDict
 d:∃ep,o.data=.dict es.toArray ep
 k:∃H,fy ks=some H/\es.map (·.hash)=H.map (Ky.hash w)/\H.Nodup
 l:ks.length<=lim
noncomputable def oZ:List Int->List Value->Prop
 | [],vs=>vs=[]
 |i::is,vs=>∃t vs',vs=.int i t::vs'/\oZ is vs'
theorem ao {h:Heap}{a:Addr}{o:Obj}(e:h.get? a=some o):h.get? a≠none:=fun q=>by rw [e] at q;cases q
inductive Fz (g:Gh) (O:Addr->Prop) (x:Value):Prop
 |mk (a:Addr) (e:x=.ref a) (f:g.F a) (o:O a)
inductive wc (h:Heap) (ob:Array Value->Nat->Obj) (R:List Value->Prop) (k:Nat) (a:Addr):Prop
 |mk (vs:Array Value) (n:Nat) (e:h.get? a=some (ob vs n)) (l:k<=lim) (r:R vs.toList)
inductive tJ (P:Pg) (h:Heap) (us:List T) (R R':List Value->Prop) (a:Addr):Prop
 |mk (q:(a==sysModules)=false) (o:Obj) (es:List DictEntry) (e:h.get? a=some o) (d:GU P.w us o es) (r:R (es.map (·.key))) (r':R' (es.map (·.val)))
 |ix (q:(a==sysModules)=false) (kvs:List (Int×Value)) (d:h.DictOf (intKind P.prog P.w) a kvs) (e:us=kvs.map fun p=>.int p.1) (l:kvs.length<=lim) (ne:kvs≠[]) (r':R' (kvs.map (·.2)))
inductive dS (P:Pg) (h:Heap) (c:Nat) (m:Str->Option Value) (dx a:Addr):Prop
 |mk (o:Obj) (e:h.get? a=some o) (k:Fi P c dx o) (n:h.Ns1 dx m) (ne:dx≠a)
inductive Fw (P:Pg) (g:Gh) (h:Heap) (c:Nat) (R:List Value->Prop) (a:Addr):Prop
 |mk (dx:Addr) (m:Str->Option Value) (us:List Value) (f:g.F dx) (i:dS P h c m dx a) (k:si c m us) (r:R us)
inductive GR (P:Pg) (ns:List Int) (x:Value):Prop
 |mk (a:Addr) (items:Array Value) (e:x=.ref a) (l:P.h₀.IsList a items) (b:items.size<=lim) (r:oZ ns items.toList)
mutual
noncomputable def Rp (P:Pg)(g:Gh)(h:Heap):T->Value->Prop
 |.none,x=>x=.none
 |.bool b,x=>x=.bool b
 |.int i,x=>∃t,x=.int i t
 |.str s,x=>(PyData.strOk s=true/\s.length<=lim)/\∃t,x=.str s t
 |.scr ns,x=>GR P ns x
 |.tup ts,x=>Fz g (wc h gn (aO P g h ts) ts.length) x
 |.lst ts,x=>Fz g (wc h aX (aO P g h ts) ts.length) x
 |.dct us ts,x=>Fz g (tJ P h us (aO P g h us) (aO P g h ts)) x
 |.obj c ts,x=>Fz g (Fw P g h c (aO P g h ts)) x
 |.spot,x=>x=.ref g.sp
 |.self,_=>False
termination_by structural t=>t
noncomputable def aO (P:Pg)(g:Gh)(h:Heap):List T->List Value->Prop
 | [],vs=>vs=[]
 |t::ts,vs=>∃v vs',vs=v::vs'/\Rp P g h t v/\aO P g h ts vs'
termination_by structural t=>t
end
noncomputable def hY (P:Pg)(g:Gh)(h:Heap)(a:Addr):T->Prop
 |.lst ts=>wc h aX (aO P g h ts) ts.length a
 |.dct us ts=>tJ P h us (aO P g h us) (aO P g h ts) a
 |_=>False
section
variable {P:Pg} {g g':Gh} {h h':Heap}
structure aN (g:Gh) (h:Heap) (g':Gh) (h':Heap):Prop where
 F:∀a,g.F a->g'.F a/\∀o,h.get? a=some o->h'.get? a=some o
 sp:g'.sp=g.sp
theorem wc.mono {ob:Array Value->Nat->Obj}{R R':List Value->Prop}{k:Nat}{a:Addr}(r:wc h ob R k a)(ha:∀o,h.get? a=some o->h'.get? a=some o)(q:∀v,R v->R' v):wc h' ob R' k a:=let ⟨vs,n,e,l,r⟩:=r;⟨vs,n,ha _ e,l,q _ r⟩
theorem tJ.mono {us:List T}{R R' S S':List Value->Prop}{a:Addr}(r:tJ P h us R S a)(ha:∀o,h.get? a=some o->h'.get? a=some o)(q:∀v,R v->R' v)(q':∀v,S v->S' v):tJ P h' us R' S' a:=
 r.casesOn (fun n o es e d r r'=>.mk n o es (ha _ e) d (q _ r) (q' _ r')) fun n kvs d e l ne r'=>.ix n kvs (let ⟨o,es,ep,ho,r⟩:=d;⟨o,es,ep,ha _ ho,r⟩) e l ne (q' _ r')
theorem Fz.mono {O O':Addr->Prop}{x:Value}(k:aN g h g' h')(r:Fz g O x)(q:∀a,(∀o,h.get? a=some o->h'.get? a=some o)->O a->O' a):Fz g' O' x:=let ⟨a,e,f,o⟩:=r;⟨a,e,(k.F a f).1,q a (k.F a f).2 o⟩
theorem dS.mono {c:Nat}{m:Str->Option Value}{dx a:Addr}(i:dS P h c m dx a)(ha:∀o,h.get? a=some o->h'.get? a=some o)(hd:∀o,h.get? dx=some o->h'.get? dx=some o):dS P h' c m dx a:=let ⟨o,e,k,n,ne⟩:=i;⟨o,ha _ e,k,n.at hd,ne⟩
theorem Fw.mono {c:Nat}{R R':List Value->Prop}{a:Addr}(k:aN g h g' h')(r:Fw P g h c R a)(ha:∀o,h.get? a=some o->h'.get? a=some o)(q:∀v,R v->R' v):Fw P g' h' c R' a:=let ⟨dx,m,us,f,i,i',r⟩:=r;⟨dx,m,us,(k.F dx f).1,i.mono ha (k.F dx f).2,i',q _ r⟩
theorem Rp.both (k:aN g h g' h'):(∀t v,Rp P g h t v->Rp P g' h' t v)/\∀t v,aO P g h t v->aO P g' h' t v:=
 have n:∀v,aO P g h [] v->aO P g' h' [] v:=fun _ h=>h
 have c:∀(t:T) (ts:List T),(∀v,Rp P g h t v->Rp P g' h' t v)->(∀v,aO P g h ts v->aO P g' h' ts v)->∀v,aO P g h (t::ts) v->aO P g' h' (t::ts) v:=fun _ _ h h' _ ⟨v,vs,e,r,r'⟩=>⟨v,vs,e,h v r,h' vs r'⟩
 have a:∀t v,Rp P g h t v->Rp P g' h' t v:=fun t=>T.rec (motive_1:=fun t=>∀v,Rp P g h t v->Rp P g' h' t v) (motive_2:=fun t=>∀v,aO P g h t v->aO P g' h' t v)
  (fun _ h=>h) (fun _ _ h=>h) (fun _ _ h=>h) (fun _ _ h=>h) (fun _ ih _ r=>Fz.mono k r fun _ ha r=>r.mono ha ih) (fun _ ih _ r=>Fz.mono k r fun _ ha r=>r.mono ha ih)
  (fun _ _ i1 i2 _ r=>Fz.mono k r fun _ ha r=>r.mono ha i1 i2) (fun _ _ ih _ r=>Fz.mono k r fun _ ha r=>r.mono k ha ih)
  (fun _ _ h=>h) (fun v h=>(show v=_ from h).trans (congrArg Value.ref k.sp.symm)) (fun _ h=>h) n c t
 ⟨a,fun t=>List.rec n (fun t ts h=>c t ts (a t) h) t⟩
theorem Rp.mono (k:aN g h g' h'){t:T}{x:Value}(r:Rp P g h t x):Rp P g' h' t x:=(Rp.both k).1 t x r
theorem aO.mono (k:aN g h g' h'){t:List T}{x:List Value}(r:aO P g h t x):aO P g' h' t x:=(Rp.both k).2 t x r
theorem hY.case {a:Addr}{p:T->Prop}(h1:∀ts,hY P g h a (.lst ts)->p (.lst ts))(h2:∀us ts,hY P g h a (.dct us ts)->p (.dct us ts)):∀{t:T},hY P g h a t->p t
 |.lst ts,h=>h1 ts h
 |.dct us ts,h=>h2 us ts h
theorem hY.mono (k:aN g h g' h'){a:Addr}(ha:∀o,h.get? a=some o->h'.get? a=some o){t:T}(r:hY P g h a t):hY P g' h' a t:=
 r.case (p:=hY P g' h' a) (fun _ r=>wc.mono r ha fun _=>aO.mono k) fun _ _ r=>tJ.mono r ha (fun _=>aO.mono k) fun _=>aO.mono k
theorem hY.rp {a:Addr}{t:T}(f:g.F a)(r:hY P g h a t):Rp P g h t (.ref a):=
 r.case (p:=fun t=>Rp P g h t (.ref a)) (fun _ h=>⟨a,rfl,f,h⟩) fun _ _ h=>⟨a,rfl,f,h⟩
theorem hY.live {a:Addr}{t:T}(r:hY P g h a t):h.get? a≠none:=
 r.case (p:=fun _=>h.get? a≠none) (fun _ r=>let ⟨_,_,e,_,_⟩:=r;ao e) fun _ _ r=>tJ.casesOn (motive:=fun _=>h.get? a≠none) r (fun _ _ _ e _ _ _=>ao e) fun _ _ d _ _ _ _=>let ⟨_,_,_,e,_⟩:=d;ao e
theorem aO.nil:aO P g h [] []:=rfl
theorem aO.cons {v:Value}{t:T}{vs:List Value}{ts:List T}(q:Rp P g h t v)(r:aO P g h ts vs):aO P g h (t::ts) (v::vs):=⟨v,vs,rfl,q,r⟩
theorem aO.length {ts:List T}:∀{vs:List Value},aO P g h ts vs->vs.length=ts.length:=by
 induction ts with
 |nil=>exact fun h=>congrArg List.length h
 |cons t ts ih=>exact fun ⟨v,vs,e,_,r⟩=>e▸congrArg (·+1) (ih r)
theorem aO.append {ts':List T}{vs':List Value}(r':aO P g h ts' vs'){ts:List T}:∀{vs:List Value},aO P g h ts vs->aO P g h (ts++ts') (vs++vs'):=by
 induction ts with
 |nil=>exact fun h=>(show _=[] from h)▸r'
 |cons t ts ih=>exact fun ⟨v,vs,e,h,r⟩=>e▸aO.cons h (ih r)
theorem aO.get {ts:List T}:∀{vs:List Value},aO P g h ts vs->∀{i:Nat} {t:T},ts[i]?=some t->∃v,vs[i]?=some v/\Rp P g h t v:=by
 induction ts with
 |nil=>exact fun _ _ _ e=>nomatch e
 |cons t ts ih=>
  rintro _ ⟨v,vs,rfl,q,r⟩ i u e
  cases i with
  |zero=>exact ⟨v,rfl,Option.some.inj e▸q⟩
  |succ i=>exact ih r (i:=i) e
theorem aO.drop (n:Nat){ts:List T}:∀{vs:List Value},aO P g h ts vs->aO P g h (ts.drop n) (vs.drop n):=by
 induction n generalizing ts with
 |zero=>exact fun h=>h
 |succ n ih=>cases ts with
  |nil=>exact fun h=>(show _=[] from h)▸rfl
  |cons t ts=>exact fun ⟨v,vs,e,h,r⟩=>e▸ih r
theorem aO.take (n:Nat){ts:List T}:∀{vs:List Value},aO P g h ts vs->aO P g h (ts.take n) (vs.take n):=by
 induction n generalizing ts with
 |zero=>exact fun _=>rfl
 |succ n ih=>cases ts with
  |nil=>exact fun h=>(show _=[] from h)▸rfl
  |cons t ts=>exact fun ⟨v,vs,e,h,r⟩=>e▸aO.cons h (ih r)
theorem aO.set {v:Value}{t:T}(q:Rp P g h t v)(n:Nat){ts:List T}:∀{vs:List Value},aO P g h ts vs->aO P g h (ts.set n t) (vs.set n v):=by
 induction n generalizing ts with
 |zero=>cases ts with
  |nil=>exact fun h=>(show _=[] from h)▸rfl
  |cons t ts=>exact fun ⟨v,vs,e,h,r⟩=>e▸aO.cons q r
 |succ n ih=>cases ts with
  |nil=>exact fun h=>(show _=[] from h)▸rfl
  |cons t ts=>exact fun ⟨v,vs,e,h,r⟩=>e▸aO.cons h (ih r)
end
inductive i8 (P:Pg) (g:Gh) (h:Heap) (c:Nat) (ts:List T):Prop
 |mk (dx:Addr) (m:Str->Option Value) (us:List Value) (i:dS P h c m dx g.sa) (z:g.Z g.sa) (z':g.Z dx) (ne:dx≠g.sp/\g.sa≠g.sp) (f:si c m us) (l:us.length=ts.length)
  (sh:∀(i:Nat) (u:Value) (t:T),us[i]?=some u->ts[i]?=some t->gQ c i=false->Rp P g h t u)
  (ow:∀(i:Nat) (u:Value) (t:T),us[i]?=some u->ts[i]?=some t->gQ c i=true->∃a,u=.ref a/\g.Z a/\(a≠dx/\a≠g.sa/\a≠g.sp)/\hY P g h a t)
  (nn:∀(i j:Nat) (a:Addr),us[i]?=some (.ref a)->us[j]?=some (.ref a)->gQ c i=true->gQ c j=true->i=j)
structure bf (P:Pg) (g:Gh) (h:Heap) (J:Sg):Prop where
 base:∀a o,P.h₀.get? a=some o->g.F a/\h.get? a=some o
 F:∀a,g.F a->h.get? a≠none
 Z:∀a,g.Z a->h.get? a≠none/\¬g.F a
 O:∀a,g.O a->h.get? a≠none/\¬g.F a/\¬g.Z a
 oo:∀i j a,g.o i=some a->g.o j=some a->i=j
 spot:(∃t n,h.get? g.sp=some (aX #[.int J.spot t] n))/\g.Z g.sp/\(J.self=none->∀a,g.Z a->a=g.sp)
 self:∀c ts,J.self=some (c,ts)->i8 P g h c ts
structure aC (g:Gh) (s:Shared) (g':Gh) (s':Shared):Prop where
 st:∃h' tk,s'={s with heap:=h',toks:=tk}
 keep:∀a o,s.heap.get? a=some o->¬g.Z a->s'.heap.get? a=some o
 back:∀a,s'.heap.get? a=none->s.heap.get? a=none
 F:∀a,g.F a->g'.F a
 Fn:∀a,g'.F a->g.F a\/s.heap.get? a=none
 Zn:∀a,g'.Z a->g.Z a\/s.heap.get? a=none
 o:g'.o=g.o
 sp:g'.sp=g.sp
 sa:g'.sa=g.sa
theorem St.trans {s s₁ s2:Shared}(p:∃h' tk,s₁={s with heap:=h',toks:=tk})(q:∃h' tk,s2={s₁ with heap:=h',toks:=tk}):∃h' tk,s2={s with heap:=h',toks:=tk}:=
 let ⟨_,_,e⟩:=p;let ⟨h,t,e'⟩:=q;⟨h,t,by rw [e',e]⟩
theorem aC.refl (g:Gh)(s:Shared):aC g s g s:=⟨⟨s.heap,s.toks,rfl⟩,fun _ _ e _=>e,fun _ e=>e,fun _ h=>h,fun _ h=>.inl h,fun _ h=>.inl h,rfl,rfl,rfl⟩
theorem aC.trans {g g₁ g2:Gh}{s s₁ s2:Shared}(p:aC g s g₁ s₁)(q:aC g₁ s₁ g2 s2):aC g s g2 s2:=
 ⟨St.trans p.st q.st,fun a o e n=>q.keep a o (p.keep a o e n) fun z=>(p.Zn a z).elim n fun z=>(ao e z).elim,fun a e=>p.back a (q.back a e),fun a f=>q.F a (p.F a f),
  fun a f=>(q.Fn a f).elim (p.Fn a) fun e=>.inr (p.back a e),fun a f=>(q.Zn a f).elim (p.Zn a) fun e=>.inr (p.back a e),q.o.trans p.o,q.sp.trans p.sp,q.sa.trans p.sa⟩
theorem aC.toks (g:Gh)(s:Shared)(t:Nat):aC g s g {s with toks:=t}:=⟨⟨s.heap,t,rfl⟩,fun _ _ e _=>e,fun _ e=>e,fun _ h=>h,fun _ h=>.inl h,fun _ h=>.inl h,rfl,rfl,rfl⟩
theorem aC.k {P:Pg}{g g':Gh}{s s':Shared}{J:Sg}(p:aC g s g' s')(w:bf P g s.heap J):aN g s.heap g' s'.heap:=
 ⟨fun a f=>⟨p.F a f,fun o e=>p.keep a o e fun z=>(w.Z a z).2 f⟩,p.sp⟩
theorem i8.mono' {P:Pg}{g g':Gh}{h h':Heap}{c:Nat}{ts:List T}(k:aN g h g' h')(z:∀a,a≠g.sp->g.Z a->g'.Z a/\∀o,h.get? a=some o->h'.get? a=some o)(hs:g'.sa=g.sa)(s:i8 P g h c ts):i8 P g' h' c ts:=by
 obtain ⟨dx,m,us,i,z1,z2,ne,f,l,sh,ow,nn⟩:=s
 have hp:=k.sp
 have a1:=z _ ne.2 z1
 have a2:=z _ ne.1 z2
 refine ⟨dx,m,us,hs▸i.mono a1.2 a2.2,hs▸a1.1,a2.1,hs▸hp▸ne,f,l,fun j u t h1 h2 h3=>(sh j u t h1 h2 h3).mono k,fun j u t h1 h2 h3=>?_,nn⟩
 obtain ⟨a,h4,h5,h6,h7⟩:=ow j u t h1 h2 h3
 have a3:=z _ h6.2.2 h5
 exact ⟨a,h4,a3.1,hs▸hp▸h6,h7.mono k a3.2⟩
theorem i8.mono {P:Pg}{g g':Gh}{h h':Heap}{c:Nat}{ts:List T}(k:aN g h g' h')(z:∀a,g.Z a->g'.Z a/\∀o,h.get? a=some o->h'.get? a=some o)(hs:g'.sa=g.sa)(s:i8 P g h c ts):i8 P g' h' c ts:=s.mono' k (fun a _=>z a) hs
theorem bf.grow {P:Pg}{g:Gh}{h h':Heap}{J:Sg}(w:bf P g h J)(k:∀a o,h.get? a=some o->h'.get? a=some o)(F:Addr->Prop)(hF:∀a,g.F a->F a)(hn:∀a,F a->g.F a\/(h.get? a=none/\h'.get? a≠none)):bf P {g with F:=F} h' J:=by
 have lv:∀a,h.get? a≠none->h'.get? a≠none:=fun a n q=>by
  cases e:h.get? a with
  |none=>exact n e
  |some o=>rw [k a o e] at q;cases q
 have kf:aN g h {g with F:=F} h':=⟨fun a f=>⟨hF a f,k a⟩,rfl⟩
 have nf:∀a,h.get? a≠none->¬g.F a->¬F a:=fun a l n q=>(hn a q).elim n fun q=>l q.1
 exact ⟨fun a o e=>⟨hF a (w.base a o e).1,k a o (w.base a o e).2⟩,fun a f=>(hn a f).elim (fun f=>lv a (w.F a f)) (·.2),fun a z=>⟨lv a (w.Z a z).1,nf a (w.Z a z).1 (w.Z a z).2⟩,
  fun a z=>⟨lv a (w.O a z).1,nf a (w.O a z).1 (w.O a z).2.1,(w.O a z).2.2⟩,w.oo,⟨let ⟨t,n,e⟩:=w.spot.1;⟨t,n,k _ _ e⟩,w.spot.2⟩,fun c ts e=>(w.self c ts e).mono kf (fun a z=>⟨z,k a⟩) rfl⟩
theorem aC.grow {g:Gh}{s:Shared}{h':Heap}(t:Nat)(k:∀a o,s.heap.get? a=some o->h'.get? a=some o)(F:Addr->Prop)(hF:∀a,g.F a->F a)(hn:∀a,F a->g.F a\/s.heap.get? a=none):aC g s {g with F:=F} {s with heap:=h',toks:=t}:=
 ⟨⟨h',t,rfl⟩,fun a o e _=>k a o e,fun a e=>by
  cases q:s.heap.get? a with
  |none=>rfl
  |some o=>exact (ao (k a o q) e).elim,hF,hn,fun _ h=>.inl h,rfl,rfl,rfl⟩
theorem aD (h:Heap):h.get? h.objs.size=none:=by
 cases e:h.get? h.objs.size with
 |none=>rfl
 |some o=>exact absurd (Heap.lt_size e) (Nat.lt_irrefl _)
end
end Mine
namespace Mine
noncomputable section
open PySem PyProof.Rows
noncomputable def g9:List Str:=["len","isinstance","list","tuple","str","int","bool","range","zip","enumerate","any","all","max","sorted","dict","set","ValueError"]
structure fJ (P:Pg):Prop where
 g:P.h₀.Ns mainGlobals P.mg
 b:P.h₀.Ns builtinsNs P.mb
 nolimit:P.h₀.NoLimit
 fn:∀f F,P.Ψ f=some F->∃o,P.h₀.get? (P.fnA f)=some o/\o.data=.func (P.fd f)/\(P.gl f=true->P.mg (P.fd f).name=some (.ref (P.fnA f)))/\P.h₀.CodeRec (P.fd f).code (P.fd f).qualname/\
  (P.fd f).closure=[]/\(P.fd f).globals=mainGlobals/\(P.fd f).builtins=builtinsNs
 blt:∀x∈g9,P.mg x=none/\P.mb x=bootBuiltins x
structure bn where
 sc:Scope
 tab:List (Option (Str×NameKind))
noncomputable def bn.ok (B:bn):Bool:=B.sc.kind==.function&&(B.tab.all fun
  |some (x,k)=>B.sc.names.lookup x==some k&&(k==.local||k==.cell||k==.free)&&!(x==("__debug__":Str))&&!(x==("__classdict__":Str))
  |none=>true)&&decide ((B.tab.filterMap (·.map (·.1))).Nodup)
structure Ct where
 O:List Nat
 U:List Nat
 m:Bool
noncomputable def br (C:Ct)(i:Nat):Bool:=C.O.any (Nat.beq i)
inductive Own (P:Pg) (g:Gh) (h:Heap) (i:Nat) (t:T) (u:Value):Prop
 |mk (a:Addr) (e:u=.ref a) (o:g.o i=some a) (r:hY P g h a t)
def bA (P:Pg)(C:Ct)(g:Gh)(h:Heap)(i:Nat)(t:T)(u:Value):Prop:=match br C i with
 |true=>Own P g h i t u
 |false=>Rp P g h t u\/(C.m=true/\i=0/\t=.self/\u=.ref g.sa)
inductive bH (B:bn) (env:Env) (h:Heap) (i:Nat) (u:Value):Prop
 |loc (x:Str) (m:Str->Option Value) (t:B.tab[i]?=some (some (x,.local))) (n:h.Ns env.locals m) (e:m x=some u)
 |cel (x:Str) (k:NameKind) (c:Addr) (t:B.tab[i]?=some (some (x,k))) (hk:k=.cell\/k=.free) (l:env.cells.lookup x=some c) (n:h.IsCell c (some u))
noncomputable def own (env:Env):List Addr:=env.locals::env.cells.map (·.2)
structure bb (P:Pg) (B:bn) (C:Ct) (env:Env) (g:Gh) (V:aY) (h:Heap):Prop where
 ok:B.ok=true
 sc:env.scope=B.sc
 glob:env.globals=mainGlobals
 blt:env.builtins=builtinsNs
 ns:∃m,h.Ns env.locals m
 cell:∀(i:Nat) (x:Str) (k:NameKind),B.tab[i]?=some (some (x,k))->k=.cell\/k=.free->∃c u,env.cells.lookup x=some c/\h.IsCell c u
 apart:∀x y c,env.cells.lookup x=some c->env.cells.lookup y=some c->x=y
 own:∀a∈own env,h.get? a≠none/\¬g.F a/\¬g.Z a/\¬g.O a
 var:∀i y t,B.tab[i]?=some (some y)->b9 V i=some t->∃u,bH B env h i u/\bA P C g h i t u
 un:∀i∈C.U,b9 V i=none
def AW (A:Around)(n:Nat):Prop:=A.depth+2 * n+10 < recursionLimit/\A.units+20 * n+200 < cLine/\A.handled=none
def lf (A:Around)(n:Nat):Prop:=A.depth+2 * n+9 < recursionLimit/\A.units+20 * n+190 < cLine/\A.handled=none
theorem AW.c {A:Around}{n:Nat}(h:AW A n):lf A n:=⟨Nat.lt_of_succ_lt h.1,lt_of_le_of_lt (add_le_add_left (by decide) _) h.2.1,h.2.2⟩
inductive AX (P:Pg) (h:Heap) (g':Gh) (h':Heap) (t:T) (x:Value):Prop
 |mk (a:Addr) (e:x=.ref a) (n:h.get? a=none) (f:¬g'.F a) (z:¬g'.Z a) (o:¬g'.O a) (r:hY P g' h' a t)
def BD (P:Pg)(fr:Bool)(h:Heap)(g':Gh)(h':Heap)(t:T)(x:Value):Prop:=match fr with
 |false=>Rp P g' h' t x
 |true=>AX P h g' h' t x
noncomputable def GA (_:Nat):Bool:=false
inductive Nw (N:Addr->Prop) (g':Gh) (h':Heap) (x:Value):Prop
 |mk (a:Addr) (n:Nat) (v:Value) (ls:List Addr) (e:x=.ref a) (f:g'.F a) (o:h'.get? a=some (gn (v::ls.map Value.ref).toArray n)) (hv:∀b,v≠.ref b) (nd:ls.Nodup) (k:∀l∈ls,N l)
theorem Nw.mono {N N':Addr->Prop}{g g':Gh}{h h':Heap}{x:Value}(r:Nw N g h x)(hN:∀l,N l->N' l)(hF:∀a,g.F a->g'.F a)(hk:∀a o,g.F a->h.get? a=some o->h'.get? a=some o):Nw N' g' h' x:=let ⟨a,n,v,ls,e,f,o,hv,nd,k⟩:=r;⟨a,n,v,ls,e,hF a f,hk a _ f o,hv,nd,fun l hl=>hN l (k l hl)⟩
def vV (P:Pg)(f:Nat)(h:Heap)(g':Gh)(h':Heap)(t:T)(x:Value):Prop:=BD P (lC f) h g' h' t x/\(GA f=true->∀ts,t=.tup ts->Nw (fun l=>h.get? l=none) g' h' x)
def Args (P:Pg)(m:Bool)(g:Gh)(h:Heap)(ts:List T)(vs:List Value):Prop:=match m with
 |false=>aO P g h ts vs
 |true=>∃v vs' t ts',vs=v::vs'/\ts=t::ts'/\(Rp P g h t v\/(t=.self/\v=.ref g.sa))/\aO P g h ts' vs'
def fm (P:Pg)(n:Nat):Prop:=
 ∀f A ts vs g J s t J' (Q:Value->Shared->Prop) (E:Value->Shared->Prop),lf A n->bf P g s.heap J->Args P (oK f) g s.heap ts vs->af P.Ψ n f ts J=.ret t J'->
  (∀x s' g',aC g s g' s'->bf P g' s'.heap J'->vV P f s.heap g' s'.heap t x->Q x s')->
  codeAny P.M A (.call (.ref (P.fnA f)) ⟨vs,[]⟩) (fun r s'=>match r with
   |.ok (.ret x)=>Q x s'
   |.ok _=>False
   |.error x=>E x s') s
structure At (P:Pg) (B:bn) (C:Ct) (n:Nat) (A:Around) (env:Env) (g:Gh) (V:aY) (J:Sg) (s:Shared):Prop where
 good:fJ P
 call:∀k,k<=n->fm P k
 room:AW A n
 env:bb P B C env g V s.heap
 g:bf P g s.heap J
noncomputable abbrev WP (α:Type):=Around->Env->(α->Shared->Prop)->(Value->Shared->Prop)->Shared->Prop
noncomputable abbrev RR (α j:Type):=Heap->Gh->Heap->j->α->Prop
def cB (P:Pg)(B:bn)(C:Ct){α j:Type}(W:WP α)(p:PG j)(R:RR α j):Prop:=
 ∀n A env g V J s (k:PK j) (Q:α->Shared->Prop) (E:Value->Shared->Prop),At P B C n A env g V J s->p (P.cx n) V J k≠.bad->
  (∀x s' g' t J',p (P.cx n) V J k=k t J'->aC g s g' s'->bf P g' s'.heap J'->R s.heap g' s'.heap t x->Q x s')->W A env Q E s
noncomputable abbrev Pg.W (P:Pg){α:Type}(c:Env->Sem α):WP α:=fun A env Q E s=>wpAny P.M A (c env) Q E s
abbrev RV (P:Pg):RR Value T:=fun _ g h t x=>Rp P g h t x
noncomputable abbrev RN (P:Pg):RR Value T:=fun h₀ g h t x=>AX P h₀ g h t x
def ly (P:Pg)(g:Gh)(h:Heap)(t:T)(x:Value):Prop:=Rp P g h t x\/∃a,x=.ref a/\(g.O a\/¬g.Z a)/\hY P g h a t
noncomputable abbrev RX (P:Pg):RR Value T:=fun _ g h t x=>ly P g h t x
abbrev RL (P:Pg):RR (List Value) (List T):=fun _ g h t x=>aO P g h t x
noncomputable abbrev RQ {α:Type}:RR α α:=fun _ _ _ t x=>t=x
abbrev aq (P:Pg)(B:bn)(C:Ct)(e:Expr)(p:PE)(R:RR Value T):Prop:=cB P B C (P.W fun env=>eval e env) p R
abbrev bI (P:Pg)(B:bn)(C:Ct)(e:Expr)(p:PT):Prop:=cB P B C (P.W fun env=>isTrue e env (eval e env)) p RQ
structure dk (P:Pg) (B:bn) (C:Ct) (es:List Expr) (p:PL):Prop where
 pl:∀env,∀q∈starEach es env,q.1=false
 sim:∀pos,cB P B C (P.W fun env=>spliced (backTo pos (starEach es env))) p (RL P)
section
variable {P:Pg} {B:bn} {C:Ct} {n:Nat} {A:Around} {env:Env} {g g':Gh} {V:aY} {J J':Sg} {s s':Shared} {h h':Heap} {t:T} {x:Value}
theorem aP {l:List (Str×Addr)}{x:Str}{c:Addr}(h:l.lookup x=some c):c∈l.map (·.2):=by
 induction l with
 |nil=>cases h
 |cons p r ih=>
  obtain ⟨y,d⟩:=p
  rw [lookup_cons] at h
  split at h
  .cases h;exact mem_cons_self
  .exact mem_cons_of_mem _ (ih h)
theorem bH.move {i:Nat}{u:Value}(k:∀a∈Mine.own env,∀o,h.get? a=some o->h'.get? a=some o)(v:bH B env h i u):bH B env h' i u:=by
 cases v with
 |loc x m t n e=>exact .loc x m t (n.at (k _ mem_cons_self)) e
 |cel x kk c t hk l n=>
  obtain ⟨o,e,d⟩:=n
  exact .cel x kk c t hk l ⟨o,k c (mem_cons_of_mem _ (aP l)) o e,d⟩
theorem bA.move {i:Nat}{u:Value}(k:aN g h g' h')(eo:g'.o=g.o)(es:g'.sa=g.sa)(ko:∀a,g.O a->∀o,h.get? a=some o->h'.get? a=some o)(v:bA P C g h i t u):bA P C g' h' i t u:=by
 unfold bA at *
 cases q:br C i with
 |true=>rw [q] at v;exact let ⟨a,e,o,r⟩:=v;⟨a,e,eo▸o,r.mono k (ko a ⟨i,o⟩)⟩
 |false=>rw [q] at v;exact v.imp (·.mono k) fun ⟨a,b,c,d⟩=>⟨a,b,c,es▸d⟩
theorem bb.move (x:bb P B C env g V h)(k:aN g h g' h')(eo:g'.o=g.o)(es:g'.sa=g.sa)(ko:∀a,g.O a\/a∈Mine.own env->∀o,h.get? a=some o->h'.get? a=some o)(lv:∀a∈Mine.own env,h'.get? a≠none/\¬g'.F a/\¬g'.Z a):bb P B C env g' V h':=
 {x with
  ns:=let ⟨m,n⟩:=x.ns;⟨m,n.at (ko _ (.inr mem_cons_self))⟩
  cell:=fun i y kk ht hk=>let ⟨c,u,l,o,e,d⟩:=x.cell i y kk ht hk;⟨c,u,l,o,ko c (.inr (mem_cons_of_mem _ (aP l))) o e,d⟩
  own:=fun a ha=>⟨(lv a ha).1,(lv a ha).2.1,(lv a ha).2.2,fun ⟨i,q⟩=>(x.own a ha).2.2.2 ⟨i,eo▸q⟩⟩
  var:=fun i y t ht hv=>let ⟨u,v,w⟩:=x.var i y t ht hv;⟨u,v.move fun a ha=>ko a (.inr ha),w.move k eo es fun a ha=>ko a (.inl ha)⟩}
theorem aC.live (p:aC g s g' s'){a:Addr}(l:s.heap.get? a≠none):s'.heap.get? a≠none:=fun q=>l (p.back a q)
theorem bb.post (x:bb P B C env g V s.heap)(w:bf P g s.heap J)(p:aC g s g' s'):bb P B C env g' V s'.heap:=
 x.move (p.k w) p.o p.sa (fun a ha o e=>p.keep a o e (ha.elim (fun q=>(w.O a q).2.2) fun q=>(x.own a q).2.2.1)) fun a ha=>let ⟨l,f,z,_⟩:=x.own a ha;⟨p.live l,fun q=>(p.Fn a q).elim f l,fun q=>(p.Zn a q).elim z l⟩
theorem At.post (X:At P B C n A env g V J s)(p:aC g s g' s')(w:bf P g' s'.heap J'):At P B C n A env g' V J' s':=⟨X.good,X.call,X.room,X.env.post X.g p,w⟩
theorem At.units (X:At P B C n A env g V J s):A.units+200 < cLine:=lt_of_le_of_lt (add_le_add_right (le_add_right _ _) _) X.room.2.1
theorem At.depth (X:At P B C n A env g V J s):A.depth+10 < recursionLimit:=lt_of_le_of_lt (add_le_add_right (le_add_right _ _) _) X.room.1
theorem ly.post (w:bf P g s.heap J)(p:aC g s g' s')(r:ly P g s.heap t x):ly P g' s'.heap t x:=
 r.imp (·.mono (p.k w)) fun ⟨a,e,q,r⟩=>⟨a,e,q.imp (fun ⟨i,q⟩=>⟨i,p.o▸q⟩) fun z q=>(p.Zn a q).elim z r.live,r.mono (p.k w) fun o e=>p.keep a o e (q.elim (fun q=>(w.O a q).2.2) id)⟩
theorem cB.map {α j:Type}{W W':WP α}{p:PG j}{R:RR α j}(h:cB P B C W p R)(hW:∀A env Q E s,W A env Q E s->W' A env Q E s):cB P B C W' p R:=fun n A env g V J s k Q E X hb hq=>hW A env Q E s (h n A env g V J s k Q E X hb hq)
theorem cB.weak {α j:Type}{W:WP α}{p:PG j}{R R':RR α j}(h:cB P B C W p R)(hR:∀h g h' t x,R h g h' t x->R' h g h' t x):cB P B C W p R':=fun n A env g V J s k Q E X hb hq=>h n A env g V J s k Q E X hb fun x s' g' t J' e p w r=>hq x s' g' t J' e p w (hR _ _ _ _ _ r)
theorem cB.vx {W:WP Value}{p:PE}(h:cB P B C W p (RV P)):cB P B C W p (RX P):=h.weak fun _ _ _ _ _ r=>.inl r
theorem cB.nx {W:WP Value}{p:PE}(h:cB P B C W p (RN P)):cB P B C W p (RX P):=h.weak fun _ _ _ _ _ r=>let ⟨a,e,_,_,z,_,r⟩:=r;.inr ⟨a,e,.inr z,r⟩
theorem bf.freeze {a:Addr}(w:bf P g h J)(l:h.get? a≠none)(z:¬g.Z a)(o:¬g.O a):bf P {g with F:=fun y=>g.F y\/y=a} h J:=by
 have kf:aN g h {g with F:=fun y=>g.F y\/y=a} h:=⟨fun b f=>⟨.inl f,fun _ e=>e⟩,rfl⟩
 exact ⟨fun b o e=>⟨.inl (w.base b o e).1,(w.base b o e).2⟩,fun b f=>f.elim (w.F b) fun q=>q▸l,fun b q=>⟨(w.Z b q).1,fun f=>f.elim (w.Z b q).2 fun e=>z (e▸q)⟩,
  fun b q=>⟨(w.O b q).1,fun f=>f.elim (w.O b q).2.1 fun e=>o (e▸q),(w.O b q).2.2⟩,w.oo,w.spot,fun c ts e=>(w.self c ts e).mono kf (fun _ q=>⟨q,fun _ e=>e⟩) rfl⟩
theorem cB.nv {W:WP Value}{p:PE}(h:cB P B C W p (RN P)):cB P B C W p (RV P):=fun n A env g V J s k Q E X hb hq=>h n A env g V J s k Q E X hb fun x s' g' t J' e p w r=>by
 obtain ⟨a,rfl,n,f,z,o,r⟩:=r
 have kf:aN g' s'.heap {g' with F:=fun y=>g'.F y\/y=a} s'.heap:=⟨fun b f=>⟨.inl f,fun _ e=>e⟩,rfl⟩
 exact hq _ s' {g' with F:=fun y=>g'.F y\/y=a} t J' e ⟨p.st,p.keep,p.back,fun b f=>.inl (p.F b f),fun b f=>f.elim (p.Fn b) fun e=>.inr (e▸n),p.Zn,p.o,p.sp,p.sa⟩ (w.freeze r.live z o) ((r.mono kf fun _ e=>e).rp (.inr rfl))
theorem cB.now {α j:Type}{W:WP α}{p:PG j}{R:RR α j}(h:∀n A env g V J s (k:PK j) (Q:α->Shared->Prop) (E:Value->Shared->Prop),At P B C n A env g V J s->p (P.cx n) V J k≠.bad->(∀x t tk,p (P.cx n) V J k=k t J->R s.heap g s.heap t x->Q x {s with toks:=tk})->W A env Q E s):cB P B C W p R:=
 fun n A env g V J s k Q E X hb hq=>h n A env g V J s k Q E X hb fun x t tk e r=>hq x _ g t J e (.toks g s tk) X.g r
end
def Dn {α j:Type}(R:RR α j):Prop:=∀h ha g h' t x,(∀a,ha.get? a=none->h.get? a=none)->R ha g h' t x->R h g h' t x
section
variable {P:Pg} {B:bn} {C:Ct}
theorem kH:Dn (RV P):=fun _ _ _ _ _ _ _ r=>r
theorem Hl:Dn (RL P):=fun _ _ _ _ _ _ _ r=>r
theorem DG {α:Type}:Dn (RQ (α:=α)):=fun _ _ _ _ _ _ _ r=>r
theorem EK:Dn (RN P):=fun _ _ _ _ _ _ b r=>let ⟨a,e,n,f,z,o,r⟩:=r;⟨a,e,b a n,f,z,o,r⟩
theorem cB.bind {α j d Y:Type}{W:WP α}{p:PG j}{R:RR α j}{N:Around->Env->α->(d->Shared->Prop)->(Value->Shared->Prop)->Shared->Prop}{F:jQ->aY->PK Y->PK j}{R':RR d Y}(h:cB P B C W p R)(hd:Dn R')
  (hf:∀n A env g g₁ V J s s₁ x t (k:PK Y) Q E,aC g s g₁ s₁->At P B C n A env g₁ V J s₁->R s.heap g₁ s₁.heap t x->F (P.cx n) V k t J≠.bad->
   (∀y s' g' u J',F (P.cx n) V k t J=k u J'->aC g₁ s₁ g' s'->bf P g' s'.heap J'->R' s₁.heap g' s'.heap u y->Q y s')->N A env x Q E s₁):
  cB P B C (fun A env Q E s=>W A env (fun x s₁=>N A env x Q E s₁) E s) (fun c V J k=>p c V J (F c V k)) R':=fun n A env g V J s k Q E X hb hq=>
 h n A env g V J s (F _ V k) _ E X hb fun x s₁ g₁ t J1 e p w r=>hf n A env g g₁ V J1 s s₁ x t k Q E p (X.post p w) r (fun q=>hb (e.trans q)) fun y s' g' u J' e' p' w' r'=>hq y s' g' u J' (e.trans e') (p.trans p') w' (hd _ _ _ _ _ _ p.back r')
theorem cf {α:Type}{o:Option α}{J:Sg}{k:PK α}(h:up o J k≠.bad):∃a,o=some a:=by
 cases o with
 |none=>exact absurd rfl h
 |some a=>exact ⟨a,rfl⟩
def eU (P:Pg)(g:Gh)(h:Heap)(t:T)(x:Value):Prop:=Rp P g h t x\/∃a,x=.ref a/\hY P g h a t
theorem ly.y {g:Gh}{h:Heap}{t:T}{x:Value}(r:ly P g h t x):eU P g h t x:=r.imp id fun ⟨a,e,_,r⟩=>⟨a,e,r⟩
noncomputable abbrev RY (P:Pg):RR Value T:=fun _ g h t x=>eU P g h t x
theorem cB.xy {W:WP Value}{p:PE}(h:cB P B C W p (RX P)):cB P B C W p (RY P):=h.weak fun _ _ _ _ _=>ly.y
structure Rm (A:Around):Prop where
 units:A.units+200 < cLine
 handled:A.handled=none
 depth:A.depth+10 < recursionLimit
theorem At.rm {n:Nat}{A:Around}{env:Env}{g:Gh}{V:aY}{J:Sg}{s:Shared}(X:At P B C n A env g V J s):Rm A:=⟨X.units,X.room.2.2,X.depth⟩
noncomputable abbrev W1 (d:Type):=Around->Env->Value->(d->Shared->Prop)->(Value->Shared->Prop)->Shared->Prop
noncomputable abbrev W2 (d:Type):=Around->Env->Value->Value->(d->Shared->Prop)->(Value->Shared->Prop)->Shared->Prop
def wd (P:Pg){d Y:Type}(N:W1 d)(F:T->Option Y)(R:RR d Y):Prop:=
 ∀A env g J s x t y Q E,Rm A->bf P g s.heap J->eU P g s.heap t x->F t=some y->(∀u s' g',aC g s g' s'->bf P g' s'.heap J->R s.heap g' s'.heap y u->Q u s')->N A env x Q E s
def qw (P:Pg){d Y:Type}(N:W2 d)(F:T->T->Option Y)(R:RR d Y):Prop:=
 ∀A env g J s x x' t t' y Q E,Rm A->bf P g s.heap J->eU P g s.heap t x->eU P g s.heap t' x'->F t t'=some y->(∀u s' g',aC g s g' s'->bf P g' s'.heap J->R s.heap g' s'.heap y u->Q u s')->N A env x x' Q E s
theorem cB.op1 {d Y:Type}{W:WP Value}{p:PE}{N:W1 d}{F:T->Option Y}{R:RR d Y}(h:cB P B C W p (RY P))(hd:Dn R)(o:wd P N F R):cB P B C (fun A env Q E s=>W A env (fun x s₁=>N A env x Q E s₁) E s) (p1 F p) R:=
 h.bind (F:=fun _ _ k t J=>up (F t) J k) hd fun n A env g g₁ V J s s₁ x t k Q E p X r hb hq=>by
  obtain ⟨y,e⟩:=cf hb
  exact o A env g₁ J s₁ x t y Q E X.rm X.g r e fun u s' g' p w r=>hq u s' g' y J (by rw [e];rfl) p w r
theorem cB.op2 {d Y:Type}{W W':WP Value}{p p':PE}{N:W2 d}{F:T->T->Option Y}{R:RR d Y}(h:cB P B C W p (RX P))(h':cB P B C W' p' (RY P))(hd:Dn R)(o:qw P N F R):
  cB P B C (fun A env Q E s=>W A env (fun x s₁=>W' A env (fun y s2=>N A env x y Q E s2) E s₁) E s) (p2 F p p') R:=
 h.bind (N:=fun A env x Q E s₁=>W' A env (fun y s2=>N A env x y Q E s2) E s₁) (F:=fun c V k a J=>p' c V J fun b J=>up (F a b) J k) hd fun n A env g g₁ V J s s₁ x t k Q E p X r hb hq=>
  h' n A env g₁ V J s₁ _ _ E X hb fun x' s2 g2 t' J2 e pa w2 r2=>by
   obtain ⟨y,e'⟩:=cf fun q=>hb (e.trans q)
   exact o A env g2 J2 s2 x x' t t' y Q E X.rm w2 (ly.post X.g pa r).y r2 e' fun u s' g' p w r=>hq u s' g' y J2 (e.trans (by rw [e'];rfl)) (pa.trans p) w (hd _ _ _ _ _ _ pa.back r)
theorem aq.none {k pos}:aq P B C (.Constant .none k pos) (pC .none) (RV P):=.now fun _ _ _ _ _ _ _ _ _ _ _ _ hq=>wpAny_Constant_none (hq _ _ _ rfl rfl)
theorem aq.bool {b k pos}:aq P B C (.Constant (.bool b) k pos) (pC (.bool b)) (RV P):=.now fun _ _ _ _ _ _ _ _ _ _ _ _ hq=>wpAny_Constant_bool (hq _ _ _ rfl rfl)
theorem aq.int {i k pos}:aq P B C (.Constant (.int i) k pos) (pC (.int i)) (RV P):=.now fun _ _ _ _ _ _ _ _ _ _ _ _ hq=>wpAny_Constant_int (hq _ _ _ rfl ⟨_,rfl⟩)
theorem aq.str {y k pos}(h:(PyData.strOk y&&decide (y.length<=lim))=true):aq P B C (.Constant (.str y) k pos) (pC (.str y)) (RV P):=.now fun _ _ _ _ _ _ _ _ _ _ _ _ hq=>
 have h':=ah h
 wpAny_Constant_str (hq _ _ _ rfl ⟨⟨h'.1,of_decide_eq_true h'.2⟩,_,rfl⟩)
theorem bn.look {B:bn}(h:B.ok=true){i:Nat}{x:Str}{k:NameKind}(ht:B.tab[i]?=some (some (x,k))):
  B.sc.kind=.function/\B.sc.names.lookup x=some k/\(k=.local\/k=.cell\/k=.free)/\(x==("__debug__":Str))=false/\(x==("__classdict__":Str))=false:=by
 simp only [bn.ok,and_eq_true,beq_iff_eq] at h
 have:=aB h.1.2 _ (mem_of_getElem? ht)
 simp only [and_eq_true,beq_iff_eq,or_eq_true,not_eq_true'] at this
 exact ⟨h.1.1,this.1.1.1,this.1.1.2.elim (fun q=>q.imp_right .inl) fun q=>.inr (.inr q),this.1.2,this.2⟩
theorem bq {n:Nat}{A:Around}{env:Env}{g:Gh}{V:aY}{J:Sg}{s:Shared}{i:Nat}{y:Str}{u:Value}{k:NameKind}{pos:Pos}{Q:Value->Shared->Prop}{E:Value->Shared->Prop}(X:At P B C n A env g V J s)(ht:B.tab[i]?=some (some (y,k)))(v:bH B env s.heap i u)(hq:Q u s):
  wpAny P.M A (eval (.Name y pos) env) Q E s:=by
 obtain ⟨h1,h2,h3,h4,h5⟩:=bn.look X.env.ok ht
 have hk:env.scope.kind=.function:=X.env.sc▸h1
 cases v with
 |loc x m t n e=>
  rw [t] at ht;cases ht
  exact wpAny_Name (wpAny_loadName_local hk (show env.scope.names.lookup y=_ from X.env.sc▸h2) n e hq) h4
 |cel x k c t hk' l n=>
  rw [t] at ht;cases ht
  rcases hk' with rfl |rfl
  .exact wpAny_Name (wpAny_loadName_cell hk (show env.scope.names.lookup y=_ from X.env.sc▸h2) l n hq) h4
  .exact wpAny_Name (wpAny_loadName_free hk (show env.scope.names.lookup y=_ from X.env.sc▸h2) l n hq h5) h4
theorem aq.name {i:Nat}{y:Str}{k:NameKind}{pos:Pos}{R:RR Value T}(ht:B.tab[i]?=some (some (y,k)))(h:∀g h t u,bA P C g h i t u->R h g h t u):aq P B C (.Name y pos) (pV i) R:=.now fun n A env g V J s k Q E X hb hq=>by
 obtain ⟨t,e⟩:=cf hb
 obtain ⟨u,v,w⟩:=X.env.var i _ t ht e
 exact bq X ht v (hq u t s.toks (by rw [pV,e];rfl) (h _ _ _ _ w))
def j0 (C:Ct)(i:Nat):Bool:=!br C i&&(!C.m||!Nat.beq i 0)
theorem je {g:Gh}{h:Heap}{i:Nat}{t:T}{u:Value}(hv:j0 C i=true)(v:bA P C g h i t u):Rp P g h t u:=by
 obtain ⟨h1,h2⟩:=ah hv
 unfold bA at v
 cases q:br C i with
 |true=>rw [q] at h1;cases h1
 |false=>
  rw [q] at v
  refine v.elim id fun ⟨a,b,_⟩=>?_
  subst b;rw [a] at h2;cases h2
theorem aq.var {i:Nat}{y:Str}{k:NameKind}{pos:Pos}(hv:j0 C i=true)(ht:B.tab[i]?=some (some (y,k))):aq P B C (.Name y pos) (pV i) (RV P):=.name ht fun _ _ _ _=>je hv
theorem aq.own {i:Nat}{y:Str}{k:NameKind}{pos:Pos}(hv:br C i=true)(ht:B.tab[i]?=some (some (y,k))):aq P B C (.Name y pos) (pV i) (RX P):=.name ht fun _ _ _ _ v=>by
 unfold bA at v
 rw [hv] at v
 exact let ⟨a,e,o,r⟩:=v;.inr ⟨a,e,.inl ⟨i,o⟩,r⟩
theorem At.fn {n:Nat}{A:Around}{env:Env}{g:Gh}{V:aY}{J:Sg}{s:Shared}(X:At P B C n A env g V J s):env.scope.kind=.function:=by
 have:=X.env.ok
 simp only [bn.ok,and_eq_true,beq_iff_eq] at this
 exact X.env.sc▸this.1.1
theorem At.glob {n:Nat}{A:Around}{env:Env}{g:Gh}{V:aY}{J:Sg}{s:Shared}(X:At P B C n A env g V J s){x:Str}{pos:Pos}{v:Value}{Q:Value->Shared->Prop}{E:Value->Shared->Prop}(hx:B.sc.names.lookup x=some .globalImplicit)(hd:(x==("__debug__":Str))=false)
  (hv:P.mg x=some v)(h:Q v s):wpAny P.M A (eval (.Name x pos) env) Q E s:=
 Calls.Name_function_global X.fn (show env.scope.names.lookup x=_ from X.env.sc▸hx) (Calls.loadGlobal_global (mg:=P.mg) (X.env.glob▸X.good.g.keeps fun a o e=>(X.g.base a o e).2) hv h) hd
theorem aq.gconst {y:Str}{t:T}{pos:Pos}(hx:B.sc.names.lookup y=some .globalImplicit)(hd:(y==("__debug__":Str))=false)(hv:∃u,P.mg y=some u/\∀g h,Rp P g h t u):aq P B C (.Name y pos) (pC t) (RV P):=.now fun n A env g V J s k Q E X hb hq=>
 let ⟨u,h1,h2⟩:=hv;X.glob hx hd h1 (hq u t s.toks rfl (h2 _ _))
noncomputable abbrev AT (P:Pg)(op:Value->Value->Sem Value):W2 Value:=fun A _ x y Q E s=>wpAny P.M A (op x y) Q E s
noncomputable abbrev Dk (P:Pg)(op:Value->Sem Value):W1 Value:=fun A _ x Q E s=>wpAny P.M A (op x) Q E s
theorem aq.bin {l r:Expr}{op:Operator}{pos:Pos}{pl pr:PE}{F:T->T->Option T}{R:RR Value T}(hd:Dn R)(o:qw P (AT P (binaryOp op)) F R)(hl:aq P B C l pl (RX P))(hr:aq P B C r pr (RX P)):aq P B C (.BinOp l op r pos) (p2 F pl pr) R:=
 (hl.op2 hr.xy hd o).map fun _ _ _ _ _=>wpAny_BinOp
def jV (P:Pg)(op:CmpOp)(F:T->T->Option Bool):Prop:=
 ∀A g J s x x' t t' b Q E,Rm A->bf P g s.heap J->eU P g s.heap t x->eU P g s.heap t' x'->F t t'=some b->(∀tk,Q (.bool b) {s with toks:=tk})->wpAny P.M A (compareOp op x x') Q E s
theorem jV.e {op:CmpOp}{F:T->T->Option Bool}(o:jV P op F):qw P (AT P (compareOp op)) (fun a b=>(F a b).map T.bool) (RV P):=fun A env g J s x x' t t' y Q E rm w r r' e hq=>by
 obtain ⟨b,e1,rfl⟩:=ar e
 exact o A g J s x x' t t' b Q E rm w r r' e1 fun tk=>hq _ _ g (.toks g s tk) w rfl
theorem jV.t {op:CmpOp}{F:T->T->Option Bool}(o:jV P op F):qw P (fun A _ x y Q E s=>wpAny P.M A (compareOp op x y) (fun v s₁=>wpAny P.M A (truthy v) Q E s₁) E s) F RQ:=fun A env g J s x x' t t' b Q E rm w r r' e hq=>
 o A g J s x x' t t' b _ E rm w r r' e fun tk=>wpAny_truthy_bool (hq b _ g (.toks g s tk) w rfl)
theorem BK {α j:Type}(o:Option α)(f:α->j)(J:Sg)(k:PK j):up (o.map f) J k=up o J fun a J=>k (f a) J:=by cases o<;>rfl
theorem cB.eq {α j:Type}{W:WP α}{p p':PG j}{R:RR α j}(h:cB P B C W p R)(e:p=p'):cB P B C W p' R:=e▸h
theorem aq.cmp {l r:Expr}{op:CmpOp}{pos:Pos}{pl pr:PE}{F:T->T->Option Bool}(o:jV P op F)(hm:behindInMarks op r=false)(hl:aq P B C l pl (RX P))(hr:aq P B C r pr (RX P)):aq P B C (.Compare l [op] [r] pos) (pB (p2 F pl pr)) (RV P):=
 ((hl.op2 hr.xy kH o.e).map fun _ _ _ _ _ h=>wpAny_Compare1 h hm).eq (by unfold p2 pB;simp only [BK])
theorem bI.cmpY {l r:Expr}{op:CmpOp}{pos:Pos}{pl pr:PE}{F:T->T->Option Bool}(o:jV P op F)(hm:behindInMarks op r=false)(hl:aq P B C l pl (RX P))(hr:aq P B C r pr (RY P)):bI P B C (.Compare l [op] [r] pos) (p2 F pl pr):=
 (hl.op2 hr DG o.t).map fun _ _ _ _ _ h=>wpAny_isTrue_Compare1 h hm
theorem bI.cmp {l r:Expr}{op:CmpOp}{pos:Pos}{pl pr:PE}{F:T->T->Option Bool}(o:jV P op F)(hm:behindInMarks op r=false)(hl:aq P B C l pl (RX P))(hr:aq P B C r pr (RX P)):bI P B C (.Compare l [op] [r] pos) (p2 F pl pr):=.cmpY o hm hl hr.xy
theorem gv {A:Around}{g:Gh}{h:Heap}{s:Shared}{t:T}{x:Value}{b:Bool}{Q:Bool->Shared->Prop}{E:Value->Shared->Prop}(r:eU P g h t x)(ht:cX t=some b)(k:Q b s):wpAny P.M A (truthy x) Q E s:=by
 cases t with
 |none=>cases ht;exact r.elim (fun r=>(show x=_ from r)▸fun _ _ _=>k) fun ⟨_,_,r⟩=>r.elim
 |bool c=>cases ht;exact r.elim (fun r=>(show x=_ from r)▸wpAny_truthy_bool k) fun ⟨_,_,r⟩=>r.elim
 |int i=>cases ht;exact r.elim (fun ⟨_,r⟩=>r▸PySem.P.truthy_int k) fun ⟨_,_,r⟩=>r.elim
 |_=>cases ht
theorem bI.val {e:Expr}{p:PE}(h:aq P B C e p (RX P))(he:∀env whole,isTrue e env whole=(do let v <-whole;standAt e.pos;holding [v] (truthy v))):bI P B C e (qE p):=
 (h.xy.op1 (N:=fun A _ x Q E s=>wpAny P.M A (truthy x) Q E s) DG fun A env g J s x t b Q E rm w r e hq=>gv r e (hq b s g (.refl g s) w rfl)).map fun A env Q E s h=>wpAny_isTrue_value h (he env _)
theorem bI.not {e:Expr}{p:PT}{pos:Pos}(h:bI P B C e p):bI P B C (.UnaryOp .Not e pos) (dW p):=
 (h.bind (N:=fun A _ b Q E s=>Q (!b) s) (F:=fun _ _ k b J=>k (!b) J) (R':=RQ) DG fun n A env g g₁ V J s s₁ x t k Q E p X r hb hq=>hq _ s₁ g₁ _ J rfl (.refl _ _) X.g (congrArg Bool.not r)).map fun _ _ _ _ _=>wpAny_isTrue_Not
abbrev iA (P:Pg)(B:bn)(C:Ct)(op:BoolOp)(es:List Expr)(p:PT):Prop:=cB P B C (P.W fun env=>allTrue op es env) p RQ
theorem iA.andNil:iA P B C .And [] bB:=.now fun _ _ _ _ _ _ _ _ _ _ _ _ hq=>wpAny_allTrue_And_nil (hq _ _ _ rfl rfl)
theorem iA.orNil:iA P B C .Or [] cN:=.now fun _ _ _ _ _ _ _ _ _ _ _ _ hq=>wpAny_allTrue_Or_nil (hq _ _ _ rfl rfl)
theorem cB.ite {α j:Type}{W:WP Bool}{p:PT}{W1 W2:WP α}{p1 p2:PG j}{R:RR α j}(h:cB P B C W p RQ)(hd:Dn R)(h1:cB P B C W1 p1 R)(h2:cB P B C W2 p2 R):
  cB P B C (fun A env Q E s=>W A env (fun b s₁=>match b with |true=>W1 A env Q E s₁ |false=>W2 A env Q E s₁) E s) (fun c V J k=>p c V J fun b J=>bif b then p1 c V J k else p2 c V J k) R:=
 h.bind (N:=fun A env b Q E s₁=>match b with |true=>W1 A env Q E s₁ |false=>W2 A env Q E s₁) (F:=fun c V k b J=>bif b then p1 c V J k else p2 c V J k) hd fun n A env g g₁ V J s s₁ x t k Q E p X r hb hq=>by
  cases r
  cases x with
  |true=>exact h1 n A env g₁ V J s₁ k Q E X hb hq
  |false=>exact h2 n A env g₁ V J s₁ k Q E X hb hq
theorem cB.yes {j:Type}{t:j}:cB P B C (fun A env Q E s=>Q t s) (fun _ _ J k=>k t J) RQ:=.now fun _ _ _ _ _ _ _ _ _ _ _ _ hq=>hq _ _ _ rfl rfl
theorem iA.and {e:Expr}{es:List Expr}{p ps:PT}(h:bI P B C e p)(hs:iA P B C .And es ps):iA P B C .And (e::es) (lh p ps):=
 (h.ite DG hs (.yes (t:=false))).map fun A env Q E s h=>wpAny_allTrue_And_cons (wpAny_mono h (fun b s h=>by cases b<;>exact h) fun _ _ h=>h)
theorem iA.or {e:Expr}{es:List Expr}{p ps:PT}(h:bI P B C e p)(hs:iA P B C .Or es ps):iA P B C .Or (e::es) (jp p ps):=
 (h.ite DG (.yes (t:=true)) hs).map fun A env Q E s h=>wpAny_allTrue_Or_cons (wpAny_mono h (fun b s h=>by cases b<;>exact h) fun _ _ h=>h)
theorem bI.boolOp {op:BoolOp}{es:List Expr}{p:PT}{pos:Pos}(h:iA P B C op es p):bI P B C (.BoolOp op es pos) p:=h.map fun _ _ _ _ _=>wpAny_isTrue_BoolOp
theorem aq.not {e:Expr}{p:PE}{pos:Pos}(h:aq P B C e p (RX P)):aq P B C (.UnaryOp .Not e pos) (sO p) (RV P):=
 (h.xy.op1 (N:=Dk P (unaryOp .Not)) kH fun A env g J s x t y Q E rm w r e hq=>by
  obtain ⟨b,e1,rfl⟩:=ar e
  exact not_value (gv r e1 (hq _ s g (.refl g s) w rfl))).map fun _ _ _ _ _=>wpAny_UnaryOp
abbrev i7 (P:Pg)(B:bn)(C:Ct)(op:BoolOp)(es:List Expr)(p:PE):Prop:=∀pos,cB P B C (P.W fun env=>boolOp pos op (evalEach es env)) p (RV P)
theorem i7.one {op:BoolOp}{e:Expr}{p:PE}(h:aq P B C e p (RV P)):i7 P B C op [e] p:=fun _=>h
theorem i7.and {e e':Expr}{es:List Expr}{p ps:PE}(h:aq P B C e p (RV P))(hs:i7 P B C .And (e'::es) ps):i7 P B C .And (e::e'::es) (jv p ps):=fun pos=>
 (h.bind (N:=fun A env v Q E s=>wpAny P.M A (do standAt pos;let t <-holding [v] (truthy v);match BoolOp.And,t with |.And,false |.Or,true=>pure v |_,_=>boolOp pos .And (evalEach (e'::es) env)) Q E s)
  (F:=fun cx V k v J=>match cX v with |some true=>ps cx V J k |some false=>k v J |none=>.bad) (R':=RV P) kH fun n A env g g₁ V J s s₁ x t k Q E p X r hb hq=>by
   cases e:cX t with
   |none=>rw [e] at hb;exact absurd rfl hb
   |some b=>
    rw [e] at hb hq
    refine wpAny_bind (wpAny_standAt (wpAny_bind (wpAny_holding (gv (.inl r) e ?_))))
    cases b with
    |true=>exact hs pos n A env g₁ V J s₁ k Q E X hb hq
    |false=>exact wpAny_pure (hq x s₁ g₁ t J rfl (.refl _ _) X.g r)).map fun _ _ _ _ _=>wpAny_bind
theorem i7.or {e e':Expr}{es:List Expr}{p ps:PE}(h:aq P B C e p (RV P))(hs:i7 P B C .Or (e'::es) ps):i7 P B C .Or (e::e'::es) (DB p ps):=fun pos=>
 (h.bind (N:=fun A env v Q E s=>wpAny P.M A (do standAt pos;let t <-holding [v] (truthy v);match BoolOp.Or,t with |.And,false |.Or,true=>pure v |_,_=>boolOp pos .Or (evalEach (e'::es) env)) Q E s)
  (F:=fun cx V k v J=>match cX v with |some true=>k v J |some false=>ps cx V J k |none=>.bad) (R':=RV P) kH fun n A env g g₁ V J s s₁ x t k Q E p X r hb hq=>by
   cases e:cX t with
   |none=>rw [e] at hb;exact absurd rfl hb
   |some b=>
    rw [e] at hb hq
    refine wpAny_bind (wpAny_standAt (wpAny_bind (wpAny_holding (gv (.inl r) e ?_))))
    cases b with
    |false=>exact hs pos n A env g₁ V J s₁ k Q E X hb hq
    |true=>exact wpAny_pure (hq x s₁ g₁ t J rfl (.refl _ _) X.g r)).map fun _ _ _ _ _=>wpAny_bind
theorem aq.boolOp {op:BoolOp}{es:List Expr}{p:PE}{pos:Pos}(h:i7 P B C op es p):aq P B C (.BoolOp op es pos) p (RV P):=h pos
theorem dk.nil:dk P B C [] ak:=⟨(fun _ _ q=>nomatch q),fun pos=>cB.now fun _ _ _ _ _ _ _ _ _ _ _ _ hq=>wpAny_items_nil (hq _ _ _ rfl rfl)⟩
theorem dk.cons {e:Expr}{es:List Expr}{p:PE}{ps:PL}(hn:∀env,starEach (e::es) env=(false,eval e env)::starEach es env)(h:aq P B C e p (RV P))(hs:dk P B C es ps):dk P B C (e::es) (ae p ps):=⟨fun env q hq=>by
 rw [hn] at hq
 cases hq with
 |head=>rfl
 |tail _ hq=>exact hs.pl env q hq,fun pos=>
 (h.bind (N:=fun A env v Q E s=>wpAny P.M A (spliced (backTo pos (starEach es env))) (fun vs s₁=>Q (v::vs) s₁) E s) (F:=fun c V k v J=>ps c V J fun vs J=>k (v::vs) J) (R':=RL P) Hl fun n A env g g₁ V J s s₁ x t k Q E p X r hb hq=>
  hs.sim pos n A env g₁ V J s₁ _ _ E X hb fun xs s2 g2 ts J2 e pa w2 r2=>hq _ s2 g2 _ J2 e pa w2 (aO.cons (Rp.mono (pa.k X.g) r) r2)).map fun _ env _ _ _ h=>wpAny_items_cons h (hn env)⟩
theorem ba {k:Nat}(h:k<=lim):k<=sizeLine:=le_trans h (by decide)
theorem im {n:Nat}(h:cq n=true):n<=lim:=le_of_ble_eq_true h
theorem k6 {c:Bool}{o:du}(h:gd c o≠.bad):c=true:=by cases c with
 |true=>rfl
 |false=>exact absurd rfl h
theorem kN {c:Bool}{o:du}(h:(bif c then o else .bad)≠.bad):c=true:=by cases c with
 |true=>rfl
 |false=>exact absurd rfl h
theorem bM (s:Shared)(ob:Obj):∀a o,s.heap.get? a=some o->(s.heap.push ob).get? a=some o:=fun _ _ e=>Heap.get?_push_of_some _ e
theorem cZ {g:Gh}{s:Shared}{J:Sg}(w:bf P g s.heap J):¬g.F s.heap.objs.size/\¬g.Z s.heap.objs.size/\¬g.O s.heap.objs.size:=⟨fun q=>w.F _ q (aD _),fun q=>(w.Z _ q).1 (aD _),fun q=>(w.O _ q).1 (aD _)⟩
theorem bf.push {g:Gh}{s:Shared}{J:Sg}(w:bf P g s.heap J)(ob:Obj):bf P g (s.heap.push ob) J:=w.grow (bM s ob) g.F (fun _ h=>h) fun _ h=>.inl h
theorem aC.push {g:Gh}{s:Shared}(ob:Obj)(t:Nat):aC g s g {s with heap:=s.heap.push ob,toks:=t}:=.grow t (bM s ob) g.F (fun _ h=>h) fun _ h=>.inl h
theorem bD {h:Heap}(ob:Obj)(hf:ob.isFreed=false:=by rfl):(h.push ob).get? h.objs.size=some ob:=Heap.get?_push_size _ hf
theorem bf.pushF {g:Gh}{s:Shared}{J:Sg}(w:bf P g s.heap J)(ob:Obj)(hf:ob.isFreed=false:=by rfl):bf P {g with F:=fun y=>g.F y\/y=s.heap.objs.size} (s.heap.push ob) J:=w.grow (bM s ob) _ (fun _ h=>.inl h) fun a h=>h.elim .inl fun e=>.inr (e▸⟨aD _,ao (bD ob hf)⟩)
theorem aC.pushF {g:Gh}{s:Shared}(ob:Obj)(t:Nat):aC g s {g with F:=fun y=>g.F y\/y=s.heap.objs.size} {s with heap:=s.heap.push ob,toks:=t}:=.grow t (bM s ob) _ (fun _ h=>.inl h) fun a h=>h.elim .inl fun e=>.inr (e▸aD _)
theorem sy {g:Gh}{s:Shared}{J:Sg}{ts:List T}{xs:List Value}{tk:Nat}(w:bf P g s.heap J)(r:aO P g s.heap ts xs)(hl:ts.length<=lim){Q:Value->Shared->Prop}(hq:∀u s' g',aC g s g' s'->bf P g' s'.heap J->Rp P g' s'.heap (.tup ts) u->Q u s'):
  Q (.ref s.heap.objs.size) {s with heap:=s.heap.push (gn xs.toArray 0),toks:=tk}:=
 hq _ _ _ (.pushF _ tk) (w.pushF _) ⟨_,rfl,.inr rfl,_,_,bD _,hl,r.mono ((aC.pushF _ 0).k w)⟩
theorem uf {g:Gh}{s:Shared}{J:Sg}{ts:List T}{xs:List Value}{tk:Nat}(w:bf P g s.heap J)(r:aO P g s.heap ts xs)(hl:ts.length<=lim){Q:Value->Shared->Prop}(hq:∀u s' g',aC g s g' s'->bf P g' s'.heap J->AX P s.heap g' s'.heap (.lst ts) u->Q u s'):
  Q (.ref s.heap.objs.size) {s with heap:=s.heap.push (aX xs.toArray 0),toks:=tk}:=
 hq _ _ _ (.push _ tk) (w.push _) ⟨_,rfl,aD _,(cZ w).1,(cZ w).2.1,(cZ w).2.2,_,_,bD _,hl,r.mono ((aC.push (aX xs.toArray 0) 0).k w)⟩
theorem aq.tup {es:List Expr}{ps:PL}{k:Nat}{pos:Pos}(h:dk P B C es ps):aq P B C (.Tuple es k pos) (aH ps) (RV P):=
 ((h.sim pos).bind (N:=fun A env xs Q E s=>xs.length<=sizeLine/\Q (.ref s.heap.objs.size) {s with heap:=s.heap.push (gn xs.toArray 0)}) (F:=fun c V k vs J=>bif cq vs.length then k (.tup vs) J else .bad) (R':=RV P) kH fun n A env g g₁ V J s s₁ x t k Q E p X r hb hq=>by
  have hl:=im (kN hb)
  exact ⟨ba (r.length▸hl),sy (tk:=s₁.toks) X.g r hl fun u s' g' p w r=>hq u s' g' _ J (by rw [kN hb];rfl) p w r⟩).map fun _ _ _ _ _=>wpAny_Tuple
theorem aq.list {es:List Expr}{ps:PL}{pos:Pos}(h:dk P B C es ps):aq P B C (.List es pos) (bo ps) (RN P):=
 ((h.sim pos).bind (N:=fun A env xs Q E s=>xs.length<=sizeLine/\Q (.ref s.heap.objs.size) {s with heap:=s.heap.push (aX xs.toArray 0)}) (F:=fun c V k vs J=>bif cq vs.length then k (.lst vs) J else .bad) (R':=RN P) EK fun n A env g g₁ V J s s₁ x t k Q E p X r hb hq=>by
  have hl:=im (kN hb)
  exact ⟨ba (r.length▸hl),uf (tk:=s₁.toks) X.g r hl fun u s' g' p w r=>hq u s' g' _ J (by rw [kN hb];rfl) p w r⟩).map fun _ _ _ _ _=>wpAny_List
end
end
end Mine
namespace Mine
noncomputable section
open PySem PyProof.Rows PySem.SeqAt
section
variable {P:Pg} {B:bn} {C:Ct} {g:Gh} {h:Heap} {t:T} {x:Value}
theorem no {α:Type}{x:α}{p:Prop}(h:(none:Option α)=some x):p:=nomatch h
theorem Df {i:Bool}:E9 t=some i->t=T.bool i:=T.casesOn (motive_1:=fun t=>E9 t=some i->t=T.bool i) t no (fun x e=>congrArg T.bool (Option.some.inj e)) (fun _=>no) (fun _=>no) (fun _=>no) (fun _=>no) (fun _ _=>no) (fun _ _=>no) (fun _=>no) no no
theorem nU {i:Int}:iG t=some i->t=T.int i:=T.casesOn (motive_1:=fun t=>iG t=some i->t=T.int i) t no (fun _=>no) (fun x e=>congrArg T.int (Option.some.inj e)) (fun _=>no) (fun _=>no) (fun _=>no) (fun _ _=>no) (fun _ _=>no) (fun _=>no) no no
theorem yQ {i:Str}:qp t=some i->t=T.str i:=T.casesOn (motive_1:=fun t=>qp t=some i->t=T.str i) t no (fun _=>no) (fun _=>no) (fun x e=>congrArg T.str (Option.some.inj e)) (fun _=>no) (fun _=>no) (fun _ _=>no) (fun _ _=>no) (fun _=>no) no no
theorem kP {i:List T}:lN t=some i->t=T.tup i:=T.casesOn (motive_1:=fun t=>lN t=some i->t=T.tup i) t no (fun _=>no) (fun _=>no) (fun _=>no) (fun x e=>congrArg T.tup (Option.some.inj e)) (fun _=>no) (fun _ _=>no) (fun _ _=>no) (fun _=>no) no no
theorem fg {i:List T}:fG t=some i->t=T.lst i:=T.casesOn (motive_1:=fun t=>fG t=some i->t=T.lst i) t no (fun _=>no) (fun _=>no) (fun _=>no) (fun _=>no) (fun x e=>congrArg T.lst (Option.some.inj e)) (fun _ _=>no) (fun _ _=>no) (fun _=>no) no no
theorem Dd {i:List Int}:De t=some i->t=T.scr i:=T.casesOn (motive_1:=fun t=>De t=some i->t=T.scr i) t no (fun _=>no) (fun _=>no) (fun _=>no) (fun _=>no) (fun _=>no) (fun _ _=>no) (fun _ _=>no) (fun x e=>congrArg T.scr (Option.some.inj e)) no no
theorem eU.v (q:eU P g h t x)(h1:∀a,hY P g h a t->False):Rp P g h t x:=q.elim id fun ⟨a,_,r⟩=>(h1 a r).elim
theorem eU.b {b:Bool}(q:eU P g h t x)(e:E9 t=some b):x=.bool b:=by cases Df e;exact q.v fun _ h=>h
theorem eU.i {i:Int}(q:eU P g h t x)(e:iG t=some i):∃p,x=.int i p:=by cases nU e;exact q.v fun _ h=>h
theorem eU.s {s:Str}(q:eU P g h t x)(e:qp t=some s):(PyData.strOk s=true/\s.length<=lim)/\∃p,x=.str s p:=by cases yQ e;exact q.v fun _ h=>h
theorem eU.n {s:List Int}(q:eU P g h t x)(e:De t=some s):GR P s x:=by cases Dd e;exact q.v fun _ h=>h
theorem eU.tu {ts:List T}(q:eU P g h t x)(e:lN t=some ts):Fz g (wc h gn (aO P g h ts) ts.length) x:=by cases kP e;exact q.v fun _ h=>h
theorem eU.ls {ts:List T}(q:eU P g h t x)(e:fG t=some ts):∃a,x=.ref a/\wc h aX (aO P g h ts) ts.length a:=by cases fg e;exact q.elim (fun r=>let ⟨a,e,_,o⟩:=r;⟨a,e,o⟩) id
theorem ax {α Z:Type}{a:Option α}{f:α->Option Z}{y:Z}(h:o1 a f=some y):∃x,a=some x/\f x=some y:=by
 cases a with
 |none=>cases h
 |some x=>exact ⟨x,rfl,h⟩
theorem bp {α Z Y:Type}{a:Option α}{b:Option Z}{f:α->Z->Option Y}{y:Y}(h:o2 a b f=some y):∃x z,a=some x/\b=some z/\f x z=some y:=by
 cases a with
 |none=>cases h
 |some x=>cases b with
  |none=>cases h
  |some z=>exact ⟨x,z,rfl,rfl,h⟩
structure Rd (h:Heap) (x:Value) (d:PyData) (n:Nat):Prop where
 r:∃as,Reads h x d as
 c:d.canLay0=true
 l:d.depth<=n
structure Hq (h:Heap) (x:List Value) (d:List PyData) (n:Nat):Prop where
 r:∃as,ReadsAll h x d as
 c:PyData.canLayAll0 d=true
 l:PyData.depthAll d<=n
theorem ft {f:T->Option PyData}{n:Nat}(ih:∀t x d,f t=some d->Rp P g h t x->Rd h x d n):∀(ts:List T) (xs:List Value) (ds:List PyData),fi f ts=some ds->aO P g h ts xs->Hq h xs ds n
 | [],_,_,e,r=>by cases r;cases e;exact ⟨⟨[],.nil⟩,rfl,zero_le _⟩
 |t::ts,_,_,e,⟨x,xs,e',r,rs⟩=>by
  subst e'
  unfold fi at e
  cases hd:f t with
  |none=>rw [hd] at e;cases e
  |some d=>
   rw [hd] at e
   obtain ⟨ds,hds,rfl⟩:=ar e
   obtain ⟨⟨as,h1⟩,h2,h3⟩:=ih t x d hd r
   obtain ⟨⟨bs,h4⟩,h5,h6⟩:=ft ih ts xs ds hds rs
   exact ⟨⟨as++bs,.cons h1 h4⟩,and_eq_true_iff.mpr ⟨h2,h5⟩,max_le.mpr ⟨h3,h6⟩⟩
theorem gB (n:Nat)(t:T)(x:Value)(d:PyData)(hn:cu n t=cu 0 t):cu n t=some d->eU P g h t x->Rd h x d n:=hn▸
 T.casesOn (motive_1:=fun t=>cu 0 t=some d->eU P g h t x->Rd h x d n) t (fun e q=>Option.some.inj e▸(show x=_ from q.v fun _ h=>h)▸⟨⟨[],.none⟩,rfl,zero_le _⟩) (fun _ e q=>Option.some.inj e▸q.b rfl▸⟨⟨[],.bool _⟩,rfl,zero_le _⟩)
  (fun _ e q=>Option.some.inj e▸let ⟨_,z⟩:=q.i rfl;z▸⟨⟨[],.int _ _⟩,rfl,zero_le _⟩) (fun _ e q=>Option.some.inj e▸let ⟨h,_,z⟩:=q.s rfl;z▸⟨⟨[],.str _ _⟩,h.1,zero_le _⟩) (fun _=>no) (fun _=>no) (fun _ _=>no) (fun _ _=>no) (fun _=>no) no no
theorem cD (n:Nat):∀t x d,cu n t=some d->eU P g h t x->Rd h x d n:=by
 induction n with
 |zero=>exact fun t x d=>gB 0 t x d rfl
 |succ n ih=>
  have ra:=ft (P:=P) (g:=g) (h:=h) fun t x d e r=>ih t x d e (.inl r)
  exact fun t=>T.casesOn (motive_1:=fun t=>∀x d,cu (n+1) t=some d->eU P g h t x->Rd h x d (n+1)) t (fun x d=>gB _ _ x d rfl) (fun _ x d=>gB _ _ x d rfl) (fun _ x d=>gB _ _ x d rfl) (fun _ x d=>gB _ _ x d rfl)
   (fun ts x d e q=>let ⟨ds,hd,z⟩:=ar e;let ⟨_,y,_,vs,m,e1,_,r⟩:=q.tu rfl;let ⟨⟨as,q1⟩,q2,q3⟩:=ra ts _ ds hd r;z▸y▸⟨⟨as,.tuple e1 rfl rfl q1⟩,q2,succ_le_succ q3⟩)
   (fun ts x d e q=>let ⟨ds,hd,z⟩:=ar e;let ⟨a,y,vs,m,e1,_,r⟩:=q.ls rfl;let ⟨⟨as,q1⟩,q2,q3⟩:=ra ts _ ds hd r;z▸y▸⟨⟨a::as,.list e1 rfl rfl q1⟩,q2,succ_le_succ q3⟩)
   (fun _ _ _ _=>no) (fun _ _ _ _=>no) (fun _ _ _=>no) (fun _ _=>no) (fun _ _=>no)
theorem lG {A:Around}{a b:Nat}(rm:Rm A)(h:a<=cG):A.units+1+min a b < cLine:=by
 have:=rm.units
 have:min a b<=50:=le_trans (min_le_left _ _) h
 lia -abstractProof
theorem EU:jV P .Eq cQ:=fun A g J s x x' t t' b Q E rm w q q' e k=>by
 obtain ⟨d,d',h1,h2,h3⟩:=bp e
 obtain ⟨⟨_,r1⟩,c1,l1⟩:=cD cG t x d h1 q
 obtain ⟨⟨_,r2⟩,c2,l2⟩:=cD cG t' x' d' h2 q'
 cases h3
 exact compareEq_reads r1 r2 c1 c2 (lt_of_le_of_lt (by lia) (lG (b:=d'.depth) rm l1)) (k s.toks)
theorem Bt:jV P .NotEq iD:=fun A g J s x x' t t' b Q E rm w q q' e k=>by
 obtain ⟨c,e1,rfl⟩:=ar e
 obtain ⟨d,d',h1,h2,h3⟩:=bp e1
 obtain ⟨⟨_,r1⟩,c1,l1⟩:=cD cG t x d h1 q
 obtain ⟨⟨_,r2⟩,c2,l2⟩:=cD cG t' x' d' h2 q'
 cases h3
 exact compareNe_reads r1 r2 c1 c2 (lt_of_le_of_lt (by lia) (lG (b:=d'.depth) rm l1)) (k s.toks)
theorem dI {α:Type}{t':T}{x':Value}{f:Int->Int->Option α}{y:α}(q:eU P g h t x)(q':eU P g h t' x')(e:o2 (iG t) (iG t') f=some y):∃i j p p',x=.int i p/\x'=.int j p'/\f i j=some y:=by
 obtain ⟨i,j,h1,h2,h3⟩:=bp e
 obtain ⟨p,e1⟩:=q.i h1
 obtain ⟨p',e2⟩:=q'.i h2
 exact ⟨i,j,p,p',e1,e2,h3⟩
theorem EP:jV P .Lt ue:=fun A g J s x x' t t' b Q E rm w q q' e k=>by
 obtain ⟨i,j,p,p',rfl,rfl,e⟩:=dI q q' e
 cases e;exact PySem.P.lt_int (k s.toks)
theorem EQ:jV P .LtE DD:=fun A g J s x x' t t' b Q E rm w q q' e k=>by
 obtain ⟨i,j,p,p',rfl,rfl,e⟩:=dI q q' e
 cases e;exact PySem.P.le_int (k s.toks)
theorem ES:jV P .Gt vA:=fun A g J s x x' t t' b Q E rm w q q' e k=>by
 obtain ⟨i,j,p,p',rfl,rfl,e⟩:=dI q q' e
 cases e;exact PySem.P.gt_int (k s.toks)
theorem ET:jV P .GtE DE:=fun A g J s x x' t t' b Q E rm w q q' e k=>by
 obtain ⟨i,j,p,p',rfl,rfl,e⟩:=dI q q' e
 cases e;exact PySem.P.ge_int (k s.toks)
inductive Go (P:Pg) (g:Gh) (h:Heap) (ts:List T) (x:Value):Prop
 |tup (a:Addr) (vs:Array Value) (n:Nat) (e:x=.ref a) (e':h.get? a=some (gn vs n)) (l:ts.length<=lim) (r:aO P g h ts vs.toList)
 |lst (a:Addr) (vs:Array Value) (n:Nat) (e:x=.ref a) (e':h.get? a=some (aX vs n)) (l:ts.length<=lim) (r:aO P g h ts vs.toList)
theorem eU.sq {ts:List T}(q:eU P g h t x)(e:iM t=some ts):Go P g h ts x:=by
 unfold iM el at e
 cases e1:lN t with
 |some us=>rw [e1] at e;cases e;obtain ⟨a,e,_,vs,n,e',l,r⟩:=q.tu e1;exact .tup a vs n e e' l r
 |none=>rw [e1] at e;obtain ⟨a,e,vs,n,e',l,r⟩:=q.ls e;exact .lst a vs n e e' l r
inductive Hr (h:Heap) (A:Around) (x x':Value) (b:Bool):Prop
 |mk (d:PyData) (ds:List PyData) (as bs:List Addr) (e:b=ds.any fun y=>PyData.eqv y d) (r:Reads h x' (.list ds) as\/Reads h x' (.tuple ds) as) (r':Reads h x d bs) (c:PyData.canLayAll0 ds=true) (c':d.canLay0=true) (l:A.units+1+min (PyData.depthAll ds) d.depth < cLine)
theorem rB {A:Around}{x':Value}{t':T}{b:Bool}(rm:Rm A)(q:eU P g h t x)(q':eU P g h t' x')(e:lr t t'=some b):Hr h A x x' b:=by
 obtain ⟨ts,e1,e⟩:=ax e
 obtain ⟨d,ds,h1,h2,e⟩:=bp e
 obtain ⟨⟨_,r1⟩,c1,l1⟩:=cD cG t x d h1 q
 have ra:=fun xs r=>ft (fun t x d e r=>cD cG t x d e (.inl r)) ts xs ds h2 (P:=P) (g:=g) (h:=h) r
 cases e
 rcases q'.sq e1 with ⟨a,vs,n,rfl,e',l,r⟩ | ⟨a,vs,n,rfl,e',l,r⟩
 .obtain ⟨⟨_,r2⟩,c2,l2⟩:=ra _ r
  exact ⟨d,ds,_,_,rfl,.inr (.tuple e' rfl rfl r2),r1,c2,c1,lG rm l2⟩
 .obtain ⟨⟨_,r2⟩,c2,l2⟩:=ra _ r
  exact ⟨d,ds,_,_,rfl,.inl (.list e' rfl rfl r2),r1,c2,c1,lG rm l2⟩
theorem ER:jV P .In lr:=fun A g J s x x' t t' b Q E rm w q q' e k=>by
 obtain ⟨d,ds,as,bs,rfl,r |r,h1,h2,h3,h4⟩:=rB rm q q' e
 .exact in_list_reads r h1 h2 h3 h4 (k s.toks)
 .exact in_tuple_reads r h1 h2 h3 h4 (k s.toks)
theorem yF:jV P .NotIn iz:=fun A g J s x x' t t' b Q E rm w q q' e k=>by
 obtain ⟨c,e1,rfl⟩:=ar e
 obtain ⟨d,ds,as,bs,rfl,r |r,h1,h2,h3,h4⟩:=rB rm q q' e1
 .exact notIn_list_reads r h1 h2 h3 h4 (k s.toks)
 .exact notIn_tuple_reads r h1 h2 h3 h4 (k s.toks)
theorem o3 {a b:Str}(ha:PyData.strOk a=true)(hb:PyData.strOk b=true):PyData.strOk (a++b)=true:=by
 have:(a++b).cps=a.cps++b.cps:=rfl
 simp only [PyData.strOk,this,Array.all_append,and_eq_true] at *
 exact ⟨ha,hb⟩
theorem fE {α:Type}{n:Nat}{x y:α}(h:oU n x=some y):n<=lim/\x=y:=by
 unfold oU at h
 cases q:cq n with
 |true=>rw [q] at h;exact ⟨im q,Option.some.inj h⟩
 |false=>rw [q] at h;cases h
theorem cM {J:Sg}{s:Shared}{i:Int}{tk p:Nat}(w:bf P g s.heap J){Q:Value->Shared->Prop}(hq:∀u s' g',aC g s g' s'->bf P g' s'.heap J->Rp P g' s'.heap (.int i) u->Q u s'):Q (.int i p) {s with toks:=tk}:=hq _ _ g (.toks g s tk) w ⟨_,rfl⟩
theorem rD {ts:List T}{vs:Array Value}(r:aO P g h ts vs.toList)(e:vs.isEmpty=true):ts=[]:=by
 have z:vs.toList=[]:=Array.toList_eq_nil_iff.mpr (Array.isEmpty_iff.mp e)
 rw [z] at r
 have:=r.length
 exact List.length_eq_zero_iff.mp this.symm
theorem r7 {ts us:List T}{vs vs':Array Value}(r:aO P g h ts vs.toList)(r':aO P g h us vs'.toList)(hl:(ts++us).length<=lim):vs.size+vs'.size<=lim:=by
 rw [List.length_append,<-r.length,<-r'.length] at hl;exact hl
theorem jC {J:Sg}{s:Shared}{ts:List T}{xs:List Value}{tk:Nat}(w:bf P g s.heap J)(r:aO P g s.heap ts xs)(hl:ts.length<=lim){Q:Value->Shared->Prop}(hq:∀u s' g',aC g s g' s'->bf P g' s'.heap J->Rp P g' s'.heap (.lst ts) u->Q u s'):
  Q (.ref s.heap.objs.size) {s with heap:=s.heap.push (aX xs.toArray 0),toks:=tk}:=
 hq _ _ _ (.pushF _ tk) (w.pushF _) ⟨_,rfl,.inr rfl,_,_,bD _,hl,r.mono ((aC.pushF (aX xs.toArray 0) 0).k w)⟩
theorem uH (vs vs':Array Value):vs++vs'=(vs.toList++vs'.toList).toArray:=by simp
theorem Ei:qw P (AT P (binaryOp .Add)) bx (RV P):=fun A env g J s x x' t t' y Q E rm w q q' e hq=>by
 unfold bx at e
 cases e1:iG t with
 |some i=>
  rw [e1] at e
  obtain ⟨j,e2,e⟩:=ax e
  obtain ⟨p,rfl⟩:=q.i e1
  obtain ⟨p',rfl⟩:=q'.i e2
  cases e;exact PySem.P.add_int (cM w hq)
 |none=>cases e2:qp t with
  |some a=>
   rw [e1,e2] at e
   obtain ⟨b,e3,e⟩:=ax e
   obtain ⟨⟨h1,_⟩,p,rfl⟩:=q.s e2
   obtain ⟨⟨h3,_⟩,p',rfl⟩:=q'.s e3
   obtain ⟨hl,rfl⟩:=fE e
   exact add_str (fun t' tk=>hq _ _ g (.toks g s tk) w ⟨⟨o3 h1 h3,hl⟩,_,rfl⟩) (le_trans (by have:(a++b).length=a.length+b.length:=Array.size_append;lia -abstractProof) (ba hl))
  |none=>cases e3:lN t with
   |some ts=>
    rw [e1,e2,e3] at e
    obtain ⟨us,e4,e⟩:=ax e
    obtain ⟨hl,rfl⟩:=fE e
    have qt:=q.tu e3
    have qu:=q'.tu e4
    obtain ⟨a,rfl,f,vs,n,g1,l1,r1⟩:=id qt
    obtain ⟨a',rfl,f',vs',n',g2,l2,r2⟩:=id qu
    by_cases z1:vs.isEmpty=true
    .obtain rfl:=rD r1 z1
     exact concat_meets ⟨_,g1,rfl⟩ ⟨_,g2,rfl⟩ noFill_tuple_add seq_tuple_add F.slot_tuple_add F.entry_tuple_add (F.args_tuple_add_2 _ _) (tuple_addW0 a a' vs vs' n n' none none #[] #[] z1) ⟨g1,g2,hq _ s g (.refl g s) w qu⟩
    .by_cases z2:vs'.isEmpty=true
     .obtain rfl:=rD r2 z2
      rw [append_nil] at hq
      exact concat_meets ⟨_,g1,rfl⟩ ⟨_,g2,rfl⟩ noFill_tuple_add seq_tuple_add F.slot_tuple_add F.entry_tuple_add (F.args_tuple_add_2 _ _) (tuple_addW1 a a' vs vs' n n' none none #[] #[] z1 z2) ⟨g1,g2,hq _ s g (.refl g s) w qt⟩
     .refine PySem.P.add_tuple g1 g2 z1 z2 ?_ (ba (r7 r1 r2 hl))
      rw [uH]
      exact sy (tk:=s.toks) w (aO.append r2 r1) hl hq
   |none=>
    rw [e1,e2,e3] at e
    obtain ⟨ts,us,e4,e5,e⟩:=bp e
    obtain ⟨hl,rfl⟩:=fE e
    obtain ⟨a,rfl,vs,n,g1,l1,r1⟩:=q.ls e4
    obtain ⟨a',rfl,vs',n',g2,l2,r2⟩:=q'.ls e5
    refine PySem.P.add_list g1 g2 ?_ (ba (r7 r1 r2 hl))
    rw [uH]
    exact jC (tk:=s.toks) w (aO.append r2 r1) hl hq
theorem Ed:qw P (AT P (binaryOp .Sub)) dU (RV P):=fun A env g J s x x' t t' y Q E rm w q q' e hq=>by
 obtain ⟨i,j,p,p',rfl,rfl,e⟩:=dI q q' e
 cases e;exact PySem.P.sub_int (cM w hq)
theorem rV {α:Type}{c:Bool}{x y:α}(h:(bif c then none else some x)=some y):c=false/\x=y:=by
 cases c with
 |true=>cases h
 |false=>exact ⟨rfl,Option.some.inj h⟩
theorem dj {α:Type}{c:Bool}{x y:α}(h:(bif c then some x else none)=some y):c=true/\x=y:=by
 cases c with
 |true=>exact ⟨rfl,Option.some.inj h⟩
 |false=>cases h
theorem Eh:qw P (AT P (binaryOp .FloorDiv)) dO (RV P):=fun A env g J s x x' t t' y Q E rm w q q' e hq=>by
 unfold dO at e
 obtain ⟨i,j,p,p',rfl,rfl,e1⟩:=dI q q' e
 obtain ⟨c,rfl⟩:=rV e1
 obtain ⟨c1,c2⟩:=Bool.or_eq_false_iff.mp c
 exact floordiv_int (beq_eq_false_iff_ne.mp c1) (cM w hq) (.inl (PyProof.noPylong_small (Nat.lt_of_not_le fun q=>by rw [ble_eq_true_of_le q] at c2;cases c2)))
theorem Eg:qw P (AT P (binaryOp .Mod)) bS (RV P):=fun A env g J s x x' t t' y Q E rm w q q' e hq=>by
 unfold bS at e
 obtain ⟨i,j,p,p',rfl,rfl,e1⟩:=dI q q' e
 obtain ⟨c,rfl⟩:=rV e1
 exact mod_int' (beq_eq_false_iff_ne.mp c) (cM w hq)
theorem wG {i:Int}(h:sm i=true):i.natAbs<=1000000000:=le_of_ble_eq_true h
theorem tP {i:Int}(h:sm i=true):Builtin.Int.intBits i<=64:=by
 have q:(i.natAbs:Int)<=1000000000:=bE (wG h)
 exact intBits_le_64 (Int.neg_lt_of_neg_lt (Int.lt_of_le_of_lt (Int.le_trans (Int.natAbs_neg i▸le_natAbs) q) (by decide))) (Int.lt_of_le_of_lt (Int.le_trans le_natAbs q) (by decide))
theorem Ef:qw P (AT P (binaryOp .Mult)) iX (RV P):=fun A env g J s x x' t t' y Q E rm w q q' e hq=>by
 unfold iX at e
 obtain ⟨i,j,p,p',rfl,rfl,e1⟩:=dI q q' e
 obtain ⟨c,rfl⟩:=dj e1
 exact PySem.P.mul_int (cM w hq) ((Bool.or_eq_true_iff.mp c).elim (fun q=>.of_left (tP q)) fun q=>.of_right (tP q))
theorem aq.neg {e:Expr}{p:PE}{pos:Pos}(h:aq P B C e p (RX P)):aq P B C (.UnaryOp .USub e pos) (p1 mm p) (RV P):=
 (h.xy.op1 (N:=Dk P (unaryOp .USub)) kH fun A env g J s x t y Q E rm w r e hq=>by
  obtain ⟨i,e1,e2⟩:=ax e
  obtain ⟨p,rfl⟩:=r.i e1
  cases e2;exact PySem.P.neg_int (cM w hq)).map fun _ _ _ _ _=>wpAny_UnaryOp
end
section
variable {P:Pg} {B:bn} {C:Ct}
theorem lU {i:Int}{n k:Nat}(h:seqIndex? i n=some k):(0<=i/\k=i.toNat/\i < n)\/(i < 0/\-(n:Int)<=i/\k=(i+n).toNat):=by
 have h:(if (decide (0<=(if i < 0 then i+n else i))&&decide ((if i < 0 then i+n else i) < (n:Int)))=true then some (if i < 0 then i+n else i).toNat else none)=some k:=h
 by_cases q:i < 0
 .rw [if_pos q] at h
  cases c:decide (0<=i+(n:Int))&&decide (i+(n:Int) < (n:Int)) with
  |false=>rw [c] at h;cases h
  |true=>
   rw [c] at h;cases h
   exact .inr ⟨q,by have:=of_decide_eq_true (cJ c);lia -abstractProof,rfl⟩
 .rw [if_neg q] at h
  cases c:decide (0<=i)&&decide (i < (n:Int)) with
  |false=>rw [c] at h;cases h
  |true=>
   rw [c] at h;cases h
   exact .inl ⟨of_decide_eq_true (cJ c),rfl,of_decide_eq_true (cI c)⟩
theorem zC {p:Str}{c:Nat}{k:Option Nat}(g:PyData.strOk p=true)(hv:k.bind (p.cps[·]?)=some c):PyData.strOk ⟨#[c]⟩=true:=by
 obtain ⟨k,_,hk⟩:=Option.bind_eq_some_iff.mp hv
 simp only [PyData.strOk,Array.all_eq_true,decide_eq_true_eq] at g ⊢
 intro j hj
 obtain ⟨hk1,hk2⟩:=Array.getElem?_eq_some_iff.mp hk
 have:=g k hk1
 simp at hj;subst hj
 simpa [hk2] using this
theorem aO.size {g:Gh}{h:Heap}{ts:List T}{vs:Array Value}(r:aO P g h ts vs.toList):vs.size=ts.length:=r.length
theorem qL {i:Int}(h:sm i=true):-(2 ^ 63:Int)<=i/\i < 2 ^ 63:=
 have q:(i.natAbs:Int)<=1000000000:=bE (wG h)
 ⟨Int.neg_le_of_neg_le (Int.le_trans (Int.le_trans (Int.natAbs_neg i▸le_natAbs) q) (by decide)),Int.lt_of_le_of_lt (Int.le_trans le_natAbs q) (by decide)⟩
inductive Hu (i:Int) (ts:List T) (y:T):Prop
 |mk (k:Nat) (s:sm i=true) (hk:seqIndex? i ts.length=some k) (hx:ts[k]?=some y)
theorem rZ {i:Int}{ts:List T}{y:T}(h:zi i ts=some y):Hu i ts y:=by
 unfold zi at h
 cases q:sm i with
 |false=>rw [q] at h;cases h
 |true=>rw [q] at h;obtain ⟨k,h1,h2⟩:=ax h;exact ⟨k,q,h1,h2⟩
theorem oZ.rp {g:Gh}{h:Heap}:∀{ns:List Int} {vs:List Value},oZ ns vs->aO P g h (ns.map T.int) vs
 | [],_,r=>r
 |_::_,_,⟨t,vs',e,r⟩=>⟨_,vs',e,⟨t,rfl⟩,oZ.rp r⟩
theorem ry {A:Around}{g:Gh}{J:Sg}{s:Shared}{ts:List T}{l:Addr}{items:Array Value}{i:Int}{p:Tok}{y:T}{Q:Value->Shared->Prop}{E:Value->Shared->Prop}(w:bf P g s.heap J)(hl:s.heap.IsList l items)(r:aO P g s.heap ts items.toList)(e:zi i ts=some y)
  (hq:∀u s' g',aC g s g' s'->bf P g' s'.heap J->Rp P g' s'.heap y u->Q u s'):wpAny P.M A (getItem (.ref l) (.int i p)) Q E s:=by
 obtain ⟨k,hs,hk,hx⟩:=rZ e
 obtain ⟨u,hu,hR⟩:=r.get hx
 rw [Array.getElem?_toList] at hu
 have hlen:items.size=ts.length:=r.length
 rcases lU hk with ⟨h0,rfl,h1⟩ | ⟨h0,h1,rfl⟩
 .exact wpAny_getItem_list hl h0 (qL hs).2 hu (hq u s g (.refl g s) w hR)
 .rw [<-hlen] at h1 hu
  exact wpAny_getItem_list_neg hl h0 h1 (qL hs).1 (x:=u) hu (hq u s g (.refl g s) w hR)
noncomputable abbrev yY (P:Pg)(value slice:Expr):W2 Value:=fun A _ x y Q E s=>wpAny P.M A (subscriptTail value slice x y) Q E s
theorem xh {value slice:Expr}(hs:∀x y,subscripted slice false x y=operate [x,y] (getItem x y)):qw P (yY P value slice) aA (RV P):=fun A env g J s x x' t t' y Q E rm w q q' e hq=>by
 obtain ⟨i,e1,e2⟩:=ax e
 obtain ⟨p,rfl⟩:=q'.i e1
 cases e3:iM t with
 |some ts=>
  rw [e3] at e2
  rcases q.sq e3 with ⟨a,vs,n,rfl,h1,l,r⟩ | ⟨a,vs,n,rfl,h1,l,r⟩
  .obtain ⟨k,h2,hk,hx⟩:=rZ e2
   obtain ⟨u,hu,hR⟩:=r.get hx
   rw [Array.getElem?_toList] at hu
   rw [show ts.length=vs.size from r.length.symm] at hk
   exact tail_any ⟨_,h1,rfl⟩ slot_tuple_getitem.lookup (PySem.P.getItem_tuple h1 (qL h2).1 (qL h2).2 hk hu (hq u s g (.refl g s) w hR)) (hs _ _)
  .have hl:s.heap.IsList a vs:=⟨_,h1,rfl,n,rfl⟩
   exact tail_any hl.typeIs slot_list_getitem.lookup (ry w hl r e2 hq) (hs _ _)
 |none=>cases e4:De t with
  |some ns=>
   rw [e3,e4] at e2
   obtain ⟨a,items,rfl,⟨o,g1,g2⟩,_,r⟩:=q.n e4
   have hl:s.heap.IsList a items:=⟨o,(w.base _ _ g1).2,g2⟩
   exact tail_any hl.typeIs slot_list_getitem.lookup (ry w hl r.rp e2 hq) (hs _ _)
  |none=>
   rw [e3,e4] at e2
   obtain ⟨z,e5,e6⟩:=ax e2
   obtain ⟨⟨g1,g2⟩,p',rfl⟩:=q.s e5
   unfold tO at e6
   cases h2:sm i with
   |false=>rw [h2] at e6;cases e6
   |true=>
    rw [h2] at e6
    obtain ⟨c,hv,rfl⟩:=ar e6
    have hlo:=qL h2
    exact tail_any (typeIs_str s z p') slot_str_getitem.lookup (getItem_str (by simp;lia -abstractProof) hv (hq _ _ g (.toks g s _) w ⟨⟨zC g1 hv,show (1:Nat)<=lim by decide⟩,_,rfl⟩)) (hs _ _)
theorem aq.idx {a i:Expr}{pa pi:PE}{pos:Pos}(hs:∀x y,subscripted i false x y=operate [x,y] (getItem x y))(ha:aq P B C a pa (RX P))(hi:aq P B C i pi (RX P)):aq P B C (.Subscript a i pos) (p2 aA pa pi) (RV P):=
 (ha.op2 hi.xy kH (xh hs)).map fun _ _ _ _ _=>Subscript_
theorem aO.cut {g:Gh}{h:Heap}{ts:List T}{xs:List Value}(r:aO P g h ts xs)(lo hi:Option Int):aO P g h (Mine.cut lo hi ts) (Mine.cut lo hi xs):=by
 unfold Mine.cut
 rw [r.length]
 exact (r.drop _).take _
theorem eJ {α:Type}(lo hi:Option Int)(xs:List α):(cut lo hi xs).length<=xs.length:=le_trans (List.length_take_le' _ _) (by rw [length_drop];exact sub_le _ _)
theorem AC {α:Type}{lo hi:Option Int}{xs:List α}{a:α}(h:a∈cut lo hi xs):a∈xs:=List.mem_of_mem_drop (List.mem_of_mem_take h)
theorem w7 (items:Array Value)(lo hi:Option Int):slicePick items lo hi none=(cut lo hi items.toList).toArray:=by
 rw [slicePick_plain];simp [cut]
theorem AH (n:Nat)(i:Int):clipAt n i<=n:=Int.toNat_le.mpr (Int.max_le.mpr ⟨natCast_nonneg n,Int.min_le_right _ _⟩)
theorem tG (lo hi:Option Int)(n:Nat):Builtin.Slice.sliceAdjust lo hi 1 (n:Int)=(((lo.elim 0 (clipAt n):Nat):Int),((hi.elim n (clipAt n):Nat):Int)):=by
 unfold Builtin.Slice.sliceAdjust
 have h1:¬((1:Int) < 0):=by lia -abstractProof
 simp only [h1,if_false]
 have one:∀i:Int,(if i < 0 then max (i+(n:Int)) 0 else min i (n:Int))=((clipAt n i:Nat):Int):=fun i=>by
  rw [clipAt_cast]
  by_cases q:i < 0
  .rw [if_pos q,if_pos q,Int.min_eq_left (Int.add_le_of_le_sub_right (by rw [Int.sub_self];exact Int.le_of_lt q)),Int.max_comm]
  .rw [if_neg q,if_neg q,max_eq_right (Int.le_min.mpr ⟨Int.not_lt.mp q,natCast_nonneg n⟩)]
 cases lo<;>cases hi<;>simp [one]
theorem sJ (a b:Nat):Builtin.Slice.slicePlaces (a:Int) (b:Int) 1=b - a:=by
 unfold Builtin.Slice.slicePlaces
 rw [if_pos (show (1:Int) > 0 by decide)]
 by_cases q:(a:Int) < b
 .rw [if_pos q,Int.ediv_one];lia
 .rw [if_neg q,Nat.sub_eq_zero_of_le (Int.ofNat_le.mp (Int.not_lt.mp q))];rfl
theorem u8 (xs:Array Value)(a m:Nat):((List.range m).filterMap fun (k:Nat)=>xs[((a:Int)+(k:Int) * 1).toNat]?)=(xs.toList.drop a).take m:=by
 have e:(fun (k:Nat)=>xs[((a:Int)+(k:Int) * 1).toNat]?)=fun k=>xs[a+k]?:=by
  funext k
  have:((a:Int)+(k:Int) * 1).toNat=a+k:=by lia -abstractProof
  rw [this]
 rw [e]
 have:=pick_run xs a m
 rw [List.filterMap_map] at this
 exact this
theorem jm {prog:Program}{w:World}{A:Around}{E:Value->Shared->Prop}{s:Shared}{v:Value}{i:Option Int}{Q:Option Int->Shared->Prop}(p:IsPart v i)(h:Q i s):wpAny (model prog w) A (Builtin.Slice.slicePartIndex v) Q E s:=by
 cases p with
 |none=>exact slicePart_none h
 |int i t=>exact slicePart_int h
theorem jF {prog:Program}{w:World}{A:Around}{E:Value->Shared->Prop}{s:Shared}{t sl:Addr}{items:Array Value}{n:Nat}{vl vu:Value}{lo hi:Option Int}{Q:Value->Shared->Prop}(ht:IsT s.heap t items n)(hs:s.heap.IsSliceOf sl vl vu .none)(pl:IsPart vl lo)(pu:IsPart vu hi)
  (h1:cut lo hi items.toList=items.toList->Q (.ref t) s)
  (h:Q (.ref s.heap.objs.size) {s with heap:=s.heap.push {cls:=.type "tuple",data:=.seq (cut lo hi items.toList).toArray}})
  (hsz:items.size<=sizeLine):wpAny (model prog w) A (getItem (.ref t) (.ref sl)) Q E s:=by
 have hT:s.TypeIs (.ref t) "tuple":=⟨_,ht,rfl⟩
 have hI:IsTup s.heap t items:=⟨_,ht,rfl,n,rfl⟩
 have hdrop:sizeOk (.seq (cut lo hi items.toList).toArray):=by
  show (cut lo hi items.toList).toArray.size<=sizeLine
  rw [size_toArray]
  have:=eJ lo hi items.toList
  simp at this;lia -abstractProof
 obtain ⟨os,hos,hcs,hds⟩:=id hs
 have hTs:s.TypeIs (.ref sl) "slice":=⟨os,hos,hcs⟩
 unfold getItem
 try with_reducible refine wpAny_holding ?_
 first |refine wpAny_bind (wpAny_pure ?_) |skip
 refine wpAny_bind (wpAny_sequenceKey hT (by decide) ?_)
 refine wpAny_bind (wpAny_callSpecial?_slot (name:=ofString "__getitem__") hT slot_tuple_getitem
  (wpAny_call_entry slot_tuple_getitem hT entry_tuple_getitem ?_ (args_tuple_getitem _ _)))
 show wpAny _ _ (Builtin.Tuple.tupleItemsOf (.ref t) >>=_) _ _ s
 refine wpAny_bind (tupleItemsOf_ hI ?_)
 refine wpAny_bind (wpAny_typeOf hTs ?_)
 rw [if_pos (by decide)]
 have app:∀(Q':Int×Int×Nat->Shared->Prop) (E':Value->Shared->Prop) (A':Around),Q' (((lo.elim 0 (clipAt items.size):Nat):Int),1,hi.elim items.size (clipAt items.size) - lo.elim 0 (clipAt items.size)) s->wpAny (model prog w) A' (Builtin.Slice.sliceApplied (.ref sl) (pure (items.size:Int))) Q' E' s:=fun Q' E' A' hq=>by
  unfold Builtin.Slice.sliceApplied Builtin.Slice.sliceFields
  refine wpAny_bind (wpAny_bind (wpAny_field hos hds (x:=vl) rfl (wpAny_bind (wpAny_field hos hds (x:=vu) rfl (wpAny_bind (wpAny_field hos hds (x:=.none) rfl (wpAny_pure ?_)))))))
  refine wpAny_bind (slicePart_none ?_)
  show wpAny _ _ (if ((1:Int)==0)=true then _ else _) _ _ s
  rw [if_neg (by decide)]
  refine wpAny_bind (jm pl (wpAny_bind (jm pu (wpAny_bind (wpAny_pure ?_)))))
  show wpAny _ _ (match Builtin.Slice.sliceAdjust lo hi 1 (items.size:Int) with | (lo,hi)=>pure (lo,(1:Int),Builtin.Slice.slicePlaces lo hi 1)) _ _ s
  rw [tG]
  show wpAny _ _ (pure (_,(1:Int),Builtin.Slice.slicePlaces _ _ 1)) _ _ s
  rw [sJ]
  exact wpAny_pure hq
 refine wpAny_bind (app _ _ _ ?_)
 dsimp only
 have ecut:cut lo hi items.toList=(items.toList.drop (lo.elim 0 (clipAt items.size))).take (hi.elim items.size (clipAt items.size) - lo.elim 0 (clipAt items.size)):=by simp [cut]
 by_cases hw:(((lo.elim 0 (clipAt items.size):Nat):Int)==0&&(1:Int)==1&&(hi.elim items.size (clipAt items.size) - lo.elim 0 (clipAt items.size))==items.size)=true
 .have hq:Q (.ref t) s:=h1 (by
   simp only [and_eq_true,beq_iff_eq] at hw
   have z:lo.elim 0 (clipAt items.size)=0:=by lia -abstractProof
   rw [ecut,hw.2,z,drop_zero,List.take_of_length_le (by simp)])
  rw [if_pos hw]
  refine wpAny_bind ?_
  unfold Builtin.Tuple.tupleIsExact
  refine wpAny_bind (wpAny_typeOf hT (wpAny_pure ?_))
  rw [if_pos (by decide)]
  first
   |exact wpAny_bind (wpAny_rule (wpAny_pure ⟨_,rfl,wpAny_pure hq⟩))
   |exact wpAny_bind (wpAny_rule (wpAny_bind (wpAny_pure (wpAny_pure ⟨_,rfl,wpAny_pure hq⟩))))
   |exact wpAny_bind (wpAny_rule (wpAny_bind (wpAny_pure (wpAny_pure ⟨_,rfl,hq⟩))))
   |exact wpAny_bind (wpAny_rule (wpAny_pure ⟨_,rfl,hq⟩))
 .rw [if_neg hw,u8,<-ecut]
  first
   |exact wpAny_bind (m:=Builtin.Tuple.tupleExact _) (wpAny_newObj_type (wpAny_pure ⟨_,rfl,wpAny_pure h⟩) hdrop)
   |exact wpAny_bind (m:=Builtin.Tuple.tupleExact _) (wpAny_newObj_type (wpAny_bind (wpAny_pure (wpAny_pure ⟨_,rfl,wpAny_pure h⟩))) hdrop)
   |exact wpAny_bind (wpAny_bind (m:=Builtin.Tuple.tupleExact _) (wpAny_newObj_type (wpAny_pure (wpAny_pure ⟨_,rfl,wpAny_pure h⟩)) hdrop))
   |exact wpAny_bind (wpAny_bind (m:=Builtin.Tuple.tupleExact _) (wpAny_newObj_type (wpAny_pure ⟨_,rfl,wpAny_pure h⟩) hdrop))
theorem ur (lo hi:Option Int)(n:Nat):Builtin.Str.strSliceIndices lo hi 1 n=(List.range (hi.elim n (clipAt n) - lo.elim 0 (clipAt n))).map (lo.elim 0 (clipAt n)+·):=by
 have:Builtin.Str.strSliceIndices lo hi 1 n=sliceRange (sliceBounds lo hi none n).1 (sliceBounds lo hi none n).2.1 (sliceBounds lo hi none n).2.2:=rfl
 rw [this,sliceBounds_plain,sliceRange_one]
theorem u7 (x:Str)(lo hi:Option Int):(Builtin.Str.strSliceIndices lo hi 1 x.length).filterMap (x.cps[·]?)=cut lo hi x.cps.toList:=by
 rw [ur,pick_run];simp [cut,Str.length]
theorem te (x:Str)(lo hi:Option Int)(h:(Builtin.Str.strSliceIndices lo hi 1 x.length).length=x.length):fB lo hi x=x:=by
 have hl:=h
 rw [ur] at hl
 simp only [length_map,length_range] at hl
 have hle:hi.elim x.length (clipAt x.length)<=x.length:=by
  cases hi with
  |none=>exact le_refl _
  |some i=>exact AH _ i
 have e:cut lo hi x.cps.toList=x.cps.toList:=by
  unfold cut
  simp only [Array.length_toList]
  change _=_
  by_cases hx:x.length=0
  .have:x.cps.toList=[]:=by have:x.cps.size=0:=hx;simpa using this
   rw [this];simp
  .have z:lo.elim 0 (clipAt x.cps.size)=0:=by show lo.elim 0 (clipAt x.length)=0;lia
   have z':hi.elim x.cps.size (clipAt x.cps.size)=x.cps.size:=by show hi.elim x.length (clipAt x.length)=x.length;lia
   rw [z,z',drop_zero,List.take_of_length_le (by simp)]
 unfold fB
 rw [e]
theorem uS {x:Str}(h:PyData.strOk x=true)(lo hi:Option Int):PyData.strOk (fB lo hi x)=true:=by
 simp only [PyData.strOk,Array.all_eq_true',decide_eq_true_eq] at h ⊢
 intro c hc
 exact h c (Array.mem_toList_iff.mp (AC (by simpa [fB] using hc)))
set_option tactic.hygienic true in
theorem lu {prog:Program}{w:World}{A:Around}{E:Value->Shared->Prop}{s:Shared}{x:Str}{t:Tok}{sl:Addr}{vl vu:Value}{lo hi:Option Int}{Q:Value->Shared->Prop}(hs:s.heap.IsSliceOf sl vl vu .none)(pl:IsPart vl lo)(pu:IsPart vu hi)
  (h:∀t' tk,Q (.str (fB lo hi x) t') {s with toks:=tk})(hsz:x.length<=lim):wpAny (model prog w) A (getItem (.str x t) (.ref sl)) Q E s:=by
 have part:∀{v:Value} {i:Option Int},IsPart v i->∃p:Option (Int×Tok),v=partValue p/\p.map (·.1)=i:=fun p=>by
  cases p with
  |none=>exact ⟨none,rfl,rfl⟩
  |int i t=>exact ⟨some (i,t),rfl,rfl⟩
 obtain ⟨l,rfl,rfl⟩:=part pl
 obtain ⟨u,rfl,rfl⟩:=part pu
 refine wpAny_getItem_str_slice (l:=l) (u:=u) (st:=none) ?_ rfl ?_
 .obtain ⟨o,e1,e2,e3⟩:=hs
  exact ⟨o,e1,e2,e3⟩
 .unfold sliceMade
  have e:slicePicked x l u none=Builtin.Str.strSliceIndices (l.map (·.1)) (u.map (·.1)) 1 x.length:=rfl
  split
  .rename_i hw
   simp only [e,and_eq_true,beq_iff_eq] at hw
   have:=h t s.toks
   rw [te x _ _ hw.2] at this
   exact this
  .rw [e,u7]
   exact ⟨by
    have:=eJ (l.map (·.1)) (u.map (·.1)) x.cps.toList
    show (cut (l.map (·.1)) (u.map (·.1)) x.cps.toList).toArray.size<=sizeLine
    simp at this ⊢
    have h2:x.cps.size<=lim:=hsz
    simp only [lim,sizeLine] at *
    lia -abstractProof,h s.toks (s.toks+1)⟩
abbrev r8 (P:Pg)(B:bn)(C:Ct)(e:Option Expr)(p:PO):Prop:=cB P B C (P.W fun env=>valueOrNone (evalOpt e env)) p fun _ _ _ i x=>IsPart x i
theorem r8.none:r8 P B C Option.none mi:=.now fun _ _ _ _ _ _ _ _ _ _ _ _ hq=>wpAny_pure (hq _ _ _ rfl .none)
theorem r8.some {e:Expr}{p:PE}(h:aq P B C e p (RX P)):r8 P B C (Option.some e) (p1 dA p):=
 (h.xy.op1 (N:=fun A _ x Q E s=>Q x s) (fun _ _ _ _ _ _ _ r=>r) fun A env g J s x t y Q E rm w q e hq=>by
  obtain ⟨i,e1,e2⟩:=ax e
  obtain ⟨p,rfl⟩:=q.i e1
  cases e2;exact hq _ s g (.refl g s) w (.int i p)).map fun _ _ _ _ _ h=>h
theorem yz {lo hi:Option Int}{xs:List T}{ys:List Value}(hl:ys.length=xs.length)(h:cut lo hi ys=ys):cut lo hi xs=xs:=by
 have e:=congrArg List.length h
 unfold cut at e ⊢
 rw [length_take,length_drop,hl] at e
 cases xs with
 |nil=>simp
 |cons y ys=>
  generalize lo.elim 0 (clipAt (y::ys).length)=a at *
  generalize hi.elim (y::ys).length (clipAt (y::ys).length)=b at *
  have hp:0 < (y::ys).length:=succ_pos _
  have z:a=0:=Nat.eq_zero_of_not_pos fun q=>cU (Nat.sub_lt hp q) (le_trans (le_of_eq e.symm) (Nat.min_le_right _ _))
  subst z
  exact List.take_of_length_le (le_trans (le_of_eq e.symm) (min_le_left _ _))
noncomputable abbrev Fm (vl vu:Value):Obj:={cls:=.type "slice",data:=.fields #[vl,vu,.none]}
theorem vK {z:Str}(lo hi:Option Int)(h:z.length<=lim):(fB lo hi z).length<=lim:=le_trans (by
 show (cut lo hi z.cps.toList).toArray.size<=_
 rw [size_toArray];exact eJ lo hi _) h
theorem BY {A:Around}{g:Gh}{J:Sg}{s:Shared}{t y:T}{x vl vu:Value}{lo hi:Option Int}{value slice:Expr}{Q:Value->Shared->Prop}{E:Value->Shared->Prop}(w:bf P g s.heap J)(q:ly P g s.heap t x)(pl:IsPart vl lo)(pu:IsPart vu hi)(e:cg t lo hi=some y)
  (hs:∀x i,subscripted slice false x i=operate [i,x] (getItem x i))(hq:∀u s' g',aC g s g' s'->bf P g' s'.heap J->Rp P g' s'.heap y u->Q u s'):
  wpAny P.M A (subscriptTail value slice x (.ref s.heap.objs.size)) Q E {s with heap:=s.heap.push (Fm vl vu)}:=by
 have p:aC g s g {s with heap:=s.heap.push (Fm vl vu),toks:=s.toks}:=.push _ _
 have w':bf P g (s.heap.push (Fm vl vu)) J:=w.push _
 have hsl:=Heap.IsSliceOf.new s.heap vl vu .none
 have q':=(ly.post w p q).y
 have hq':∀u s' g',aC g {s with heap:=s.heap.push (Fm vl vu)} g' s'->bf P g' s'.heap J->Rp P g' s'.heap y u->Q u s':=fun u s' g' p'=>hq u s' g' (p.trans p')
 unfold cg at e
 cases e1:lN t with
 |some ts=>
  rw [e1] at e;cases e
  have qt:=q'.tu e1
  obtain ⟨l,rfl,f,vs,n,g1,g3,g2⟩:=id qt
  have hl:=le_trans (eJ lo hi ts) g3
  refine tail_any ⟨_,g1,rfl⟩ slot_tuple_getitem.lookup (jF (lo:=lo) (hi:=hi) g1 hsl pl pu (fun e=>?_) (sy (tk:=s.toks) w' (g2.cut lo hi) hl hq') (ba (g2.size▸g3))) (hs _ _)
  exact hq' _ _ g (.refl _ _) w' (by rw [yz g2.length e];exact qt)
 |none=>cases e2:fG t with
  |some ts=>
   rw [e1,e2] at e;cases e
   obtain ⟨l,rfl,vs,n,g1,g3,g2⟩:=q'.ls e2
   have hl:=le_trans (eJ lo hi ts) g3
   refine tail_any ⟨_,g1,rfl⟩ slot_list_getitem.lookup (wpAny_getItem_list_slice (lo:=lo) (hi:=hi) (st:=none) ⟨_,g1,rfl,n,rfl⟩ hsl pl pu .none (by simp) ?_ (ba (g2.size▸g3))) (hs _ _)
   rw [w7]
   exact jC (tk:=s.toks) w' (g2.cut lo hi) hl hq'
  |none=>
   rw [e1,e2] at e
   obtain ⟨z,e3,e4⟩:=ax e
   obtain ⟨⟨g1,g2⟩,p',rfl⟩:=q'.s e3
   cases e4
   exact tail_any (typeIs_str _ z p') slot_str_getitem.lookup (lu hsl pl pu (fun t' tk=>hq' _ _ g (.toks _ _ tk) w' ⟨⟨uS g1 lo hi,vK lo hi g2⟩,_,rfl⟩) g2) (hs _ _)
theorem aq.slc {a:Expr}{lo hi:Option Expr}{pa:PE}{pl ph:PO}{p pos:Pos}(ha:aq P B C a pa (RX P))(hl:r8 P B C lo pl)(hh:r8 P B C hi ph):aq P B C (.Subscript a (.Slice lo hi Option.none p) pos) (p3 cg pa pl ph) (RV P):=
 (ha.bind (N:=fun A env x Q E s=>wpAny P.M A (eval (.Slice lo hi Option.none p) env) (fun y s2=>wpAny P.M A (subscriptTail a (.Slice lo hi Option.none p) x y) Q E s2) E s) (F:=fun c V k t J=>pl c V J fun b J=>ph c V J fun x J=>up (cg t b x) J k) (R':=RV P) kH
  fun n A env g g₁ V J s s₁ x t k Q E p X r hb hq=>by
   rw [arm_eval_Slice]
   refine wpAny_bind (hl n A env g₁ V J s₁ _ _ _ X hb fun vl s2 ga l J2 ea pb w2 k2=>?_)
   refine wpAny_bind (wpAny_holding (hh n A env ga V J2 s2 _ _ _ (X.post pb w2) (fun q=>hb (ea.trans q)) fun vu s3 gb h J3 eb pc w3 k3=>?_))
   refine wpAny_bind (wpAny_holding (wpAny_pure (wpAny_newObj_type ?_ (by show (3:Nat)<=sizeLine+2;decide))))
   obtain ⟨y,e⟩:=cf fun q=>hb (ea.trans (eb.trans q))
   exact BY w3 (ly.post w2 pc (ly.post X.g pb r)) k2 k3 e (fun _ _=>rfl) fun u s' g' p w r=>hq u s' g' y J3 (ea.trans (eb.trans (by rw [e];rfl))) ((pb.trans pc).trans p) w r).map fun _ _ _ _ _=>Subscript_
end
structure aQ (VVV W:List Addr) (g:Gh) (s:Shared) (g':Gh) (s':Shared):Prop where
 st:∃h' tk,s'={s with heap:=h',toks:=tk}
 keep:∀a o,s.heap.get? a=some o->¬g.Z a->¬g.O a->a∉W->s'.heap.get? a=some o
 back:∀a,a∉VVV->s'.heap.get? a=none->s.heap.get? a=none
 F:∀a,g.F a->g'.F a
 Fn:∀a,g'.F a->g.F a\/g.O a\/s.heap.get? a=none
 Zn:∀a,g'.Z a->g.Z a\/s.heap.get? a=none
 On:∀a,g'.O a->g.O a\/s.heap.get? a=none
 sp:g'.sp=g.sp
 sa:g'.sa=g.sa
structure bC (VVV W:List Addr) (g:Gh) (s:Shared) (g':Gh) (s':Shared):Prop where
 st:∃h' tk,s'={s with heap:=h',toks:=tk}
 keep:∀a o,s.heap.get? a=some o->¬g.Z a->a∉W->s'.heap.get? a=some o
 back:∀a,a∉VVV->s'.heap.get? a=none->s.heap.get? a=none
 F:∀a,g.F a->g'.F a
 Fn:∀a,g'.F a->g.F a\/s.heap.get? a=none
 Zn:∀a,g'.Z a->g.Z a\/s.heap.get? a=none
 o:g'.o=g.o
 sp:g'.sp=g.sp
 sa:g'.sa=g.sa
inductive Gp (P:Pg) (g:Gh) (h:Heap) (g':Gh) (h':Heap) (t:T) (x:Value):Prop
 |mk (a:Addr) (e:x=.ref a) (n:g.O a\/h.get? a=none) (f:¬g'.F a) (z:¬g'.Z a) (r:hY P g' h' a t)
def Fe (P:Pg)(fr:Bool)(g:Gh)(h:Heap)(g':Gh)(h':Heap)(t:T)(x:Value):Prop:=match fr with
 |false=>Rp P g' h' t x
 |true=>Gp P g h g' h' t x
noncomputable def DI (_:bn):Bool:=false
def r9 (P:Pg)(B:bn)(fr:Bool)(g:Gh)(h:Heap)(g':Gh)(h':Heap)(t:T)(x:Value):Prop:=Fe P fr g h g' h' t x/\(DI B=true->∀ts,t=.tup ts->Nw (fun l=>g.O l\/h.get? l=none) g' h' x)
def cA (P:Pg)(B:bn)(C:Ct)(fr:Bool)(C':Ct)(W:WP Flow)(p:PS):Prop:=
 ∀n A env g V J s (k:PK aY) (Q:Flow->Shared->Prop) (E:Value->Shared->Prop),At P B C n A env g V J s->p (P.cx n) V J k≠.bad->
  (∀s' g' ρ' J',p (P.cx n) V J k=k ρ' J'->aQ [] (own env) g s g' s'->At P B C' n A env g' ρ' J' s'->Q .next s')->
  (∀x s' g' t J',p (P.cx n) V J k=.ret t J'->aQ [] (own env) g s g' s'->bf P g' s'.heap J'->r9 P B fr g s.heap g' s'.heap t x->Q (.ret x) s')->W A env Q E s
abbrev aL (P:Pg)(B:bn)(C:Ct)(fr:Bool)(C':Ct)(st:Stmt)(p:PS):Prop:=cA P B C fr C' (P.W fun env=>exec st env) p
abbrev fH (P:Pg)(B:bn)(C:Ct)(fr:Bool)(C':Ct)(ss:List Stmt)(p:PS):Prop:=cA P B C fr C' (P.W fun env=>execs ss env) p
section
variable {P:Pg} {B:bn} {C C' C'':Ct} {fr:Bool} {n:Nat} {A:Around} {env:Env} {g g' g₁ g2:Gh} {V:aY} {J:Sg} {s s' s₁ s2:Shared} {h h':Heap}
theorem aC.toS {W:List Addr}(p:aC g s g' s'):aQ [] W g s g' s':=⟨p.st,fun a o e z _ _=>p.keep a o e z,fun a _=>p.back a,p.F,fun a f=>(p.Fn a f).imp_right .inr,p.Zn,fun a ⟨i,q⟩=>.inl ⟨i,p.o▸q⟩,p.sp,p.sa⟩
theorem aQ.b {W:List Addr}(p:aQ [] W g s g₁ s₁)(a:Addr):s₁.heap.get? a=none->s.heap.get? a=none:=p.back a (fun q=>nomatch q)
theorem aQ.trans {VVV W:List Addr}(p:aQ [] W g s g₁ s₁)(q:aQ VVV W g₁ s₁ g2 s2):aQ VVV W g s g2 s2 where
 st:=St.trans p.st q.st
 keep a o e z o' w:=q.keep a o (p.keep a o e z o' w) (fun x=>(p.Zn a x).elim z (ao e)) (fun x=>(p.On a x).elim o' (ao e)) w
 back a v e:=p.b a (q.back a v e)
 F a f:=q.F a (p.F a f)
 Fn a f:=(q.Fn a f).elim (p.Fn a) fun x=>.inr (x.elim (p.On a) fun x=>.inr (p.b a x))
 Zn a f:=(q.Zn a f).elim (p.Zn a) fun x=>.inr (p.b a x)
 On a f:=(q.On a f).elim (p.On a) fun x=>.inr (p.b a x)
 sp:=q.sp.trans p.sp
 sa:=q.sa.trans p.sa
theorem aC.toE {W:List Addr}(p:aC g s g' s'):bC [] W g s g' s':=⟨p.st,fun a o e z _=>p.keep a o e z,fun a _=>p.back a,p.F,p.Fn,p.Zn,p.o,p.sp,p.sa⟩
theorem bC.toS {VVV W:List Addr}(p:bC VVV W g s g' s'):aQ VVV W g s g' s':=⟨p.st,fun a o e z _=>p.keep a o e z,p.back,p.F,fun a f=>(p.Fn a f).imp_right .inr,p.Zn,fun a ⟨i,q⟩=>.inl ⟨i,p.o▸q⟩,p.sp,p.sa⟩
theorem bC.weak {VVV V' W W':List Addr}(p:bC VVV W g s g' s')(hv:∀a∈VVV,a∈V')(hw:∀a∈W,a∈W'):bC V' W' g s g' s':={p with keep:=fun a o e z n=>p.keep a o e z fun x=>n (hw a x),back:=fun a n=>p.back a fun x=>n (hv a x)}
theorem aQ.weak {W W':List Addr}(p:aQ [] W g s g' s')(hw:∀a∈W,a∈W'):aQ [] W' g s g' s':={p with keep:=fun a o e z q n=>p.keep a o e z q fun x=>n (hw a x)}
theorem bC.trans {VVV W:List Addr}(p:bC [] W g s g₁ s₁)(q:bC VVV W g₁ s₁ g2 s2):bC VVV W g s g2 s2:=
 have b:∀a,s₁.heap.get? a=none->s.heap.get? a=none:=fun a=>p.back a (fun q=>nomatch q)
 ⟨St.trans p.st q.st,fun a o e z w=>q.keep a o (p.keep a o e z w) (fun x=>(p.Zn a x).elim z (ao e)) w,fun a v e=>b a (q.back a v e),fun a f=>q.F a (p.F a f),fun a f=>(q.Fn a f).elim (p.Fn a) fun x=>.inr (b a x),fun a f=>(q.Zn a f).elim (p.Zn a) fun x=>.inr (b a x),q.o.trans p.o,q.sp.trans p.sp,q.sa.trans p.sa⟩
theorem bC.toP {VVV W:List Addr}(p:bC VVV W g s g' s')(hw:∀a∈W,s.heap.get? a=none)(hv:∀a∈VVV,s.heap.get? a=none):aC g s g' s':=
 ⟨p.st,fun a o e z=>p.keep a o e z fun x=>ao e (hw a x),fun a e=>by
  by_cases x:a∈VVV
  .exact hv a x
  .exact p.back a x e,p.F,p.Fn,p.Zn,p.o,p.sp,p.sa⟩
theorem r9.after {W:List Addr}{t:T}{x:Value}(p:aQ [] W g s g₁ s₁)(r:r9 P B fr g₁ s₁.heap g' h' t x):r9 P B fr g s.heap g' h' t x:=by
 refine ⟨?_,fun q ts e=>(r.2 q ts e).mono (fun l hl=>hl.elim (p.On l) fun x=>.inr (p.b l x)) (fun _ f=>f) fun _ _ _ e=>e⟩
 have r:=r.1
 cases fr with
 |false=>exact r
 |true=>exact let ⟨a,e,n,f,z,r⟩:=r;⟨a,e,n.elim (p.On a) fun x=>.inr (p.b a x),f,z,r⟩
theorem cA.map {W W':WP Flow}{p:PS}(h:cA P B C fr C' W p)(hW:∀A env Q E s,W A env Q E s->W' A env Q E s):cA P B C fr C' W' p:=fun n A env g V J s k Q E X hb hq hr=>hW A env Q E s (h n A env g V J s k Q E X hb hq hr)
theorem cB.then {α Y:Type}{W:WP α}{p:PG Y}{R:RR α Y}{N:Around->Env->α->(Flow->Shared->Prop)->(Value->Shared->Prop)->Shared->Prop}{F:jQ->aY->PK aY->PK Y}(h:cB P B C W p R)
  (hf:∀n A env g g₁ V J s s₁ x t (k:PK aY) Q E,aC g s g₁ s₁->At P B C n A env g₁ V J s₁->R s.heap g₁ s₁.heap t x->F (P.cx n) V k t J≠.bad->
   (∀s' g' ρ' J',F (P.cx n) V k t J=k ρ' J'->aQ [] (own env) g₁ s₁ g' s'->At P B C' n A env g' ρ' J' s'->Q .next s')->
   (∀x s' g' u J',F (P.cx n) V k t J=.ret u J'->aQ [] (own env) g₁ s₁ g' s'->bf P g' s'.heap J'->r9 P B fr g₁ s₁.heap g' s'.heap u x->Q (.ret x) s')->N A env x Q E s₁):
  cA P B C fr C' (fun A env Q E s=>W A env (fun x s₁=>N A env x Q E s₁) E s) (fun c V J k=>p c V J (F c V k)):=fun n A env g V J s k Q E X hb hq hr=>
 h n A env g V J s (F _ V k) _ E X hb fun x s₁ g₁ t J1 e p w r=>hf n A env g g₁ V J1 s s₁ x t k Q E p (X.post p w) r (fun q=>hb (e.trans q)) (fun s' g' ρ' J' e' p' X'=>hq s' g' ρ' J' (e.trans e') (p.toS.trans p') X')
  fun x s' g' u J' e' p' w' r'=>hr x s' g' u J' (e.trans e') (p.toS.trans p') w' (r9.after (W:=own env) p.toS r')
theorem cA.nil:fH P B C fr C [] am:=fun n A env g V J s k Q E X hb hq hr=>wpAny_execs_nil (hq s g V J rfl (aC.refl g s).toS X)
theorem cA.cons {st:Stmt}{ss:List Stmt}{p ps:PS}(h:aL P B C fr C' st p)(hs:fH P B C' fr C'' ss ps):fH P B C fr C'' (st::ss) (ai p ps):=fun n A env g V J s k Q E X hb hq hr=>by
 refine wpAny_execs_cons (h n A env g V J s (fun V J=>ps _ V J k) _ E X hb (fun s₁ g₁ V1 J1 e p X1=>?_) fun x s₁ g₁ t J1 e p w r=>hr x s₁ g₁ t J1 e p w r)
 exact hs n A env g₁ V1 J1 s₁ k Q E X1 (fun q=>hb (e.trans q)) (fun s' g' ρ' J' e' p' X'=>hq s' g' ρ' J' (e.trans e') (p.trans p') X') fun x s' g' t J' e' p' w' r'=>hr x s' g' t J' (e.trans e') (p.trans p') w' (r9.after p r')
theorem aL.if {t:Expr}{a b:List Stmt}{pt:PT}{pa pb:PS}{pos:Pos}(ht:bI P B C t pt)(h1:fH P B C fr C' a pa)(h2:fH P B C fr C' b pb):aL P B C fr C' (.If t a b pos) (bR pt pa pb):=
 (ht.then (N:=fun A env q Q E s=>wpAny P.M A (if q=true then execs a env else execs b env) Q E s) (F:=fun c V k q J=>bif q then pa c V J k else pb c V J k) fun n A env g g₁ V J s s₁ x t k Q E p X r hb hq hr=>by
  cases r
  cases x with
  |true=>exact h1 n A env g₁ V J s₁ k Q E X hb hq hr
  |false=>exact h2 n A env g₁ V J s₁ k Q E X hb hq hr).map fun A env Q E s h=>wpAny_If (wpAny_mono h (fun q s₁ h=>by cases q<;>exact h) fun _ _ h=>h)
theorem aL.ret {e:Expr}{p:PE}{pos:Pos}(hB:DI B=false)(h:aq P B C e p (RV P)):aL P B C false C' (.Return (some e) pos) (aF p):=
 (h.then (fr:=false) (N:=fun A env x Q E s=>Q (.ret x) s) (F:=fun c V k t J=>.ret t J) fun n A env g g₁ V J s s₁ x t k Q E p X r hb hq hr=>hr x s₁ g₁ t J rfl (aC.refl g₁ s₁).toS X.g ⟨r,fun q=>nomatch hB.symm.trans q⟩).map fun _ _ _ _ _=>wpAny_Return_some
theorem aL.retN {e:Expr}{p:PE}{pos:Pos}(hB:DI B=false)(h:aq P B C e p (RN P)):aL P B C true C' (.Return (some e) pos) (aF p):=fun n A env g V J s k Q E X hb hq hr=>
 wpAny_Return_some (h n A env g V J s (fun t J=>.ret t J) _ E X hb fun x s₁ g₁ t J1 e p w r=>hr x s₁ g₁ t J1 e p.toS w ⟨(let ⟨a,e,n,f,z,o,r⟩:=r;⟨a,e,.inr n,f,z,r⟩),fun q=>nomatch hB.symm.trans q⟩)
theorem aL.retO {i:Nat}{y:Str}{k:NameKind}{ep pos:Pos}(hB:DI B=false)(hv:br C i=true)(ht:B.tab[i]?=some (some (y,k))):aL P B C true C' (.Return (some (.Name y ep)) pos) (aF (pV i)):=fun n A env g V J s k Q E X hb hq hr=>by
 obtain ⟨t,e⟩:=cf hb
 obtain ⟨u,v,w⟩:=X.env.var i _ t ht e
 refine wpAny_Return_some (bq X ht v (hr u s g t J (by show up (b9 V i) J _=_;rw [e];rfl) (aC.refl g s).toS X.g ?_))
 unfold bA at w
 rw [hv] at w
 obtain ⟨a,rfl,o,r⟩:=w
 exact ⟨⟨a,rfl,.inl ⟨i,o⟩,(X.g.O a ⟨i,o⟩).2.1,(X.g.O a ⟨i,o⟩).2.2,r⟩,fun q=>nomatch hB.symm.trans q⟩
theorem aL.expr {e:Expr}{p:PE}{pos:Pos}(hw:∀env,swapsWith e none pos.line env=pure false)(h:aq P B C e p (RX P)):aL P B C fr C (.Expr e pos) (jc p):=fun n A env g V J s k Q E X hb hq hr=>by
 show wpAny P.M A (exec (.Expr e pos) env) Q E s
 rw [exec_Expr env e pos (by simp [interactive,X.fn]) (hw env)]
 exact wpAny_bind (wpAny_standAt (wpAny_bind (h n A env g V J s (fun _ J=>k V J) _ _ X hb fun x s₁ g₁ t J1 e p w r=>wpAny_dropValue (hq s₁ g₁ V J1 e p.toS (X.post p w)))))
theorem aL.bad {st:Stmt}:aL P B C fr C' st gu:=fun n A env g V J s k Q E X hb hq hr=>absurd rfl hb
theorem ic {i j:Nat}{u:T}{v:Option T}:∀{r:aY},b9 (r.set i v) j=some u->(j=i/\v=some u)\/(j≠i/\b9 r j=some u):=by
 induction i generalizing j with
 |zero=>
  intro r h
  cases r with
  |nil=>cases h
  |cons x r=>
   cases j with
   |zero=>exact .inl ⟨rfl,h⟩
   |succ j=>exact .inr ⟨Nat.succ_ne_zero _,h⟩
 |succ i ih=>
  intro r h
  cases r with
  |nil=>cases h
  |cons x r=>
   cases j with
   |zero=>exact .inr ⟨(Nat.succ_ne_zero _).symm,h⟩
   |succ j=>exact (ih (r:=r) h).imp (fun q=>⟨congrArg Nat.succ q.1,q.2⟩) fun q=>⟨fun e=>q.1 (Nat.succ.inj e),q.2⟩
theorem c7 {i j:Nat}{v:Option T}(hn:j≠i):∀{r:aY},b9 r j=none->b9 (r.set i v) j=none:=fun {r} h=>by
 cases e:b9 (r.set i v) j with
 |none=>rfl
 |some u=>exact (ic e).elim (fun q=>(hn q.1).elim) fun q=>by rw [q.2] at h;cases h
theorem gw:∀{tab:List (Option (Str×NameKind))},(tab.filterMap (·.map (·.1))).Nodup->∀{i j:Nat} {x:Str} {k k':NameKind},tab[i]?=some (some (x,k))->tab[j]?=some (some (x,k'))->i=j
 | [],_,i,j,x,k,k',h,_=>nomatch h
 |none::r,hn,i,j,x,k,k',hi,hj=>match i,j,hi,hj with
  |i+1,j+1,hi,hj=>congrArg (·+1) (gw (tab:=r) hn hi hj)
 |some (y,q)::r,hn,i,j,x,k,k',hi,hj=>by
  have hn':(y::r.filterMap (·.map (·.1))).Nodup:=hn
  have out:∀{m:Nat} {q':NameKind},r[m]?=some (some (y,q'))->False:=fun {m q'} h=>(aT hn').1 (List.mem_filterMap.mpr ⟨_,mem_of_getElem? h,rfl⟩)
  cases i with
  |zero=>cases j with
   |zero=>rfl
   |succ j=>cases hi;exact (out hj).elim
  |succ i=>cases j with
   |zero=>cases hj;exact (out hi).elim
   |succ j=>exact congrArg (·+1) (gw (tab:=r) (aT hn').2 hi hj)
theorem bn.inj {B:bn}(h:B.ok=true){i j:Nat}{x:Str}{k k':NameKind}(hi:B.tab[i]?=some (some (x,k)))(hj:B.tab[j]?=some (some (x,k'))):i=j:=by
 simp only [bn.ok,and_eq_true] at h
 exact gw (of_decide_eq_true h.2) hi hj
structure iI (C:Ct) (i:Nat) (C':Ct):Prop where
 m:C'.m=C.m
 o:∀j,j≠i->br C' j=br C j
 un:∀j∈C'.U,j≠i/\j∈C.U
def ch (C:Ct)(i:Nat)(o:Bool)(C':Ct):Bool:=(C'.m==C.m)&&C.O.all (fun j=>Nat.beq j i||br C' j)&&C'.O.all (fun j=>Nat.beq j i||br C j)&&(o==br C' i)&&C'.U.all (fun j=>!Nat.beq j i&&C.U.any (Nat.beq j))
theorem iu {l:List Nat}{i:Nat}(h:l.any (Nat.beq i)=true):i∈l:=by
 obtain ⟨j,h1,h2⟩:=any_eq_true.mp h
 exact eq_of_beq_eq_true h2▸h1
theorem yN {i j:Nat}(h:i≠j):Nat.beq i j=false:=by
 cases e:Nat.beq i j with
 |false=>rfl
 |true=>exact (h (eq_of_beq_eq_true e)).elim
theorem dF {i:Nat}{o:Bool}(h:ch C i o C'=true):iI C i C'/\br C' i=o:=by
 simp only [ch,and_eq_true,all_eq_true,beq_iff_eq,not_eq_true'] at h
 obtain ⟨⟨⟨⟨h1,h2⟩,h3⟩,h4⟩,h5⟩:=h
 have key:∀{D D':Ct},(∀j∈D.O,(Nat.beq j i||br D' j)=true)->∀j,j≠i->br D j=true->br D' j=true:=fun h j n q=>by
  have:=h j (iu q)
  rw [yN n] at this;exact this
 refine ⟨⟨h1,fun j n=>?_,fun j hj=>⟨fun q=>?_,iu (h5 j hj).2⟩⟩,h4.symm⟩
 .cases e:br C j with
  |true=>exact key h2 j n e
  |false=>cases e':br C' j with
   |false=>rfl
   |true=>rw [key h3 j n e'] at e;cases e
 .have:=(h5 j hj).1
  rw [q,beq_refl] at this;cases this
structure BB (P:Pg) (env:Env) (g:Gh) (s:Shared) (h':Heap) (W:Addr):Prop where
 k:aN g s.heap g h'
 p:∀tk,bC [] [W] g s g {s with heap:=h',toks:=tk}
 lv:∀a,s.heap.get? a≠none->h'.get? a≠none
theorem wu {W:Addr}(x:bb P B C env g V s.heap)(w:bf P g s.heap J)(hW:W∈own env)(ho:∀b,b≠W->h'.get? b=s.heap.get? b)(hl:h'.get? W≠none):BB P env g s h' W/\bf P g h' J:=by
 have nf:∀a,g.F a\/g.Z a\/g.O a->h'.get? a=s.heap.get? a:=fun a q=>ho a fun e=>by
  obtain ⟨_,f,z,o⟩:=x.own W hW
  subst e;exact q.elim f fun q=>q.elim z o
 have kf:aN g s.heap g h':=⟨fun a f=>⟨f,fun o e=>(nf a (.inl f)).trans e⟩,rfl⟩
 have lv:∀a,s.heap.get? a≠none->h'.get? a≠none:=fun a l=>by
  by_cases q:a=W
  .exact q▸hl
  .rw [ho a q];exact l
 refine ⟨⟨kf,fun tk=>⟨⟨h',tk,rfl⟩,fun a o e _ n=>(ho a fun q=>n (q▸ay rfl)).trans e,fun a _ e=>?_,fun _ f=>f,fun _ f=>.inl f,fun _ f=>.inl f,rfl,rfl,rfl⟩,lv⟩,
  fun a o e=>⟨(w.base a o e).1,(nf a (.inl (w.base a o e).1)).trans (w.base a o e).2⟩,fun a f=>lv a (w.F a f),fun a z=>⟨lv a (w.Z a z).1,(w.Z a z).2⟩,fun a z=>⟨lv a (w.O a z).1,(w.O a z).2⟩,w.oo,
  ⟨let ⟨t,n,e⟩:=w.spot.1;⟨t,n,(nf _ (.inr (.inl w.spot.2.1))).trans e⟩,w.spot.2⟩,fun c ts e=>(w.self c ts e).mono kf (fun a z=>⟨z,fun o e=>(nf a (.inr (.inl z))).trans e⟩) rfl⟩
 by_cases q:s.heap.get? a=none
 .exact q
 .exact (lv a q e).elim
structure Gx (g g':Gh) (i:Nat):Prop where
 F:g'.F=g.F
 Z:g'.Z=g.Z
 sp:g'.sp=g.sp
 sa:g'.sa=g.sa
 o:∀j,j≠i->g'.o j=g.o j
theorem Gx.refl (g:Gh)(i:Nat):Gx g g i:=⟨rfl,rfl,rfl,rfl,fun _ _=>rfl⟩
theorem Gx.k {i:Nat}(x:Gx g g' i)(h:Heap):aN g h g' h:=⟨fun a f=>⟨x.F▸f,fun _ e=>e⟩,x.sp⟩
theorem bb.forget {i:Nat}(x:bb P B C env g V h)(hc:iI C i C')(q:Gx g g' i)(hno:∀a∈Mine.own env,¬g'.O a):bb P B C' env g' (V.set i none) h:=
 {x with
  own:=fun a ha=>⟨(x.own a ha).1,q.F▸(x.own a ha).2.1,q.Z▸(x.own a ha).2.2.1,hno a ha⟩
  var:=fun j z v hj hv=>by
   rcases ic hv with ⟨_,e⟩ | ⟨n,e⟩
   .cases e
   .obtain ⟨u,h1,h2⟩:=x.var j z v hj e
    refine ⟨u,h1,?_⟩
    unfold bA at h2 ⊢
    rw [hc.o j n]
    cases e:br C j with
    |true=>rw [e] at h2;exact let ⟨a,h3,h4,h5⟩:=h2;⟨a,h3,(q.o j n).trans h4,h5.mono (q.k h) fun _ e=>e⟩
    |false=>rw [e] at h2;exact h2.imp (·.mono (q.k h)) fun ⟨a,b,c,d⟩=>⟨hc.m.trans a,b,c,q.sa▸d⟩
  un:=fun j hj=>c7 (hc.un j hj).1 (x.un j (hc.un j hj).2)}
theorem bb.put {W:Addr}{i:Nat}{o:Option T}{u:Value}(x:bb P B C env g V s.heap)(hi:i∉C.U)(hW:W∈Mine.own env)(T:BB P env g s h' W)(ho:∀b,b≠W->h'.get? b=s.heap.get? b)
  (hv:bH B env h' i u)(hns:∃m,h'.Ns env.locals m)(hcl:∀c u,s.heap.IsCell c u->∃u',h'.IsCell c u')(hot:∀j v,j≠i->bH B env s.heap j v->bH B env h' j v)(q:∀t,o=some t->bA P C g s.heap i t u):bb P B C env g (V.set i o) h':=
 have mv:∀{j t u},bA P C g s.heap j t u->bA P C g h' j t u:=fun v=>v.move T.k rfl rfl fun a ha o e=>(ho a fun q=>(x.own W hW).2.2.2 (q▸ha)).trans e
 {x with
  ns:=hns
  cell:=fun j z kk hj hk=>let ⟨c,u,l,n⟩:=x.cell j z kk hj hk;let ⟨u',n'⟩:=hcl c u n;⟨c,u',l,n'⟩
  own:=fun a ha=>⟨T.lv a (x.own a ha).1,(x.own a ha).2⟩
  var:=fun j z v hj hv'=>(ic hv').elim (fun ⟨e,e'⟩=>by subst e;exact ⟨u,hv,mv (q v e')⟩) fun ⟨n,e⟩=>let ⟨u',h1,h2⟩:=x.var j z v hj e;⟨u',hot j u' n h1,mv h2⟩
  un:=fun j hj=>c7 (fun q:j=i=>hi (q▸hj)) (x.un j hj)}
theorem qZ {h:Heap}{L c:Addr}{m:Str->Option Value}{u:Option Value}(n:h.Ns L m)(k:h.IsCell c u):c≠L:=fun q=>by
 obtain ⟨o,es,ep,e,d,_⟩:=n
 obtain ⟨o',e',d'⟩:=k
 rw [q,e] at e';cases e';rw [d] at d';cases d'
theorem pI {h:Heap}{L:Addr}{m m':Str->Option Value}(n:h.Ns L m)(n':h.Ns L m'){x:Str}:m x=m' x:=by
 obtain ⟨o,es,ep,e,d,_,f⟩:=n
 obtain ⟨o',es',ep',e',d',_,f'⟩:=n'
 rw [e] at e';cases e';rw [d] at d';cases d'
 exact (f x).symm.trans (f' x)
noncomputable def A1 (k:NameKind)(x:Str)(env:Env):List Addr:=match k with
 |.local=>[env.locals]
 |_=>(env.cells.lookup x).toList
theorem cY {k:NameKind}{x:Str}{env:Env}:∀a∈A1 k x env,a∈Mine.own env:=fun a ha=>by
 have hc:a∈(env.cells.lookup x).toList->a∈Mine.own env:=fun h=>mem_cons_of_mem _ (aP (Option.mem_toList.mp h))
 cases k<;>first |exact hc ha |exact mem_cons.mpr (.inl (aa ha))
theorem oC {i:Nat}{y:Str}{k:NameKind}{o:Option T}{u:Value}{Q:Unit->Shared->Prop}{E:Value->Shared->Prop}(X:At P B C n A env g V J s)(hi:i∉C.U)(ht:B.tab[i]?=some (some (y,k)))(hk:k=.local\/k=.cell)(q:∀t,o=some t->bA P C g s.heap i t u)
  (hq:∀s',bC [] (A1 k y env) g s g s'->At P B C n A env g (V.set i o) J s'->bH B env s'.heap i u->(∀j v,j≠i->bH B env s.heap j v->bH B env s'.heap j v)->Q () s'):wpAny P.M A (storeName env y u) Q E s:=by
 obtain ⟨h1,h2,_,_,_⟩:=bn.look X.env.ok ht
 have hl:env.kindOf y=some k:=show env.scope.names.lookup y=_ from X.env.sc▸h2
 have tab:∀{j z kk},j≠i->B.tab[j]?=some (some (z,kk))->z≠y:=fun n hj e=>n (bn.inj X.env.ok (e▸hj) ht)
 rcases hk with rfl |rfl
 .obtain ⟨m,hn⟩:=X.env.ns
  refine wpAny_storeName_local hl hn (fun h' hn' hs=>?_) (by rw [X.fn];rfl)
  obtain ⟨T,w⟩:=wu X.env X.g (W:=env.locals) mem_cons_self hs.2 (let ⟨o,_,_,e,_⟩:=hn';ao e)
  have hot:∀j v,j≠i->bH B env s.heap j v->bH B env h' j v:=fun j v nj hv=>by
   cases hv with
   |loc z m' tz nz ez=>exact .loc z _ tz hn' (by rw [if_neg (tab nj tz),pI hn nz];exact ez)
   |cel z kk c tz hk' l nz=>
    obtain ⟨o,e,d⟩:=id nz
    exact .cel z kk c tz hk' l ⟨o,(hs.2 c (qZ hn nz)).trans e,d⟩
  refine hq _ ((T.p _).weak (fun _ h=>h) fun a ha=>ha) ⟨X.good,X.call,X.room,X.env.put hi mem_cons_self T hs.2 (.loc y _ ht hn' (if_pos rfl)) ⟨_,hn'⟩ (fun c v hc=>?_) hot q,w⟩ (.loc y _ ht hn' (if_pos rfl)) hot
  obtain ⟨o,e,d⟩:=id hc
  exact ⟨v,o,(hs.2 c (qZ hn hc)).trans e,d⟩
 .obtain ⟨c,u0,c1,c4⟩:=X.env.cell i y _ ht (.inl rfl)
  refine wpAny_storeName_cell X.fn hl c1 c4 fun h' hv' hs=>?_
  have hc:c∈own env:=mem_cons_of_mem _ (aP c1)
  obtain ⟨T,w⟩:=wu X.env X.g hc hs.2 (let ⟨o,e,_⟩:=hv';ao e)
  have nl:∀{m},s.heap.Ns env.locals m->h'.Ns env.locals m:=fun hn=>hn.at fun o e=>(hs.2 _ fun q=>qZ hn c4 q.symm).trans e
  have hot:∀j v,j≠i->bH B env s.heap j v->bH B env h' j v:=fun j v nj hv=>by
   cases hv with
   |loc z m' tz nz ez=>exact .loc z m' tz (nl nz) ez
   |cel z kk d tz hk' l nz=>exact .cel z kk d tz hk' l (let ⟨o,e1,e2⟩:=nz;⟨o,(hs.2 d fun e=>tab nj tz (X.env.apart z y d l (e▸c1))).trans e1,e2⟩)
  refine hq _ ((T.p s.toks).weak (fun _ h=>h) fun a ha=>by rw [aa ha];exact Option.mem_toList.mpr c1) ⟨X.good,X.call,X.room,X.env.put hi hc T hs.2 (.cel y _ c ht (.inl rfl) c1 hv') (let ⟨m,hn⟩:=X.env.ns;⟨m,nl hn⟩) (fun d v hd=>?_) hot q,w⟩ (.cel y _ c ht (.inl rfl) c1 hv') hot
  by_cases e:d=c
  .exact ⟨_,e▸hv'⟩
  .exact let ⟨o,e1,e2⟩:=hd;⟨v,o,(hs.2 d e).trans e1,e2⟩
theorem jk {i:Nat}{y:Str}{k:NameKind}{t:T}{u:Value}{Q:Unit->Shared->Prop}{E:Value->Shared->Prop}(X:At P B C n A env g V J s)(hi:i∉C.U)(ht:B.tab[i]?=some (some (y,k)))(hk:k=.local\/k=.cell)(q:bA P C g s.heap i t u)
  (hq:∀s',bC [] (A1 k y env) g s g s'->At P B C n A env g (V.set i (some t)) J s'->(∀j v,j≠i->bH B env s.heap j v->bH B env s'.heap j v)->Q () s'):wpAny P.M A (storeName env y u) Q E s:=
 oC (o:=some t) X hi ht hk (fun _ e=>Option.some.inj e▸q) fun s' p X' _ hot=>hq s' p X' hot
end
noncomputable def v6 (e:Expr)(x:Str)(p:Pos)(l:Nat)(sc:Scope):Bool:=match e with
 |.ListComp _ _ s _ |.SetComp _ _ s _ |.DictComp _ _ _ s _=>(if sc.kind.isAnnotationScope then ScopeKind.function else sc.kind)==.function&&sc.names.lookup x==some .local&&p.line==e.pos.line
   &&!(s.names.any fun (n,k)=>n==x&&(k==.local||k==.cell))
 |_=>false
theorem gx {e:Expr}{x:Str}{p:Pos}{l:Nat}{env:Env}{sc:Scope}(h:env.scope=sc):swapsWith e (some (.Name x p)) l env=pure (v6 e x p l sc):=by
 subst h
 cases e<;>first |rfl
section
variable {P:Pg} {B:bn} {C C' C'':Ct} {fr:Bool} {n:Nat} {A:Around} {env:Env} {g g' g₁ g2:Gh} {V:aY} {J:Sg} {s s' s₁ s2:Shared} {h h':Heap}
theorem iI.nu {i:Nat}(hc:iI C i C'):i∉C'.U:=fun q=>(hc.un i q).1 rfl
theorem set_set (V:aY)(i:Nat)(a b:Option T):(V.set i a).set i b=V.set i b:=List.set_set ..
theorem ib {i:Nat}{y:Str}{k:NameKind}{t:T}{u:Value}{Q:Unit->Shared->Prop}{E:Value->Shared->Prop}(X:At P B C n A env g V J s)(hc:ch C i false C'=true)(ht:B.tab[i]?=some (some (y,k)))(hk:k=.local\/k=.cell)(r:Rp P g s.heap t u)
  (hq:∀s',bC [] (A1 k y env) g s g s'->At P B C' n A env g (V.set i (some t)) J s'->Q () s'):wpAny P.M A (storeName env y u) Q E s:=by
 obtain ⟨hs,ho⟩:=dF hc
 have X2:At P B C' n A env g (V.set i none) J s:=⟨X.good,X.call,X.room,X.env.forget hs (.refl g i) fun a ha=>(X.env.own a ha).2.2.2,X.g⟩
 refine jk X2 hs.nu ht hk (by unfold bA;rw [ho];exact .inl r) fun s' p X' _=>hq s' p ?_
 rw [set_set] at X';exact X'
theorem aL.set {i:Nat}{y:Str}{k:NameKind}{e:Expr}{p:PE}{ps pos:Pos}(hc:ch C i false C'=true)(ht:B.tab[i]?=some (some (y,k)))(hk:k=.local\/k=.cell)(hw:v6 e y ps pos.line B.sc=false)(h:aq P B C e p (RV P)):
  aL P B C fr C' (.Assign [.Name y ps] e pos) (aI i p):=fun n A env g V J s k Q E X hb hq hr=>
 wpAny_Assign_Name (h n A env g V J s (fun v J=>k (V.set i (some v)) J) _ E X hb fun x s₁ g₁ t J1 e p w r=>ib (X.post p w) hc ht hk r fun s' p' X'=>hq s' g₁ _ J1 e (p.toS.trans (p'.toS.weak cY)) X') (by rw [gx X.env.sc,hw])
noncomputable def Gh.put (g:Gh)(i:Nat)(a:Option Addr):Gh:={g with o:=fun j=>bif Nat.beq j i then a else g.o j}
theorem gE (g:Gh)(i:Nat)(a:Option Addr):(g.put i a).o i=a:=by show (bif Nat.beq i i then a else _)=_;rw [beq_refl];rfl
theorem l8 (g:Gh){i j:Nat}(a:Option Addr)(h:j≠i):(g.put i a).o j=g.o j:=by show (bif Nat.beq j i then a else _)=_;rw [yN h];rfl
theorem iO (g:Gh)(i:Nat)(a:Option Addr):Gx g (g.put i a) i:=⟨rfl,rfl,rfl,rfl,fun j h=>l8 g a h⟩
theorem jq {i:Nat}{a:Option Addr}{b:Addr}(h:(g.put i a).O b):a=some b\/∃j,j≠i/\g.o j=some b:=by
 obtain ⟨j,e⟩:=h
 by_cases q:j=i
 .subst q;rw [gE] at e;exact .inl e
 .rw [l8 g a q] at e;exact .inr ⟨j,q,e⟩
theorem bf.put {i:Nat}{a:Option Addr}(w:bf P g h J)(ha:∀b,a=some b->h.get? b≠none/\¬g.F b/\¬g.Z b/\¬g.O b):bf P (g.put i a) h J:=
 ⟨w.base,w.F,w.Z,fun b q=>(jq q).elim (fun e=>let ⟨h1,h2,h3,_⟩:=ha b e;⟨h1,h2,h3⟩) fun ⟨j,_,e⟩=>w.O b ⟨j,e⟩,fun j k b h1 h2=>by
  by_cases q:j=i
  .by_cases q':k=i
   .rw [q,q']
   .subst q;rw [gE] at h1;rw [l8 g a q'] at h2;exact ((ha b h1).2.2.2 ⟨k,h2⟩).elim
  .rw [l8 g a q] at h1
   by_cases q':k=i
   .subst q';rw [gE] at h2;exact ((ha b h2).2.2.2 ⟨j,h1⟩).elim
   .rw [l8 g a q'] at h2;exact w.oo j k b h1 h2,w.spot,fun c ts e=>(w.self c ts e).mono ((iO g i a).k h) (fun _ z=>⟨z,fun _ e=>e⟩) rfl⟩
theorem aL.setN {i:Nat}{y:Str}{k:NameKind}{e:Expr}{p:PE}{ps pos:Pos}(hc:ch C i true C'=true)(ht:B.tab[i]?=some (some (y,k)))(hk:k=.local\/k=.cell)(hw:v6 e y ps pos.line B.sc=false)(h:aq P B C e p (RN P)):
  aL P B C fr C' (.Assign [.Name y ps] e pos) (aI i p):=fun n A env g V J s k Q E X hb hq hr=>by
 refine wpAny_Assign_Name (h n A env g V J s (fun v J=>k (V.set i (some v)) J) _ E X hb fun x s₁ g₁ t J1 e p w r=>?_) (by rw [gx X.env.sc,hw])
 obtain ⟨hs,ho⟩:=dF hc
 obtain ⟨a,rfl,nw,f,z,o,r⟩:=r
 have X1:=X.post p w
 have ow:∀b∈own env,¬(g₁.put i (some a)).O b:=fun b hb q=>(jq q).elim (fun q=>(X.env.own b hb).1 (Option.some.inj q▸nw)) fun ⟨j,_,q⟩=>(X1.env.own b hb).2.2.2 ⟨j,q⟩
 have pa:aQ [] (own env) g s (g₁.put i (some a)) s₁:={(p.toS:aQ [] (own env) g s g₁ s₁) with On:=fun b q=>(jq q).elim (fun q=>.inr (Option.some.inj q▸nw)) fun ⟨j,_,q⟩=>.inl ⟨j,p.o▸q⟩}
 have X2:At P B C' n A env (g₁.put i (some a)) (V.set i none) J1 s₁:=⟨X.good,X.call,X.room,X1.env.forget hs (iO g₁ i _) ow,w.put fun b q=>Option.some.inj q▸⟨r.live,f,z,o⟩⟩
 refine wpAny_mono (jk (E:=E) X2 hs.nu ht hk (by unfold bA;rw [ho];exact ⟨a,rfl,gE ..,r.mono ((iO g₁ i _).k _) fun _ e=>e⟩) fun s' p' X' _=>hq s' _ _ J1 e (pa.trans (p'.toS.weak cY)) ?_) (fun _ _ h=>h) fun _ _ h=>h
 rw [set_set] at X';exact X'
theorem bb.add {i:Nat}{t:T}{u:Value}(x:bb P B C env g V h)(hi:i∉C.U)(hv:bH B env h i u)(q:bA P C g h i t u):bb P B C env g (V.set i (some t)) h:=
 {x with
  var:=fun j z v hj hv'=>(ic hv').elim (fun ⟨e,e'⟩=>by cases e';subst e;exact ⟨u,hv,q⟩) fun ⟨n,e⟩=>x.var j z v hj e
  un:=fun j hj=>c7 (fun q:j=i=>hi (q▸hj)) (x.un j hj)}
theorem wM {i:Nat}{t:T}:∀{V:aY},b9 V i=some t->V.set i (some t)=V:=by
 induction i with
 |zero=>intro V h;cases V with
  |nil=>cases h
  |cons x r=>rw [show x=_ from h];rfl
 |succ i ih=>intro V h;cases V with
  |nil=>cases h
  |cons x r=>exact congrArg (x::·) (ih (V:=r) h)
theorem iB {i:Nat}:∀{V:aY},b9 V i=none->V.set i none=V:=by
 induction i with
 |zero=>intro V h;cases V with
  |nil=>rfl
  |cons x r=>rw [show x=_ from h];rfl
 |succ i ih=>intro V h;cases V with
  |nil=>rfl
  |cons x r=>exact congrArg (x::·) (ih (V:=r) h)
theorem Ey {i:Nat}{y:Str×NameKind}(X:At P B C n A env g V J s)(hv:br C i=true)(hc:ch C i false C'=true)(ht:B.tab[i]?=some (some y)):∃g',aQ [] (own env) g s g' s/\At P B C' n A env g' V J s:=by
 obtain ⟨hs,ho⟩:=dF hc
 have w1:bf P (g.put i none) s.heap J:=X.g.put fun _ q=>nomatch q
 have no:∀b∈own env,¬(g.put i none).O b:=fun b hb q=>(jq q).elim (fun q=>nomatch q) fun ⟨j,_,q⟩=>(X.env.own b hb).2.2.2 ⟨j,q⟩
 have x1:=X.env.forget hs (iO g i none) no
 have on:∀b,(g.put i none).O b->g.O b:=fun b q=>(jq q).elim (fun q=>nomatch q) fun ⟨j,_,q⟩=>⟨j,q⟩
 have p0:=(aC.refl g s).toS (W:=own env)
 cases e:b9 V i with
 |none=>
  rw [iB e] at x1
  exact ⟨g.put i none,{p0 with On:=fun b q=>.inl (on b q)},X.good,X.call,X.room,x1,w1⟩
 |some t=>
  obtain ⟨u,v,q⟩:=X.env.var i y t ht e
  unfold bA at q
  rw [hv] at q
  obtain ⟨a,rfl,o,r⟩:=q
  have hO:=X.g.O a ⟨i,o⟩
  have na:¬(g.put i none).O a:=fun q=>(jq q).elim (fun q=>nomatch q) fun ⟨j,n,q⟩=>n (X.g.oo j i a q o)
  have w2:=w1.freeze (a:=a) hO.1 hO.2.2 na
  have kf:aN (g.put i none) s.heap {g.put i none with F:=fun y=>g.F y\/y=a} s.heap:=⟨fun b f=>⟨.inl f,fun _ e=>e⟩,rfl⟩
  have x2:=x1.move (g':={g.put i none with F:=fun y=>g.F y\/y=a}) kf rfl rfl (fun _ _ _ e=>e) fun b hb=>⟨(X.env.own b hb).1,fun f=>f.elim (X.env.own b hb).2.1 fun e=>(X.env.own b hb).2.2.2 (e▸⟨i,o⟩),(X.env.own b hb).2.2.1⟩
  have x3:=x2.add hs.nu v (t:=t) (by unfold bA;rw [ho];exact .inl ((r.mono (((iO g i none).k _)) fun _ e=>e).mono kf (fun _ e=>e) |>.rp (.inr rfl)))
  rw [set_set,wM e] at x3
  exact ⟨{g.put i none with F:=fun y=>g.F y\/y=a},{p0 with F:=fun b f=>.inl f,Fn:=fun b f=>f.elim .inl fun q=>.inr (.inl (q▸⟨i,o⟩)),On:=fun b q=>.inl (on b q)},X.good,X.call,X.room,x3,w2⟩
theorem cA.fz {i:Nat}{y:Str×NameKind}{W:WP Flow}{p:PS}(hv:br C i=true)(hc:ch C i false C'=true)(ht:B.tab[i]?=some (some y))(h:cA P B C' fr C'' W p):cA P B C fr C'' W p:=fun n A env g V J s k Q E X hb hq hr=>by
 obtain ⟨g',pz,X'⟩:=Ey X hv hc ht
 exact h n A env g' V J s k Q E X' hb (fun s' g' ρ' J' e p X=>hq s' g' ρ' J' e (pz.trans p) X) fun x s' g' t J' e p w r=>hr x s' g' t J' e (pz.trans p) w (r.after pz)
theorem aL.while {test:Expr}{body:List Stmt}{t:PT}{pb:PS}{pos:Pos}(m:Nat)(ht:bI P B C test t)(hb:fH P B C fr C body pb):aL P B C fr C (.While test body [] pos) (gr m t pb):=fun n A env g V J s k Q E X hbad hq hr=>by
 refine wpAny_While ?_
 refine codeAny_whileLoop (fun m' s₁=>∃g₁ V1 J1,At P B C n A env g₁ V1 J1 s₁/\aQ [] (own env) g s g₁ s₁/\gr m t pb (P.cx n) V J k=iJ t pb (P.cx n) m' V1 J1 k) ?_ m ⟨g,V,J,X,(aC.refl g s).toS,rfl⟩
 rintro m' s₁ ⟨g₁,V1,J1,X1,p1,e1⟩
 cases m' with
 |zero=>exact absurd (e1.trans wg) hbad
 |succ m'=>
  rw [qA] at e1
  refine ht n A env g₁ V1 J1 s₁ _ _ _ X1 (fun q=>hbad (e1.trans q)) fun b s2 g2 b' J2 e2 p2 wa r2=>?_
  cases r2
  have X2:=X1.post p2 wa
  have p_12:=p1.trans p2.toS
  cases b with
  |true=>
   refine hb n A env g2 V1 J2 s2 _ _ _ X2 (fun q=>hbad (e1.trans (e2.trans q))) (fun s3 g3 V3 J3 e3 p3 X3=>?_) fun x s3 g3 t J3 e3 p3 w3 r3=>?_
   .exact ⟨m',lt_succ_self m',g3,V3,J3,X3,p_12.trans p3,e1.trans (e2.trans e3)⟩
   .exact hr x s3 g3 t J3 (e1.trans (e2.trans e3)) (p_12.trans p3) w3 (r3.after p_12)
  |false=>exact wpAny_execs_nil (hq s2 g2 V1 J2 (e1.trans e2) p_12 X2)
end
def jU (g:Gh)(env:Env)(vol:List Addr):Prop:=∀a∈vol,¬g.F a/\¬g.Z a/\¬g.O a/\a∉own env
structure n5 (P:Pg) (A:Around) (I:Addr) (ts:List T) (vol fx:List Addr) (St:Nat->Gh->Heap->Prop):Prop where
 self:∀i g s (Q:Value->Shared->Prop) (E:Value->Shared->Prop),St i g s.heap->Q (.ref I) s->wpAny P.M A (pyIter (.ref I)) Q E s
 stay:∀i g h g' h',St i g h->aN g h g' h'->(∀a∈vol++fx,∀o,h.get? a=some o->h'.get? a=some o)->St i g' h'
 here:∀i g h,St i g h->∀a∈vol++fx,h.get? a≠none
 item:∀i t g s (Q:Option Value->Shared->Prop) (E:Value->Shared->Prop),ts[i]?=some t->St i g s.heap->(∀a∈vol,¬g.F a)->
  (∀u h' tk,(∀a o,s.heap.get? a=some o->a∉vol->h'.get? a=some o)->Rp P g h' t u->St (i+1) g h'->Q (some u) {s with heap:=h',toks:=tk})->wpAny P.M A (pyNext (.ref I)) Q E s
 done:∀g s (Q:Option Value->Shared->Prop) (E:Value->Shared->Prop),St ts.length g s.heap->(∀h' tk,(∀a o,s.heap.get? a=some o->a∉vol->h'.get? a=some o)->Q none {s with heap:=h',toks:=tk})->wpAny P.M A (pyNext (.ref I)) Q E s
structure jP (P:Pg) (A:Around) (B:bn) (C C':Ct) (target:Expr) (zb:PB) (tw:Env->List Addr) (I:Addr) (ts:List T) (vol fx:List Addr) (St:Nat->Gh->Heap->Prop):Prop where
 sub:∀env,∀a∈tw env,a∈own env
 self:∀i g s (Q:Value->Shared->Prop) (E:Value->Shared->Prop),St i g s.heap->Q (.ref I) s->wpAny P.M A (pyIter (.ref I)) Q E s
 stay:∀i g h g' h',St i g h->aN g h g' h'->(∀a∈vol++fx,∀o,h.get? a=some o->h'.get? a=some o)->St i g' h'
 here:∀i g h,St i g h->∀a∈vol++fx,h.get? a≠none
 item:∀i t n env g V ρ' J s (Q:Shared->Prop) (E:Value->Shared->Prop),ts[i]?=some t->At P B C n A env g V J s->jU g env (vol++fx)->St i g s.heap->zb t V=some ρ'->
  (∀s',bC [] (vol++tw env) g s g s'->At P B C' n A env g ρ' J s'->St (i+1) g s'.heap->Q s')->
  wpAny P.M A (pyNext (.ref I)) (fun r s₁=>match r with
   |none=>False
   |some u=>wpAny P.M A (letOwnedTupleGo target (.ref I) u) (fun _ s2=>wpAny P.M A (assign target env u) (fun _ s3=>Q s3) E s2) E s₁) E s
 done:∀n env g V J s (Q:Shared->Prop) (E:Value->Shared->Prop),At P B C n A env g V J s->jU g env (vol++fx)->St ts.length g s.heap->(∀s',bC vol vol g s g s'->At P B C n A env g V J s'->Q s')->
  wpAny P.M A (pyNext (.ref I)) (fun r s₁=>match r with |none=>Q s₁ |some _=>False) E s
section
variable {P:Pg} {B:bn} {C C' C'':Ct} {fr:Bool} {n:Nat} {A:Around} {env:Env} {g g' g₁ g2:Gh} {V:aY} {J:Sg} {s s' s₁ s2:Shared} {h h':Heap}
theorem jU.post {vol:List Addr}(v:jU g env vol)(l:∀a∈vol,s.heap.get? a≠none)(p:aQ [] (own env) g s g' s'):jU g' env vol/\∀a∈vol,∀o,s.heap.get? a=some o->s'.heap.get? a=some o:=
 ⟨fun a ha=>let ⟨f,z,o,w⟩:=v a ha;⟨fun q=>(p.Fn a q).elim f fun q=>q.elim o (l a ha),fun q=>(p.Zn a q).elim z (l a ha),fun q=>(p.On a q).elim o (l a ha),w⟩,fun a ha o e=>let ⟨_,z,q,w⟩:=v a ha;p.keep a o e z q w⟩
theorem aQ.k {VVV W:List Addr}(p:aQ VVV W g s g' s')(w:bf P g s.heap J)(hW:∀a∈W,¬g.F a):aN g s.heap g' s'.heap:=⟨fun a f=>⟨p.F a f,fun o e=>p.keep a o e (fun z=>(w.Z a z).2 f) (fun q=>(w.O a q).2.1 f) fun q=>hW a q f⟩,p.sp⟩
noncomputable abbrev nt (P:Pg)(A:Around)(env:Env)(R:Result->Shared->Prop):Value->Shared->Prop:=notedBy P.M A env fun e s'=>R (.error e) s'
noncomputable def Ez (P:Pg)(A:Around)(env:Env)(target:Expr)(I:Addr)(body:List Stmt)(R:Result->Shared->Prop):Flow->Shared->Prop:=fun f s=>match f with
 |.next |.cont=>codeAny P.M A (.forLoop target (.ref I) body [] env) R s
 |.brk=>R (.ok .next) s
 |.ret v=>R (.ok (.ret v)) s
theorem jG {target:Expr}{body:List Stmt}{I:Addr}{R:Result->Shared->Prop}(nx:wpAny P.M A (pyNext (.ref I)) (fun r s=>match r with
   |none=>R (.ok .next) s
   |some u=>wpAny P.M A (letOwnedTupleGo target (.ref I) u) (fun _ s=>wpAny P.M A (assign target env u) (fun _ s=>wpAny P.M A (execs body env) (Ez P A env target I body R) (nt P A env R) s) (nt P A env R) s) (nt P A env R) s) (nt P A env R) s):codeAny P.M A (.forLoop target (.ref I) body [] env) R s:=by
 refine codeAny_of_tree ?_
 show wpAny P.M A ((forTurn target (.ref I) body [] env).onRaise (fun x=>do noteFrame x env;theTreesLotGoes x)) _ _ s
 refine wpAny_noted ?_
 simp only [forTurn]
 refine wpAny_bind (wpAny_standAt (wpAny_bind (wpAny_onRaise (wpAny_mono nx (fun r s₁ h1=>?_) fun _ _ h'=>wpAny_standAt h'))))
 cases r with
 |none=>exact wpAny_pure ⟨rfl,codeAny_block (wpAny_execs_nil h1)⟩
 |some u=>
  refine wpAny_bind (wpAny_mono h1 (fun _ s2 h2=>wpAny_bind (wpAny_mono h2 (fun _ s3 h3=>wpAny_bind (wpAny_mono h3 (fun f s4 h4=>?_) fun _ _ h'=>h')) fun _ _ h'=>h')) fun _ _ h'=>h')
  cases f with
  |next=>exact wpAny_pure ⟨rfl,h4⟩
  |cont=>exact wpAny_pure ⟨rfl,h4⟩
  |brk=>exact wpAny_pure h4
  |ret v=>exact wpAny_pure h4
theorem yn {target:Expr}{body:List Stmt}{zb:PB}{tw:Env->List Addr}{pb:PS}{I:Addr}{ts:List T}{vol fx:List Addr}{St:Nat->Gh->Heap->Prop}{k:PK aY}{R:Result->Shared->Prop}(T:jP P A B C C' target zb tw I ts vol fx St)(hbody:fH P B C' fr C body pb):
  ∀(rest:List Mine.T) (i:Nat) (g:Gh) (V:aY) (J:Sg) (s:Shared),i<=ts.length->ts.drop i=rest->At P B C n A env g V J s->jU g env (vol++fx)->St i g s.heap->dB zb pb (P.cx n) rest V J k≠.bad->
   (∀s' g' ρ' J',dB zb pb (P.cx n) rest V J k=k ρ' J'->aQ vol (vol++own env) g s g' s'->At P B C n A env g' ρ' J' s'->R (.ok .next) s')->
   (∀x s' g' t J',dB zb pb (P.cx n) rest V J k=.ret t J'->aQ [] (vol++own env) g s g' s'->bf P g' s'.heap J'->r9 P B fr g s.heap g' s'.heap t x->R (.ok (.ret x)) s')->
   codeAny P.M A (.forLoop target (.ref I) body [] env) R s:=by
 intro rest
 induction rest with
 |nil=>
  intro i g V J s hle hd X hv st hb hq hr
  obtain rfl:i=ts.length:=le_antisymm hle (List.drop_eq_nil_iff.mp hd)
  exact jG (wpAny_mono (T.done n env g V J s (fun s'=>R (.ok .next) s') (nt P A env R) X hv st fun s' p X'=>hq s' g V J rfl (p.weak (fun _ h=>h) fun a=>mem_append_left _).toS X') (fun r s₁ h=>match r with |none=>h |some _=>h.elim) fun _ _ h=>h)
 |cons v rest ih=>
  intro i g V J s hle hd X hv st hb hq hr
  have hiv:ts[i]?=some v:=by rw [<-head?_drop,hd];rfl
  have hi:i < ts.length:=(aj hiv).1
  have hd':ts.drop (i+1)=rest:=by rw [<-tail_drop,hd];rfl
  cases hρ:zb v V with
  |none=>rw [yo,hρ] at hb;exact absurd rfl hb
  |some ρ'=>
   have e1:dB zb pb (P.cx n) (v::rest) V J k=pb (P.cx n) ρ' J fun V J=>dB zb pb (P.cx n) rest V J k:=by rw [yo,hρ]
   rw [e1] at hb hq hr
   refine jG (wpAny_mono (T.item i v n env g V ρ' J s (fun s3=>wpAny P.M A (execs body env) (Ez P A env target I body R) (nt P A env R) s3) (nt P A env R) hiv X hv st hρ fun s3 p3 X3 st3=>?_) (fun r s₁ h=>match r with |none=>h.elim |some _=>h) fun _ _ h=>h)
   have lv3:=T.here _ _ _ st3
   replace p3:=(p3.weak (fun _ h=>h) fun a h=>(ag h).elim (mem_append_left _) fun h=>mem_append_right vol (T.sub env a h)).toS
   refine hbody n A env g ρ' J s3 _ _ _ X3 hb (fun s4 g4 V4 J4 e4 p4 X4=>?_) fun x s4 g4 t J4 e4 p4 w4 r4=>?_
   .rw [e4] at hb hq hr
    have p_34:=p3.trans (p4.weak fun a=>mem_append_right vol)
    obtain ⟨hv4,kp⟩:=hv.post lv3 p4
    exact ih (i+1) g4 V4 J4 s4 hi hd' X4 hv4 (T.stay _ _ _ _ _ st3 (p4.k X3.g fun a ha=>(X3.env.own a ha).2.1) kp) hb (fun s' g' ρ' J' e p X=>hq s' g' ρ' J' e (p_34.trans p) X) fun x s' g' t J' e p w r=>hr x s' g' t J' e (p_34.trans p) w (r.after p_34)
   .exact hr x s4 g4 t J4 e4 (p3.trans (p4.weak fun a=>mem_append_right vol)) w4 (r4.after p3)
def BC (P:Pg)(B:bn)(C:Ct)(n:Nat)(A:Around)(env:Env)(g:Gh)(V:aY)(J:Sg)(s:Shared)(iter:Expr)(mk:Around->Addr->List T->List Addr->List Addr->(Nat->Gh->Heap->Prop)->Prop)(p:PL):Prop:=
 ∀(k:PK (List T)) (Q:Value->Shared->Prop) (E:Value->Shared->Prop),At P B C n A env g V J s->p (P.cx n) V J k≠.bad->
  (∀s' g' ts J' I vol fx St,p (P.cx n) V J k=k ts J'->aC g s g' s'->bf P g' s'.heap J'->mk A I ts vol fx St->St 0 g' s'.heap->(∀a∈vol,s.heap.get? a=none/\¬g'.F a/\¬g'.Z a)->jU g' env fx->ts.length<=lim->Q (.ref I) s')->
  wpAny P.M A (eval iter env) (fun x s₁=>wpAny P.M A (pyIter x) Q E s₁) E s
def fI (P:Pg)(B:bn)(C:Ct)(iter:Expr)(mk:Around->Addr->List T->List Addr->List Addr->(Nat->Gh->Heap->Prop)->Prop)(p:PL):Prop:=
 ∀n A env g V J s,BC P B C n A env g V J s iter mk p
theorem aL.for {iter target:Expr}{zb:PB}{tw:Env->List Addr}{pi:PL}{body:List Stmt}{pb:PS}{pos:Pos}(hs:∀env x,foldedSetIterable iter env x=pure x)(hi:fI P B C iter (fun A I ts vol fx St=>jP P A B C C' target zb tw I ts vol fx St) pi)(hb:fH P B C' fr C body pb):
  aL P B C fr C (.For target iter body [] pos) (dv pi zb pb):=fun n A env g V J s k Q E X hbad hq hr=>by
 refine wpAny_For (hi n A env g V J s (fun xs J=>dB zb pb _ xs V J k) _ _ X hbad fun s₁ g₁ ts J1 I vol fx St e p w T st hv hx hl=>?_) (hs env)
 have X1:=X.post p w
 have dr:∀{VVV s' g'},(∀a∈VVV,a∈vol)->aQ VVV (vol++own env) g₁ s₁ g' s'->aQ [] (own env) g s g' s':=fun {VVV s' g'} hV q=>
  have qb:∀a,s'.heap.get? a=none->s.heap.get? a=none:=fun a e=>by
   by_cases x:a∈vol
   .exact (hv a x).1
   .exact p.back a (q.back a (fun y=>x (hV a y)) e)
  ⟨Mine.St.trans p.st q.st,fun a o e z o' w=>q.keep a o (p.keep a o e z) (fun x=>(p.Zn a x).elim z (ao e)) (fun ⟨i,x⟩=>o' ⟨i,p.o▸x⟩) fun x=>(ag x).elim (fun x=>ao e (hv a x).1) w,fun a _ e=>qb a e,fun a f=>q.F a (p.F a f),
   fun a f=>(q.Fn a f).elim (fun f=>(p.Fn a f).imp_right .inr) fun x=>.inr (x.imp (fun ⟨i,x⟩=>⟨i,p.o▸x⟩) (p.back a)),fun a f=>(q.Zn a f).elim (p.Zn a) fun x=>.inr (p.back a x),fun a f=>(q.On a f).imp (fun ⟨i,x⟩=>⟨i,p.o▸x⟩) (p.back a),q.sp.trans p.sp,q.sa.trans p.sa⟩
 exact yn T hb ts 0 g₁ V J1 s₁ (zero_le _) rfl X1 (fun a ha=>(ag ha).elim (fun ha=>⟨(hv a ha).2.1,(hv a ha).2.2,fun ⟨i,q⟩=>(X.g.O a ⟨i,p.o▸q⟩).1 (hv a ha).1,fun q=>(X.env.own a q).1 (hv a ha).1⟩) (hx a)) st (fun q=>hbad (e.trans q))
  (fun s' g' ρ' J' e' p' X'=>hq s' g' ρ' J' (e.trans e') (dr (fun _ q=>q) p') X') fun x s' g' t J' e' p' w' r'=>hr x s' g' t J' (e.trans e') (dr (VVV:=[]) (fun _ (q:_∈[])=>nomatch q) p') w' (r'.after (p.toS (W:=[])))
theorem cW {vol:List Addr}(X:At P B C n A env g V J s)(hv:jU g env vol)(k:∀a o,s.heap.get? a=some o->a∉vol->h'.get? a=some o)(tk:Nat):bC vol vol g s g {s with heap:=h',toks:=tk}/\At P B C n A env g V J {s with heap:=h',toks:=tk}:=by
 have kk:∀a,g.F a\/g.Z a\/g.O a\/a∈own env->∀o,s.heap.get? a=some o->h'.get? a=some o:=fun a q o e=>k a o e fun x=>let ⟨f,z,o,w⟩:=hv a x;q.elim f fun q=>q.elim z fun q=>q.elim o w
 have kf:aN g s.heap g h':=⟨fun a f=>⟨f,kk a (.inl f)⟩,rfl⟩
 have lo:∀a,g.F a\/g.Z a\/g.O a\/a∈own env->s.heap.get? a≠none->h'.get? a≠none:=fun a q l=>by
  cases e:s.heap.get? a with
  |none=>exact (l e).elim
  |some o=>exact ao (kk a q o e)
 refine ⟨⟨⟨h',tk,rfl⟩,fun a o e _ n=>k a o e n,fun a v e=>?_,fun _ f=>f,fun _ f=>.inl f,fun _ f=>.inl f,rfl,rfl,rfl⟩,X.good,X.call,X.room,
  X.env.move kf rfl rfl (fun a q=>kk a (.inr (.inr q))) fun a ha=>⟨lo a (.inr (.inr (.inr ha))) (X.env.own a ha).1,(X.env.own a ha).2.1,(X.env.own a ha).2.2.1⟩,
  fun a o e=>⟨(X.g.base a o e).1,kk a (.inl (X.g.base a o e).1) o (X.g.base a o e).2⟩,fun a f=>lo a (.inl f) (X.g.F a f),fun a z=>⟨lo a (.inr (.inl z)) (X.g.Z a z).1,(X.g.Z a z).2⟩,fun a z=>⟨lo a (.inr (.inr (.inl z))) (X.g.O a z).1,(X.g.O a z).2⟩,X.g.oo,
  ⟨let ⟨t,n,e⟩:=X.g.spot.1;⟨t,n,kk _ (.inr (.inl X.g.spot.2.1)) _ e⟩,X.g.spot.2⟩,fun c ts e=>(X.g.self c ts e).mono kf (fun a z=>⟨z,kk a (.inr (.inl z))⟩) rfl⟩
 cases q:s.heap.get? a with
 |none=>rfl
 |some o=>exact (ao (k a o q v) e).elim
theorem eh {vol W:List Addr}(p:bC vol W g s g' s')(lv:∀a∈vol,s'.heap.get? a≠none):bC [] W g s g' s':={p with back:=fun a _ e=>p.back a (fun q=>lv a q e) e}
theorem n5.one {I:Addr}{ts:List T}{vol fx:List Addr}{St:Nat->Gh->Heap->Prop}(T:n5 P A I ts vol fx St){i:Nat}{y:Str}{k:NameKind}{p:Pos}(hc:ch C i false C'=true)(ht:B.tab[i]?=some (some (y,k)))(hk:k=.local\/k=.cell):jP P A B C C' (.Name y p) (bz i) (A1 k y) I ts vol fx St where
 sub env:=cY
 self:=T.self
 stay:=T.stay
 here:=T.here
 item j t n env g V ρ' J s Q E hj X hv st hρ hq:=by
  cases hρ
  have hvv:jU g env vol:=fun a ha=>hv a (mem_append_left _ ha)
  refine T.item j t g s _ _ hj st (fun a ha=>(hvv a ha).1) fun u h' tk hkp r st'=>?_
  obtain ⟨pV,X1⟩:=cW X hvv hkp tk
  have pV:=eh pV fun a ha=>T.here _ _ _ st' a (mem_append_left _ ha)
  show wpAny P.M A (pure ()) _ _ _
  refine wpAny_pure (wpAny_assign_Name (ib X1 hc ht hk r fun s' p' X'=>hq s' ((pV.weak (fun _ h=>h) fun a=>mem_append_left _).trans (p'.weak (fun _ h=>h) fun a=>mem_append_right vol)) X' ?_))
  have pS:=p'.toS.weak cY
  exact T.stay _ _ _ _ _ st' (pS.k X1.g fun a ha=>(X1.env.own a ha).2.1) (hv.post (s:={s with heap:=h',toks:=tk}) (T.here _ _ _ st') pS).2
 done n env g V J s Q E X hv st hq:=T.done g s _ _ st fun h' tk hkp=>let ⟨pV,X1⟩:=cW X (fun a ha=>hv a (mem_append_left _ ha)) hkp tk;hq _ pV X1
end
section
variable {P:Pg} {B:bn} {C C' C'':Ct} {fr:Bool} {n:Nat} {A:Around} {env:Env} {g g' g₁ ga:Gh} {V:aY} {J:Sg} {s s' s₁ s2:Shared} {h h':Heap}
theorem bc {pos:Pos}{l:List (Bool×Sem Value)}(h:∀q∈l,q.1=false):∀q∈backTo pos l,q.1=false:=fun q hq=>by
 obtain ⟨p,h1,rfl⟩:=aG (show q∈List.map _ l from hq)
 exact h p h1
theorem cr {M:Model}{E:Value->Shared->Prop}{f:Value}{trees:List (Bool×Sem Value)}{Q:PySem.Args->Shared->Prop}(hp:∀p∈trees,p.1=false)
  (h:wpAny M A (spliced trees) (fun vs s'=>Q ⟨vs,[]⟩ s') E s):wpAny M A (evalArgs f true trees []) Q E s:=by
 cases trees with
 |nil=>
  unfold evalArgs
  show wpAny M A (spliced [] >>=_) Q E s
  refine wpAny_bind (wpAny_mono h (fun vs s' h'=>?_) fun _ _ x=>x)
  exact wpAny_holding (wpAny_bind (wpAny_pure (wpAny_bind (wpAny_pure (wpAny_pure h')))))
 |cons t r=>
  obtain ⟨b,x⟩:=t
  obtain rfl:b=false:=hp (b,x) mem_cons_self
  exact Calls.evalArgs_plain h
theorem At.base (X:At P B C n A env g V J s):∀a o,P.h₀.get? a=some o->s.heap.get? a=some o:=fun a o e=>(X.g.base a o e).2
theorem At.blt (X:At P B C n A env g V J s){x:Str}{pos:Pos}{v:Value}{Q:Value->Shared->Prop}{E:Value->Shared->Prop}(hx:B.sc.names.lookup x=some .globalImplicit)(hd:(x==("__debug__":Str))=false)
  (hm:x∈g9)(hv:bootBuiltins x=some v)(h:Q v s):wpAny P.M A (eval (.Name x pos) env) Q E s:=
 have ⟨g1,g2⟩:=X.good.blt x hm
 Calls.Name_function_global X.fn (show env.scope.names.lookup x=_ from X.env.sc▸hx) (Calls.loadGlobal_builtin (mg:=P.mg) (mb:=P.mb) (X.env.glob▸X.good.g.keeps X.base) g1 (X.env.blt▸X.good.b.keeps X.base) (g2.trans hv) h) hd
theorem xi {o:du}{k:PK T}(h:f8 o k≠.bad):∃t J,o=.ret t J:=by
 cases o with
 |ret t J=>exact ⟨t,J,rfl⟩
 |_=>exact absurd (by with_unfolding_all rfl) h
theorem BD.after {fr:Bool}{t:T}{x:Value}{he:Heap}(b:∀a,he.get? a=none->h.get? a=none)(r:BD P fr he g' h' t x):BD P fr h g' h' t x:=by
 cases fr with
 |false=>exact r
 |true=>exact EK _ _ _ _ _ _ b r
theorem vV.after {f:Nat}{t:T}{x:Value}{he:Heap}(b:∀a,he.get? a=none->h.get? a=none)(r:vV P f he g' h' t x):vV P f h g' h' t x:=⟨r.1.after b,fun q ts e=>(r.2 q ts e).mono (fun l=>b l) (fun _ f=>f) fun _ _ _ e=>e⟩
noncomputable abbrev RF (P:Pg)(f:Nat):RR Value T:=fun h g' h' t x=>vV P f h g' h' t x
theorem rM {f:Nat}{ts:List T}{vs:List Value}{t:T}{J':Sg}{Q:Value->Shared->Prop}{E:Value->Shared->Prop}(X:At P B C n A env g V J s)(r:Args P (oK f) g s.heap ts vs)(e:af P.Ψ n f ts J=.ret t J')(hq:∀x s' g',aC g s g' s'->bf P g' s'.heap J'->vV P f s.heap g' s'.heap t x->Q x s'):
  wpAny P.M A (PySem.call (.ref (P.fnA f)) vs) Q E s:=
 wpAny_call (codeAny_mono (X.call n (le_refl n) f A ts vs g J s t J' Q E X.room.c X.g r e hq) fun r s' q=>by
  match r,q with
  |.ok (.ret u),q=>exact q
  |.ok .next,q=>exact q.elim
  |.ok .brk,q=>exact q.elim
  |.ok .cont,q=>exact q.elim
  |.error u,q=>exact q)
theorem aq.callF {y:Str}{f:Nat}{F:eP}{es:List Expr}{ps:PL}{p pos:Pos}(hf:P.Ψ f=some F)(hn:P.gl f=true/\(P.fd f).name=y)(hm:oK f=false)(hx:B.sc.names.lookup y=some .globalImplicit)(hd:(y==("__debug__":Str))=false)(h:dk P B C es ps):
  aq P B C (.Call (.Name y p) es [] pos) (aw f ps) (RF P f):=fun n A env g V J s k Q E X hb hq=>by
 obtain ⟨o,g1,g2,g3,g4⟩:=X.good.fn f F hf
 refine Call_Name rfl (X.glob hx hd (hn.2▸g3 hn.1) ?_)
 refine Calls.callWith_function (fd:=P.fd f) (o:=o) (cr (bc (h.pl env)) (h.sim pos n A env g V J s _ _ E X hb fun xs s₁ g₁ ts J1 e p w r=>?_))
 have X1:=X.post p w
 obtain ⟨t,J2,ea⟩:=xi fun q=>hb (e.trans q)
 exact ⟨⟨X1.base _ _ g1,g2⟩,rM X1 (by rw [hm];exact r) ea fun x s' g' p' w' r'=>hq x s' g' t J2 (e.trans (by rw [ea,qY])) (p.trans p') w' (r'.after p.back)⟩
theorem aq.call {y:Str}{f:Nat}{F:eP}{es:List Expr}{ps:PL}{p pos:Pos}(hf:P.Ψ f=some F)(hn:P.gl f=true/\(P.fd f).name=y)(hm:oK f=false)(hfr:lC f=false)(hx:B.sc.names.lookup y=some .globalImplicit)(hd:(y==("__debug__":Str))=false)(h:dk P B C es ps):
  aq P B C (.Call (.Name y p) es [] pos) (aw f ps) (RV P):=(aq.callF hf hn hm hx hd h).weak fun _ _ _ _ _ r=>by have r:=r.1;unfold BD at r;rw [hfr] at r;exact r
theorem aq.callN {y:Str}{f:Nat}{F:eP}{es:List Expr}{ps:PL}{p pos:Pos}(hf:P.Ψ f=some F)(hn:P.gl f=true/\(P.fd f).name=y)(hm:oK f=false)(hfr:lC f=true)(hx:B.sc.names.lookup y=some .globalImplicit)(hd:(y==("__debug__":Str))=false)(h:dk P B C es ps):
  aq P B C (.Call (.Name y p) es [] pos) (aw f ps) (RN P):=(aq.callF hf hn hm hx hd h).weak fun _ _ _ _ _ r=>by have r:=r.1;unfold BD at r;rw [hfr] at r;exact r
theorem bG {M:Model}{E:Value->Shared->Prop}{pos:Pos}{f:Value}{first:List Value}{args:List (Bool×Sem Value)}{Q:Value->Shared->Prop}(hf:∀a,f≠.ref a)(hp:∀p∈args,p.1=false)
  (h:wpAny M A (spliced args) (fun vs s₁=>wpAny M A (PySem.call f (first++vs) []) Q E s₁) E s):wpAny M A (callWith pos f first args []) Q E s:=by
 have hany:args.any (·.1)=false:=any_eq_false.mpr fun p hp'=>by rw [hp p hp'];decide
 have h':=cr (f:=f) (Q:=fun a s₁=>wpAny M A (PySem.call f (first++a.pos) a.kw) Q E s₁) hp h
 have hkp:keeperOf f=pure .machine:=by
  cases f<;>first |rfl |exact absurd rfl (hf _)
 unfold callWith
 refine wpAny_bind (wpAny_holding (wpAny_mono h' (fun a s₁ he=>wpAny_bind (wpAny_standAt ?_)) fun _ _ x=>x))
 rw [hkp,hany]
 refine wpAny_bind (wpAny_pure ?_)
 exact wpAny_bind (wpAny_mono he (fun r s2 hr=>wpAny_bind (wpAny_holding (wpAny_point (wpAny_pure hr)))) fun _ _ x=>x)
theorem aq.b1Y {y:Str}{id:Value}{F:T->Option T}{e:Expr}{p:PE}{pn pos:Pos}{R:RR Value T}(hd:Dn R)(o:wd P (Dk P fun x=>PySem.call id [x]) F R)(hid:∀a,id≠.ref a)(hx:B.sc.names.lookup y=some .globalImplicit)(hdb:(y==("__debug__":Str))=false)(hm:y∈g9)(hv:bootBuiltins y=some id)
  (hn:∀env,starEach [e] env=[(false,eval e env)])(h:aq P B C e p (RY P)):aq P B C (.Call (.Name y pn) [e] [] pos) (p1 F p) R:=fun n A env g V J s k Q E X hb hq=>
 Call_Name rfl (X.blt hx hdb hm hv (bG hid (bc (by rw [hn env];exact fun q hq=>by cases hq with |head=>rfl |tail _ h=>cases h))
  (wpAny_items_cons (wpAny_mono (h.op1 hd o n A env g V J s k Q E X hb hq) (fun _ _ q=>wpAny_items_nil q) fun _ _ q=>q) (hn env))))
theorem aq.b1 {y:Str}{id:Value}{F:T->Option T}{e:Expr}{p:PE}{pn pos:Pos}{R:RR Value T}(hd:Dn R)(o:wd P (Dk P fun x=>PySem.call id [x]) F R)(hid:∀a,id≠.ref a)(hx:B.sc.names.lookup y=some .globalImplicit)(hdb:(y==("__debug__":Str))=false)(hm:y∈g9)(hv:bootBuiltins y=some id)
  (hn:∀env,starEach [e] env=[(false,eval e env)])(h:aq P B C e p (RX P)):aq P B C (.Call (.Name y pn) [e] [] pos) (p1 F p) R:=.b1Y hd o hid hx hdb hm hv hn h.xy
theorem gS {I:Addr}{h h':Heap}(hs:∀b,b≠I->h'.get? b=h.get? b):∀a o,h.get? a=some o->a∉[I]->h'.get? a=some o:=fun a o e q=>(hs a fun x=>q (x▸ay rfl)).trans e
theorem sY {I:Addr}{h h':Heap}(hs:∀b,b≠I->h'.get? b=h.get? b)(hI:¬g.F I):aN g h g h':=⟨fun a f=>⟨f,fun o e=>(hs a fun q=>hI (q▸f)).trans e⟩,rfl⟩
theorem n5.list (hh:A.handled=none){I l:Addr}{ts:List T}{vs:Array Value}{m:Nat}:n5 P A I ts [I] [] (fun i g h=>h.IsListIter I l i/\g.F l/\h.get? l=some (aX vs m)/\aO P g h ts vs.toList) where
 self i g s Q E st:=wpAny_pyIter_listiter st.1
 stay i g h g' h' st k ki:=by
  obtain ⟨⟨o,e,r⟩,f,e',q⟩:=st
  exact ⟨⟨o,ki I (ay rfl) o e,r⟩,(k.F l f).1,(k.F l f).2 _ e',q.mono k⟩
 here i g h st a ha:=by
  obtain ⟨⟨o,e,_⟩,_⟩:=st
  rw [aa ha];exact ao e
 item i t g s Q E hi st hF hq:=by
  obtain ⟨it,f,e',q⟩:=st
  obtain ⟨u,hu,r⟩:=q.get hi
  refine wpAny_pyNext_list_item it ⟨_,e',rfl,m,rfl⟩ (by rw [<-Array.getElem?_toList];exact hu) fun h' it' hs=>?_
  have kf:=sY hs.2 (hF I (ay rfl))
  exact hq u h' s.toks (gS hs.2) (r.mono kf) ⟨it',f,(kf.F l f).2 _ e',q.mono kf⟩
 done g s Q E st hq:=by
  obtain ⟨it,f,e',q⟩:=st
  refine wpAny_pyNext_list_end hh it ⟨_,e',rfl,m,rfl⟩ (Array.getElem?_eq_none (le_of_eq q.size)) fun h' hs=>hq h' s.toks fun b o e hb=>hs b o (fun q=>hb (ay q)) e
theorem n5.tuple (hh:A.handled=none){I l:Addr}{ts:List T}{vs:Array Value}{m:Nat}:n5 P A I ts [I] [] (fun i g h=>h.IsTupleIter I l i/\g.F l/\h.get? l=some (gn vs m)/\aO P g h ts vs.toList) where
 self i g s Q E st:=wpAny_pyIter_tupleiter st.1
 stay i g h g' h' st k ki:=by
  obtain ⟨⟨o,e,r⟩,f,e',q⟩:=st
  exact ⟨⟨o,ki I (ay rfl) o e,r⟩,(k.F l f).1,(k.F l f).2 _ e',q.mono k⟩
 here i g h st a ha:=by
  obtain ⟨⟨o,e,_⟩,_⟩:=st
  rw [aa ha];exact ao e
 item i t g s Q E hi st hF hq:=by
  obtain ⟨it,f,e',q⟩:=st
  obtain ⟨u,hu,r⟩:=q.get hi
  refine wpAny_pyNext_tuple_item it ⟨_,e',rfl,m,rfl⟩ (by rw [<-Array.getElem?_toList];exact hu) fun h' it' hs=>?_
  have kf:=sY hs.2 (hF I (ay rfl))
  exact hq u h' s.toks (gS hs.2) (r.mono kf) ⟨it',f,(kf.F l f).2 _ e',q.mono kf⟩
 done g s Q E st hq:=by
  obtain ⟨it,f,e',q⟩:=st
  exact wpAny_pyNext_tuple_end hh it ⟨_,e',rfl,m,rfl⟩ (Array.getElem?_eq_none (le_of_eq q.size)) fun h' hs=>hq h' s.toks fun b o e hb=>hs b o (fun q=>hb (ay q)) e
noncomputable abbrev vq (c:String)(l:Addr):Obj:={cls:=.type c,data:=.fields #[.ref l,.int 0 0]}
noncomputable abbrev vW (P:Pg)(B:bn)(C C':Ct)(target:Expr)(zb:PB)(tw:Env->List Addr):Around->Addr->List T->List Addr->List Addr->(Nat->Gh->Heap->Prop)->Prop:=fun A I ts vol fx St=>jP P A B C C' target zb tw I ts vol fx St
structure jS (P:Pg) (mk:Around->Addr->List T->List Addr->List Addr->(Nat->Gh->Heap->Prop)->Prop):Prop where
 make:∀{A I ts vol fx St},n5 P A I ts vol fx St->mk A I ts vol fx St
theorem jS.one {i:Nat}{y:Str}{k:NameKind}{p:Pos}(hc:ch C i false C'=true)(ht:B.tab[i]?=some (some (y,k)))(hk:k=.local\/k=.cell):jS P (vW P B C C' (.Name y p) (bz i) (A1 k y)):=⟨fun T=>T.one hc ht hk⟩
theorem sT {X:Obj}{tk:Nat}(w:bf P g₁ s₁.heap J)(p:aC g s g₁ s₁):aC g s g₁ {s₁ with heap:=s₁.heap.push X,toks:=tk}/\bf P g₁ (s₁.heap.push X) J/\∀a∈[s₁.heap.objs.size],s.heap.get? a=none/\¬g₁.F a/\¬g₁.Z a:=
 ⟨p.trans (.push X tk),w.push X,fun a ha=>by rw [aa ha];exact ⟨p.back _ (aD _),(cZ w).1,(cZ w).2.1⟩⟩
theorem fI.seq {e:Expr}{p:PE}{mk:Around->Addr->List T->List Addr->List Addr->(Nat->Gh->Heap->Prop)->Prop}(hb:jS P mk)(h:aq P B C e p (RV P)):fI P B C e mk (bK p):=fun n A env g V J s k Q E X hbad hq=>
 h n A env g V J s (fun t J=>up (iM t) J k) _ E X hbad fun x s₁ g₁ t J1 e p w r=>by
  obtain ⟨ts,e'⟩:=cf fun q=>hbad (e.trans q)
  have ek:bK _ (P.cx n) V J k=k ts J1:=e.trans (by rw [e'];rfl)
  unfold iM el at e'
  cases e1:lN t with
  |some us=>
   rw [e1] at e';cases e';cases kP e1
   obtain ⟨l,rfl,f,vs,m,g1,g3,g2⟩:=r
   refine wpAny_pyIter_tuple ⟨_,g1,rfl,m,rfl⟩ ?_
   obtain ⟨p',w',v⟩:=sT (X:=vq "tuple_iterator" l) (tk:=s₁.toks) w p
   exact hq _ g₁ ts J1 _ _ [] _ ek p' w' (hb.make (n5.tuple X.room.2.2)) ⟨⟨_,bD _,rfl,rfl⟩,f,bM s₁ _ _ _ g1,g2.mono ((aC.push (vq "tuple_iterator" l) 0).k w)⟩ v (fun _ q=>nomatch q) g3
  |none=>
   rw [e1] at e';cases fg e'
   obtain ⟨l,rfl,f,vs,m,g1,g3,g2⟩:=r
   refine wpAny_pyIter_list ⟨_,g1,rfl,m,rfl⟩ ?_
   obtain ⟨p',w',v⟩:=sT (X:=vq "list_iterator" l) (tk:=s₁.toks) w p
   exact hq _ g₁ ts J1 _ _ [] _ ek p' w' (hb.make (n5.list X.room.2.2)) ⟨⟨_,bD _,rfl,rfl⟩,f,bM s₁ _ _ _ g1,g2.mono ((aC.push (vq "list_iterator" l) 0).k w)⟩ v (fun _ q=>nomatch q) g3
theorem n5.range (hh:A.handled=none){I:Addr}{a b c:Int}(n:Nat)(hn:n=(Builtin.Range.rangeSize a b c).toNat):n5 P A I (em a b c) [I] [] (fun i _ h=>i<=n/\IsRangeIter h I (a+(i:Nat) * c) ((n:Int) - (i:Nat)) c) where
 self i g s Q E st:=wpAny_pyIter_rangeiter st.2
 stay i g h g' h' st k ki:=⟨st.1,ki I (ay rfl) _ st.2⟩
 here i g h st a ha:=by rw [aa ha];exact ao st.2
 item i t g s Q E hi st hF hq:=by
  have hl:i < n:=by
   have:=(aj hi).1
   rw [em,length_map,length_range,<-hn] at this;exact this
  have ht:t=.int (a+(i:Nat) * c):=by
   rw [em,getElem?_map,List.getElem?_range (by rw [<-hn];exact hl)] at hi
   exact (Option.some.inj hi).symm
  refine wpAny_pyNext_range_item st.2 (by lia -abstractProof) fun h' hit hs=>hq _ h' _ (gS hs.2) (ht▸⟨_,rfl⟩) ⟨hl,?_⟩
  have e1:a+((i+1:Nat):Int) * c=a+(i:Int) * c+c:=by rw [Int.natCast_succ,Int.add_mul,Int.one_mul,Int.add_assoc]
  have e2:(n:Int) - ((i+1:Nat):Int)=(n:Int) - (i:Int) - 1:=by lia -abstractProof
  rw [e1,e2];exact hit
 done g s Q E st hq:=by
  have hl:(em a b c).length=n:=by rw [em,length_map,length_range,hn]
  exact wpAny_pyNext_range_end hh st.2 (by rw [hl];lia -abstractProof) fun h' hs=>hq h' s.toks fun b o e hb=>hs b o (fun q=>hb (ay q)) e
theorem Bm {i:Int}(h1:-4000000000<=i)(h2:i<=4000000000):Builtin.Range.rangeFitsLong i=true:=and_eq_true_iff.mpr ⟨decide_eq_true (Int.le_trans (by decide) h1),decide_eq_true (Int.lt_of_le_of_lt h2 (by decide))⟩
theorem tQ {i:Int}(h:sm i=true):-1000000000<=i/\i<=1000000000:=
 have q:(i.natAbs:Int)<=1000000000:=bE (wG h)
 ⟨Int.neg_le_of_neg_le (Int.le_trans (Int.natAbs_neg i▸le_natAbs) q),Int.le_trans le_natAbs q⟩
theorem DN {a b:Int}(ha:sm a=true)(hb:sm b=true):0<=(if a < b then (b - a - 1) / 1+1 else 0:Int)/\(if a < b then (b - a - 1) / 1+1 else 0:Int)<=4000000000:=by
 by_cases h:a < b
 .rw [if_pos h,Int.ediv_one,Int.sub_add_cancel];exact ⟨Int.sub_nonneg.mpr (Int.le_of_lt h),Int.le_trans (Int.sub_le_sub (tQ hb).2 (tQ ha).1) (by decide)⟩
 .rw [if_neg h];decide
theorem Bl {a:Int}(h:sm a=true):Builtin.Range.rangeFitsLong a=true:=Bm (Int.le_trans (by decide) (tQ h).1) (Int.le_trans (tQ h).2 (by decide))
theorem G4 {a b c n d:Int}(ha:sm a=true)(hb:sm b=true)(hc:Builtin.Range.rangeFitsLong c=true)(hn:0<=n/\n<=4000000000)(hd:d=b):(Builtin.Range.rangeFitsLong a&&Builtin.Range.rangeFitsLong b&&Builtin.Range.rangeFitsLong c&&Builtin.Range.rangeFitsLong n&&(n==0||Builtin.Range.rangeFitsLong d))=true:=by
 rw [Bl ha,hd,Bl hb,hc,Bm (Int.le_trans (by decide) hn.1) hn.2,Bool.or_true];rfl
theorem zz {a b:Int}(ha:sm a=true)(hb:sm b=true):0<=Builtin.Range.rangeSize a b 1/\Builtin.Range.small a b 1=true:=by
 have e:Builtin.Range.rangeSize a b 1=if a < b then (b - a - 1) / 1+1 else 0:=if_pos (by decide)
 have h:=DN ha hb
 rw [<-e] at h
 exact ⟨h.1,G4 ha hb (by decide) h (Int.add_zero b)⟩
inductive Hp (ts:List T) (vs:List Value) (l:List T):Prop
 |one (n:Int) (t:Tok) (e:vs=[.int n t]) (h:rg 0 n=some l)
 |two (m n:Int) (t u:Tok) (e:vs=[.int m t,.int n u]) (h:rg m n=some l)
theorem sG {ts l:List T}{vs:List Value}(r:aO P g h ts vs)(e:zd ts=some l):Hp ts vs l:=by
 unfold zd at e
 cases ts with
 |nil=>cases e
 |cons m r1=>
  obtain ⟨x,xs,e1,q1,q2⟩:=r
  cases r1 with
  |nil=>
   obtain ⟨i,h1,h2⟩:=ax (show o1 (iG m) (rg 0)=some l from e)
   cases nU h1
   obtain ⟨t,rfl⟩:=q1
   cases q2
   exact .one i t e1 h2
  |cons m' r2=>
   obtain ⟨x',xs',e2,q3,q4⟩:=q2
   cases r2 with
   |nil=>
    obtain ⟨i,j,h1,h2,h3⟩:=bp (show o2 (iG m) (iG m') rg=some l from e)
    cases nU h1;cases nU h2
    obtain ⟨t,rfl⟩:=q1
    obtain ⟨u,rfl⟩:=q3
    cases q4
    exact .two i j t u (e2▸e1) h3
   |cons=>cases e
noncomputable abbrev FY (a b:Int)(t u v:Tok):Obj:={cls:=.type "range",data:=.fields #[.int a t,.int b u,.int 1 v]}
theorem fI.range {es:List Expr}{ps:PL}{p pos:Pos}{mk:Around->Addr->List T->List Addr->List Addr->(Nat->Gh->Heap->Prop)->Prop}(hb:jS P mk)(hx:B.sc.names.lookup (ofString "range")=some .globalImplicit)(h:dk P B C es ps):
  fI P B C (.Call (.Name (ofString "range") p) es [] pos) mk (c9 ps):=fun n A env g V J s k Q E X hbad hq=>by
 refine Call_Name rfl (X.blt hx (by decide) (by decide) (v:=.type "range") (by decide) ?_)
 refine bG (fun _ q=>by cases q) (bc (h.pl env)) (h.sim pos n A env g V J s (fun t J=>up (zd t) J k) _ E X hbad fun xs s₁ g₁ ts J1 e p w r=>?_)
 obtain ⟨l,e'⟩:=cf fun q=>hbad (e.trans q)
 have ek:c9 ps (P.cx n) V J k=k l J1:=e.trans (by rw [e'];rfl)
 have fin:∀(a b:Int) (t u v:Tok) (tk:Nat),rg a b=some l->wpAny P.M A (pyIter (.ref s₁.heap.objs.size)) Q E {s₁ with heap:=s₁.heap.push (FY a b t u v),toks:=tk}:=fun a b t u v tk hr=>by
  obtain ⟨c,rfl⟩:=dj hr
  obtain ⟨c1,c2⟩:=ah c
  obtain ⟨c3,c4⟩:=ah c1
  obtain ⟨hsz,hsm⟩:=zz c3 c4
  refine wpAny_pyIter_range (IsRange.new s₁.heap a b 1 t u v) hsm ?_
  obtain ⟨p',w',_⟩:=sT (X:=FY a b t u v) (tk:=tk) w p
  obtain ⟨p'',w'',v''⟩:=sT (s₁:={s₁ with heap:=s₁.heap.push (FY a b t u v),toks:=tk}) (X:={cls:=.type "range_iterator",data:=.fields #[rawInt a,rawInt (Builtin.Range.rangeSize a b 1),rawInt 1]}) (tk:=tk) w' p'
  refine hq _ g₁ _ J1 _ _ [] _ ek p'' w'' (hb.make (n5.range X.room.2.2 (Builtin.Range.rangeSize a b 1).toNat rfl)) ⟨zero_le _,?_⟩ v'' (fun _ q=>nomatch q) (im c2)
  have e1:a+((0:Nat):Int) * 1=a:=by simp
  have e2:(((Builtin.Range.rangeSize a b 1).toNat:Int) - ((0:Nat):Int))=Builtin.Range.rangeSize a b 1:=by lia -abstractProof
  show IsRangeIter _ _ _ _ _
  rw [e1,e2];exact bD _
 rcases sG r e' with ⟨m,t,rfl,hr⟩ | ⟨m,m',t,u,rfl,hr⟩
 .exact call_range_1 (fin 0 m _ t _ _ hr)
 .exact call_range_2 (fin m m' t u _ _ hr)
end
theorem oW {kind:Str->Option NameKind}{x:Str}:∀(l:List (Str×Value)) (m:Str->Option Value),(∀p∈l,p.1≠x)->bindL kind l m x=m x
 | [],_,_=>rfl
 | (y,v)::r,m,h=>by
  rw [bindL,oW r _ fun p hp=>h p (mem_cons_of_mem _ hp)]
  have hy:¬x=y:=fun e=>h (y,v) mem_cons_self e.symm
  split
  .simp [hy]
  .rfl
theorem oX {kind:Str->Option NameKind}{x:Str}:∀(l:List (Str×Value)) (m:Str->Option Value),(∀p∈l,p.1≠x)->bindC kind l m x=m x
 | [],_,_=>rfl
 | (y,v)::r,m,h=>by
  rw [bindC,oX r _ fun p hp=>h p (mem_cons_of_mem _ hp)]
  have hy:¬x=y:=fun e=>h (y,v) mem_cons_self e.symm
  split
  .rfl
  .simp [hy]
theorem lP {x:Str}{ps:List Str}{vs:List Value}(h:x∉ps):∀p∈ps.zip vs,p.1≠x:=fun p hp e=>h (e▸(List.of_mem_zip (a:=p.1) (b:=p.2) hp).1)
theorem rT {kind:Str->Option NameKind}:∀(ps:List Str) (vs:List Value) (m:Str->Option Value),ps.Nodup->∀(i:Nat) (x:Str) (v:Value),ps[i]?=some x->vs[i]?=some v->kind x=some .local->bindL kind (ps.zip vs) m x=some v
 | [],_,_,_,i,x,v,h,_,_=>by simp at h
 |_::_,[],_,_,i,x,v,_,h,_=>by simp at h
 |y::ps,u::vs,m,hn,0,x,v,hx,hv,hk=>by
  simp at hx hv;subst hx hv
  rw [List.zip_cons_cons,bindL,oW _ _ (lP (aT hn).1),if_pos hk];simp
 |y::ps,u::vs,m,hn,i+1,x,v,hx,hv,hk=>by
  rw [List.zip_cons_cons,bindL]
  exact rT ps vs _ (aT hn).2 i x v (by simpa using hx) (by simpa using hv) hk
theorem rU {kind:Str->Option NameKind}:∀(ps:List Str) (vs:List Value) (m:Str->Option Value),ps.Nodup->∀(i:Nat) (x:Str) (v:Value),ps[i]?=some x->vs[i]?=some v->kind x≠some .local->bindC kind (ps.zip vs) m x=some v
 | [],_,_,_,i,x,v,h,_,_=>by simp at h
 |_::_,[],_,_,i,x,v,_,h,_=>by simp at h
 |y::ps,u::vs,m,hn,0,x,v,hx,hv,hk=>by
  simp at hx hv;subst hx hv
  rw [List.zip_cons_cons,bindC,oX _ _ (lP (aT hn).1),if_neg hk];simp
 |y::ps,u::vs,m,hn,i+1,x,v,hx,hv,hk=>by
  rw [List.zip_cons_cons,bindC]
  exact rU ps vs _ (aT hn).2 i x v (by simpa using hx) (by simpa using hv) hk
theorem pP {cs:List (Str×Addr)}(h:cs.Pairwise fun x y=>x.2≠y.2):∀{x y:Str} {c:Addr},cs.lookup x=some c->cs.lookup y=some c->x=y:=by
 induction cs with
 |nil=>intro x y c hx;cases hx
 |cons p r ih=>
  intro x y c hx hy
  obtain ⟨z,d⟩:=p
  have h1:=(List.pairwise_cons.mp h).1
  rw [lookup_cons] at hx hy
  have out:∀{w:Str},r.lookup w=some d->False:=fun {w} e=>by
   obtain ⟨q,hq,e'⟩:=aG (aP e)
   exact h1 q hq e'.symm
  cases hx':(x==z) with
  |true=>
   simp only [hx'] at hx;cases hx
   cases hy':(y==z) with
   |true=>exact (beq_iff_eq.mp hx').trans (beq_iff_eq.mp hy').symm
   |false=>simp only [hy'] at hy;exact (out hy).elim
  |false=>
   simp only [hx'] at hx
   cases hy':(y==z) with
   |true=>simp only [hy'] at hy;cases hy;exact (out hx).elim
   |false=>simp only [hy'] at hy;exact ih (List.pairwise_cons.mp h).2 hx hy
structure wf (P:Pg) (f np:Nat) (tab:List (Option (Str×NameKind))) (ps:List Str) (bd:List Stmt) (U:List Nat):Prop where
 body:(P.fd f).body=.stmts bd
 ok:bn.ok ⟨(P.fd f).scope,tab⟩=true
 len:ps.length=np
 par:∀(i:Nat) (x:Str),ps[i]?=some x->∃k:NameKind,tab[i]?=some (some (x,k))/\(k=.local\/k=.cell)
 nof:∀(i:Nat) (x:Str),tab[i]?≠some (some (x,.free))
 bind:∀vals:List Value,vals.length=np->bindArgs (P.fd f) ⟨vals,[]⟩=pure (ps.zip vals)
 nd:((cellsFrom 0 (P.fd f).scope.names []).map (·.1)).Nodup
 co:(P.fd f).scope.isCoroutine=false/\(P.fd f).scope.isGenerator=false
 un:∀i∈U,np<=i
inductive vZ (P:Pg) (f:Nat) (F:eP):Prop
 |mk (tab:List (Option (Str×NameKind))) (ps:List Str) (bd:List Stmt) (U:List Nat) (C':Ct) (K:wf P f F.np tab ps bd U) (tu:GA f=true->DI ⟨(P.fd f).scope,tab⟩=true/\lC f=false) (sim:fH P ⟨(P.fd f).scope,tab⟩ ⟨[],U,oK f⟩ (lC f) C' bd F.body)
theorem lf.deeper {A:Around}{n:Nat}(env:Env)(h:lf A (n+1)):AW (A.deeper env) n:=by
 obtain ⟨h1,h2,h3⟩:=h
 refine ⟨?_,?_,h3⟩
 .show A.depth+1+2 * n+10 < recursionLimit;lia -abstractProof
 .show A.units+3+20 * n+200 < cLine;lia -abstractProof
theorem dy {n i:Nat}{t:T}:∀{ts:List T},b9 (frame ts n) i=some t->ts[i]?=some t:=by
 intro ts
 induction ts generalizing i with
 |nil=>
  intro h
  have:∀n i,b9 (replicate n none) i=none:=fun n=>by
   induction n with
   |zero=>exact fun _=>rfl
   |succ n ih=>intro i;cases i with
    |zero=>rfl
    |succ i=>exact ih i
  rw [show frame [] n=replicate n none from rfl,this] at h;cases h
 |cons x ts ih=>
  intro h
  cases i with
  |zero=>exact h
  |succ i=>exact ih h
theorem jw {n i:Nat}{ts:List T}(h:ts.length<=i):b9 (frame ts n) i=none:=by
 cases e:b9 (frame ts n) i with
 |none=>rfl
 |some t=>exact absurd (aj (dy e)).1 (not_lt.mpr h)
theorem Args.get {P:Pg}{m:Bool}{g:Gh}{h:Heap}{ts:List T}{vs:List Value}(a:Args P m g h ts vs):vs.length=ts.length/\∀(i:Nat) (t:T),ts[i]?=some t->∃v,vs[i]?=some v/\(Rp P g h t v\/(m=true/\i=0/\t=.self/\v=.ref g.sa)):=by
 cases m with
 |false=>exact ⟨aO.length a,fun i t e=>let ⟨v,e',r⟩:=aO.get a e;⟨v,e',.inl r⟩⟩
 |true=>
  obtain ⟨v,vs,t,ts,rfl,rfl,h1,h2⟩:=a
  refine ⟨congrArg (·+1) (aO.length h2),fun i u e=>?_⟩
  cases i with
  |zero=>cases e;exact ⟨v,rfl,h1.imp id fun q=>⟨rfl,rfl,q⟩⟩
  |succ i=>exact let ⟨v,e',r⟩:=aO.get h2 (i:=i) e;⟨v,e',.inl r⟩
theorem CA (g:Gh)(o:Nat->Option Addr)(h:Heap):aN g h {g with o:=o} h:=⟨fun _ f=>⟨f,fun _ e=>e⟩,rfl⟩
theorem bf.callee {P:Pg}{g:Gh}{h h':Heap}{J:Sg}(w:bf P g h J)(k:∀a o,h.get? a=some o->h'.get? a=some o):bf P {g with o:=fun _=>none} h' J:=by
 have w1:=w.grow k g.F (fun _ f=>f) fun _ f=>.inl f
 exact ⟨w1.base,w1.F,w1.Z,(fun a ⟨_,q⟩=>nomatch q),(fun _ _ _ q=>nomatch q),w1.spot,fun c ts e=>(w1.self c ts e).mono (CA g _ h') (fun _ z=>⟨z,fun _ e=>e⟩) rfl⟩
theorem rN {P:Pg}{g g':Gh}{s s₁ s':Shared}{J J':Sg}{W:List Addr}(hs:∃h tk,s₁={s with heap:=h,toks:=tk})(hk:∀a o,s.heap.get? a=some o->s₁.heap.get? a=some o)(w:bf P g s.heap J)(hW:∀a∈W,s.heap.get? a=none)(q:aQ [] W {g with o:=fun _=>none} s₁ g' s')(w':bf P g' s'.heap J'):
  aC g s {g' with o:=g.o} s'/\bf P {g' with o:=g.o} s'.heap J':=by
 have bk:∀a,s₁.heap.get? a=none->s.heap.get? a=none:=fun a e=>by
  cases x:s.heap.get? a with
  |none=>rfl
  |some o=>exact (ao (hk a o x) e).elim
 have fn:∀a,g'.F a->g.F a\/s.heap.get? a=none:=fun a f=>(q.Fn a f).imp id fun x=>x.elim (fun ⟨_,x⟩=>nomatch x) (bk a)
 have zn:∀a,g'.Z a->g.Z a\/s.heap.get? a=none:=fun a f=>(q.Zn a f).imp id (bk a)
 have kp:∀a o,s.heap.get? a=some o->¬g.Z a->s'.heap.get? a=some o:=fun a o e z=>q.keep a o (hk a o e) z (fun ⟨_,x⟩=>nomatch x) fun x=>ao e (hW a x)
 refine ⟨⟨St.trans hs q.st,kp,fun a e=>bk a (q.b a e),q.F,fn,zn,rfl,q.sp,q.sa⟩,w'.base,w'.F,w'.Z,fun a x=>?_,w.oo,w'.spot,fun c ts e=>(w'.self c ts e).mono (CA g' _ s'.heap) (fun _ z=>⟨z,fun _ e=>e⟩) rfl⟩
 obtain ⟨l,f,z⟩:=w.O a x
 refine ⟨?_,fun y=>(fn a y).elim f l,fun y=>(zn a y).elim z l⟩
 cases e:s.heap.get? a with
 |none=>exact (l e).elim
 |some o=>exact ao (kp a o e z)
theorem m9 {P:Pg}(G:fJ P){f np:Nat}{F:eP}{m:Bool}{tab:List (Option (Str×NameKind))}{ps:List Str}{bd:List Stmt}{U:List Nat}{V:aY}(hf:P.Ψ f=some F)(K:wf P f np tab ps bd U){A:Around}{vs:List Value}{g:Gh}{s:Shared}{R:Result->Shared->Prop}(hd:A.depth < recursionLimit)(bs:∀a o,P.h₀.get? a=some o->s.heap.get? a=some o)
  (lF:∀a,g.F a->s.heap.get? a≠none)(lZ:∀a,g.Z a->s.heap.get? a≠none)(hvl:vs.length=np)(hr:∀i t,b9 V i=some t->∃v,vs[i]?=some v/\(Rp P g s.heap t v\/(m=true/\i=0/\t=.self/\v=.ref g.sa)))(hun:∀i∈U,b9 V i=none)
  (k:∀s₁ env,env.frame=some env.locals->(∃h tk,s₁={s with heap:=h,toks:=tk})->(∀a o,s.heap.get? a=some o->s₁.heap.get? a=some o)->(∀a∈own env,s.heap.get? a=none)->(∀i v,vs[i]?=some v->bH ⟨(P.fd f).scope,tab⟩ env s₁.heap i v)->bb P ⟨(P.fd f).scope,tab⟩ ⟨[],U,m⟩ env {g with o:=fun _=>none} V s₁.heap->
   wpAny P.M (A.deeper env) (execs bd env) (fun f s'=>R (.ok (.ret (match f with |.ret v=>v |_=>.none))) s') (fun e s'=>wpAny P.M (A.deeper env) (leaving env e) (fun _ s''=>R (.error e) s'') (fun e' s''=>R (.error e') s'') s') s₁):
  codeAny P.M A (.call (.ref (P.fnA f)) ⟨vs,[]⟩) R s:=by
 obtain ⟨o,g1,g2,g3,g4,g5,g6,g7⟩:=G.fn f F hf
 obtain ⟨K1,K2,K3,K4,K5,K6,K7,K8,K9⟩:=K
 have look:∀i x k,tab[i]?=some (some (x,k))->(P.fd f).scope.names.lookup x=some k:=fun i x k h=>(bn.look (B:=⟨(P.fd f).scope,tab⟩) K2 h).2.1
 have hkind:(P.fd f).scope.kind=.function:=by
  have:=K2
  simp only [bn.ok,and_eq_true,beq_iff_eq] at this
  exact this.1.1
 have hnd:ps.Nodup:=by
  rw [List.nodup_iff_pairwise_ne,List.pairwise_iff_getElem]
  intro i j hi hj hij e
  obtain ⟨k,q,_⟩:=K4 i ps[i] (getElem?_eq_getElem hi)
  obtain ⟨k',q',_⟩:=K4 j ps[j] (getElem?_eq_getElem hj)
  exact absurd (bn.inj K2 (B:=⟨(P.fd f).scope,tab⟩) q (e▸q')) (Nat.ne_of_lt hij)
 refine codeAny_call_cells (binds:=ps.zip vs) hd (bs _ _ g1) g2 (G.nolimit.keeps bs) (g4.keeps bs) K1 (K6 vs hvl) g5 (fun x hx=>?_) (fun s₁ x=>?_) K8.1 K8.2 hkind
 .obtain ⟨i,hi,e⟩:=List.getElem_of_mem (List.of_mem_zip (a:=x.1) (b:=x.2) hx).1
  obtain ⟨k,q,hk⟩:=K4 i x.1 (by rw [getElem?_eq_getElem hi,e])
  have:=look i x.1 k q
  rcases hk with rfl |rfl
  .exact .inl this
  .exact .inr ⟨this,PySem.W.cellsFrom_some _ _ _ (.inl this)⟩
 .have dead:∀a:Addr,s.heap.objs.size<=a->s.heap.get? a=none:=fun a ha=>by
   cases e:s.heap.get? a with
   |none=>rfl
   |some o'=>exact absurd (Heap.lt_size e) (not_lt.mpr ha)
  have hW:∀a∈own (callEnvC (P.fd f) s.heap.objs.size (P.fnA f)),s.heap.get? a=none:=fun a ha=>by
   rcases an ha with rfl |ha
   .exact dead _ (le_refl _)
   .obtain ⟨q,hq,rfl⟩:=aG ha
    exact dead _ (le_of_lt (x.above q.1 q.2 hq))
  have kf:aN g s.heap {g with o:=fun _=>none} s₁.heap:=⟨fun a f=>⟨f,x.toInCall.keep a⟩,rfl⟩
  have par:∀{i y k v},tab[i]?=some (some (y,k))->vs[i]?=some v->ps[i]?=some y:=fun {i y k v} ht hv=>by
   have hi:i < ps.length:=by rw [K3,<-hvl];exact (aj hv).1
   obtain ⟨k,q,_⟩:=K4 i ps[i] (getElem?_eq_getElem hi)
   rw [ht] at q;cases q
   exact getElem?_eq_getElem hi
  have cl:∀{i:Nat} {y:Str} {k:NameKind},tab[i]?=some (some (y,k))->k≠.local->∃c,(cellsFrom (s.heap.objs.size+1) (P.fd f).scope.names []).lookup y=some c:=fun {i y k} ht hk=>by
   have hk':k=.cell:=by
    rcases (bn.look (B:=⟨(P.fd f).scope,tab⟩) K2 ht).2.2.1 with h |h |h
    .exact (hk h).elim
    .exact h
    .exact (K5 i y (h▸ht)).elim
   exact aE (PySem.W.cellsFrom_some (x:=y) (P.fd f).scope.names (s.heap.objs.size+1) [] (.inl (hk'▸look i y k ht)))
  have va:∀{i y k u},tab[i]?=some (some (y,k))->vs[i]?=some u->bH ⟨(P.fd f).scope,tab⟩ (callEnvC (P.fd f) s.heap.objs.size (P.fnA f)) s₁.heap i u:=fun {i y k u} ht hu=>by
   have hp:=par ht hu
   by_cases hk:k=.local
   .subst hk;exact .loc y _ ht x.toInCall.ns (rT ps vs _ hnd i y u hp hu (look i y _ ht))
   .obtain ⟨c,hc⟩:=cl ht hk
    have xc:=x.cell y c hc
    rw [rU ps vs _ hnd i y u hp hu (by show (P.fd f).scope.names.lookup y≠_;rw [look i y k ht];exact fun q=>hk (Option.some.inj q))] at xc
    exact .cel y k c ht ((bn.look (B:=⟨(P.fd f).scope,tab⟩) K2 ht).2.2.1.resolve_left hk) hc xc
  refine k s₁ _ rfl x.toInCall.same x.toInCall.keep hW (fun i v hv=>?_) {
   ok:=K2
   sc:=rfl
   glob:=g6
   blt:=g7
   ns:=⟨_,x.toInCall.ns⟩
   cell:=fun i y k ht hk=>let ⟨c,hc⟩:=cl ht (by rcases hk with rfl |rfl<;>decide);⟨c,_,hc,x.cell y c hc⟩
   apart:=fun y z c hy hz=>pP x.apart hy hz
   own:=fun a ha=>⟨by
    rcases an ha with rfl |ha
    .obtain ⟨o',_,_,e',_⟩:=x.toInCall.ns;exact ao e'
    .obtain ⟨q,hq,rfl⟩:=aG ha
     obtain ⟨o',e',hd⟩:=x.cell q.1 q.2 (lookup_of_mem_nodup (cellsFrom_names (P.fd f).scope.names 0 (s.heap.objs.size+1) [] [] rfl▸K7) hq)
     exact ao e',fun q=>lF a q (hW a ha),fun q=>lZ a q (hW a ha),fun ⟨_,q⟩=>nomatch q⟩
   var:=fun i y t ht hv=>let ⟨u,hu,hr⟩:=hr i t hv;⟨u,va ht hu,hr.imp (·.mono kf) id⟩
   un:=hun}
  have hi:i < ps.length:=by rw [K3,<-hvl];exact (aj hv).1
  obtain ⟨k,q,_⟩:=K4 i ps[i] (getElem?_eq_getElem hi)
  exact va q hv
theorem EC {P:Pg}(G:fJ P){f np ns:Nat}{F:eP}{m:Bool}{tab:List (Option (Str×NameKind))}{ps:List Str}{bd:List Stmt}{U:List Nat}(hf:P.Ψ f=some F)(K:wf P f np tab ps bd U){A:Around}{ts:List T}{vs:List Value}{g:Gh}{s:Shared}{R:Result->Shared->Prop}(hd:A.depth < recursionLimit)(bs:∀a o,P.h₀.get? a=some o->s.heap.get? a=some o)
  (lF:∀a,g.F a->s.heap.get? a≠none)(lZ:∀a,g.Z a->s.heap.get? a≠none)(r:Args P m g s.heap ts vs)(hlen:ts.length=np)
  (k:∀s₁ env E,(∃h tk,s₁={s with heap:=h,toks:=tk})->(∀a o,s.heap.get? a=some o->s₁.heap.get? a=some o)->(∀a∈own env,s.heap.get? a=none)->bb P ⟨(P.fd f).scope,tab⟩ ⟨[],U,m⟩ env {g with o:=fun _=>none} (frame ts ns) s₁.heap->wpAny P.M (A.deeper env) (execs bd env) (fun f s'=>R (.ok (.ret (match f with |.ret v=>v |_=>.none))) s') E s₁):
  codeAny P.M A (.call (.ref (P.fnA f)) ⟨vs,[]⟩) R s:=
 m9 G hf K hd bs lF lZ (r.get.1.trans hlen) (fun i t e=>r.get.2 i t (dy e)) (fun i hi=>jw (hlen▸K.un i hi)) fun s₁ env _ h1 h2 h3 _ h4=>k s₁ env _ h1 h2 h3 h4
theorem rO {P:Pg}(G:fJ P)(n:Nat)(ih:∀k,k<=n->fm P k)(hF:∀f F,P.Ψ f=some F->vZ P f F):fm P (n+1):=fun f A ts vs g J s t J' Q E room w r hc hq=>by
 rw [uD] at hc
 cases hf:P.Ψ f with
 |none=>rw [hf] at hc;cases hc
 |some F=>
  rw [hf] at hc
  obtain ⟨tab,ps,body,U,C',K,tu,sim⟩:=hF f F hf
  have hc:cond (Nat.beq ts.length F.np) _ _=_:=hc
  cases hl:Nat.beq ts.length F.np with
  |false=>rw [hl] at hc;cases hc
  |true=>
   rw [hl] at hc
   refine EC (ns:=F.ns) G hf K (lt_of_le_of_lt (le_trans (le_add_right _ _) (le_add_right _ _)) room.1) (fun a o e=>(w.base a o e).2) w.F (fun a z=>(w.Z a z).1) r (eq_of_beq_eq_true hl) fun s₁ env E' same keep hW E1=>?_
   have X:At P ⟨(P.fd f).scope,tab⟩ ⟨[],U,oK f⟩ n (A.deeper env) env {g with o:=fun _=>none} (frame ts F.ns) J s₁:=⟨G,ih,room.deeper _,E1,w.callee keep⟩
   cases hb:F.body (P.cx n) (frame ts F.ns) J fun _ J=>bif lC f then .bad else .ret .none J with
   |ret t' J1=>
    rw [show F.body ⟨af P.Ψ n⟩ (frame ts F.ns) J (fun _ J=>bif lC f then .bad else .ret .none J)=_ from hb] at hc
    cases hc
    refine sim n _ _ _ (frame ts F.ns) J s₁ (fun _ J=>bif lC f then .bad else .ret .none J) _ _ X (by rw [hb];exact fun q=>by cases q) (fun s' g' ρ' J2 e p X'=>?_) fun y s' g' t2 J2 e p w' r'=>?_
    .rw [hb] at e
     cases hfr:lC f with
     |true=>rw [hfr] at e;cases e
     |false=>
      rw [hfr] at e;cases e
      obtain ⟨pe,we⟩:=rN same keep w hW p X'.g
      exact hq .none s' _ pe we ⟨by unfold BD;rw [hfr];exact rfl,fun _ _ e=>nomatch e⟩
    .rw [hb] at e;cases e
     obtain ⟨pe,we⟩:=rN same keep w hW p w'
     refine hq y s' _ pe we ⟨?_,fun q ts e=>(r'.2 (tu q).1 ts e).mono (fun l hl=>hl.elim (fun ⟨_,x⟩=>nomatch x) fun x=>by
       cases z:s.heap.get? l with
       |none=>rfl
       |some o=>exact (ao (keep l o z) x).elim) (fun _ f=>f) fun _ _ _ e=>e⟩
     have kf:=CA g' g.o s'.heap
     have r':=r'.1
     unfold BD
     cases hfr:lC f with
     |false=>rw [hfr] at r';exact Rp.mono kf r'
     |true=>
      rw [hfr] at r'
      obtain ⟨a,e,nw,f1,z1,r2⟩:=r'
      have nw:s.heap.get? a=none:=nw.elim (fun ⟨_,q⟩=>nomatch q) fun q=>by
       cases z:s.heap.get? a with
       |none=>rfl
       |some o=>exact (ao (keep a o z) q).elim
      exact ⟨a,e,nw,f1,z1,fun q=>(w.O a q).1 nw,r2.mono kf fun _ e=>e⟩
   |_=>rw [show F.body ⟨af P.Ψ n⟩ (frame ts F.ns) J (fun _ J=>bif lC f then .bad else .ret .none J)=_ from hb] at hc;cases hc
theorem qk {P:Pg}(G:fJ P)(hF:∀f F,P.Ψ f=some F->vZ P f F):∀n,∀k,k<=n->fm P k
 | 0,k,hk=>by
  obtain rfl:=Nat.le_zero.mp hk
  exact fun f A ts vs g J s t J' Q E _ _ _ hc _=>by cases hc
 |n+1,k,hk=>(Nat.lt_or_eq_of_le hk).elim (fun h=>qk G hF n k (le_of_lt_succ h)) fun h=>h▸rO G n (qk G hF n) hF
noncomputable def dL (env:Env):List (Str×NameKind)->List (Str×Addr)->List (Str×Addr)
 | [],acc=>acc
 | (n,k)::r,acc=>dL env r (if k==.free then (n,(env.cells.lookup n).getD 0)::acc else acc)
theorem qj (env:Env)(f:Str×NameKind->List (Str×Addr)->Sem (ForInStep (List (Str×Addr))))(h1:∀n cs c,env.cells.lookup n=some c->f (n,.free) cs=pure (.yield ((n,c)::cs)))(h2:∀n k cs,(k==NameKind.free)=false->f (n,k) cs=pure (.yield cs)):
  ∀(names:List (Str×NameKind)) (acc:List (Str×Addr)),(∀x,(x,NameKind.free)∈names->∃c,env.cells.lookup x=some c)->forIn names acc f=pure (dL env names acc)
 | [],acc,_=>rfl
 | (n,k)::r,acc,h=>by
  rw [List.forIn_cons]
  cases hk:(k==NameKind.free) with
  |true=>
   have hk':k=.free:=by simpa using hk
   subst hk'
   obtain ⟨c,hc⟩:=h n mem_cons_self
   rw [h1 n acc c hc]
   show (forIn r ((n,c)::acc) f:Sem _)=_
   rw [qj env f h1 h2 r _ fun x hx=>h x (mem_cons_of_mem _ hx)]
   rw [show dL env ((n,.free)::r) acc=dL env r ((n,(env.cells.lookup n).getD 0)::acc) from rfl,hc];rfl
  |false=>
   rw [h2 n k acc hk]
   show (forIn r acc f:Sem _)=_
   rw [qj env f h1 h2 r _ fun x hx=>h x (mem_cons_of_mem _ hx)]
   rw [show dL env ((n,k)::r) acc=dL env r (if k==.free then _ else acc) from rfl,hk];rfl
theorem iZ {scope:Scope}{env:Env}(h:∀x,(x,NameKind.free)∈scope.names->∃c,env.cells.lookup x=some c):closureFor scope env=pure (dL env scope.names []):=by
 simp only [closureFor]
 rewrite [qj env _ ?_ ?_ scope.names [] h]
 .rfl
 .intro n cs c hc
  simp only [cellOf,hc];rfl
 .intro n k cs hk
  simp only [hk];rfl
set_option tactic.hygienic true in
theorem gX {env:Env}:∀(names:List (Str×NameKind)) (acc:List (Str×Addr)),(∀x,(x,NameKind.free)∈names->∃c,env.cells.lookup x=some c)->(∀p∈acc,env.cells.lookup p.1=some p.2)->∀p∈dL env names acc,env.cells.lookup p.1=some p.2
 | [],_,_,ha,p,hp=>ha p hp
 | (n,k)::r,acc,h,ha,p,hp=>by
  refine gX r _ (fun x hx=>h x (mem_cons_of_mem _ hx)) (fun q hq=>?_) p hp
  split at hq
  .rename_i hk
   have hk':k=.free:=by simpa using hk
   subst hk'
   rcases an hq with rfl |hq
   .obtain ⟨c,hc⟩:=h n mem_cons_self
    rw [hc];rfl
   .exact ha q hq
  .exact ha q hq
theorem ny {env:Env}{x:Str}:∀(names:List (Str×NameKind)) (acc:List (Str×Addr)),(acc.lookup x).isSome=true\/(x,NameKind.free)∈names->((dL env names acc).lookup x).isSome=true
 | [],_,h=>h.elim id fun q=>by cases q
 | (n,k)::r,acc,h=>by
  refine ny r _ ?_
  rcases h with h |h
  .refine .inl ?_
   split
   .rw [lookup_cons];split
    .rfl
    .exact h
   .exact h
  .rcases an h with q |q
   .cases q
    refine .inl ?_
    rw [if_pos (by decide),lookup_cons];simp
   .exact .inr q
set_option tactic.hygienic true in
theorem lk {l:List (Str×Addr)}{x:Str}{c:Addr}(h:l.lookup x=some c):(x,c)∈l:=by
 induction l with
 |nil=>cases h
 |cons p r ih=>
  obtain ⟨y,d⟩:=p
  rw [lookup_cons] at h
  split at h
  .rename_i hy
   cases h
   rw [beq_iff_eq.mp hy];exact mem_cons_self
  .exact mem_cons_of_mem _ (ih h)
noncomputable def gA (scope outer:Scope):Scope:=
 {scope with names:=scope.names.map fun (n,k)=>if (k==.free&&outer.kind==.function&&outer.names.lookup n==some .cell) then (n,.cell) else (n,k)}
noncomputable def mo (xc:Option Str)(c:Addr):List (Str×Addr):=match xc with
 |none=>[]
 |some y=>[(y,c)]
theorem mn {xc:Option Str}{c d:Addr}{r:List (Str×Addr)}{y:Str}(h:(mo xc c++r).lookup y=some d):(xc=some y/\d=c)\/r.lookup y=some d:=by
 cases xc with
 |none=>exact .inr h
 |some z=>
  rw [show mo (some z) c++r=(z,c)::r from rfl,lookup_cons] at h
  cases q:y==z with
  |true=>rw [q] at h;cases h;exact .inl ⟨by rw [beq_iff_eq.mp q],rfl⟩
  |false=>rw [q] at h;exact .inr h
theorem uc {y:Str}{c:Addr}{r:List (Str×Addr)}:(mo (some y) c++r).lookup y=some c:=by
 rw [show mo (some y) c++r=(y,c)::r from rfl,lookup_cons,beq_self_eq_true]
theorem vf {xc:Option Str}{c:Addr}{r:List (Str×Addr)}{y:Str}(h:xc≠some y):(mo xc c++r).lookup y=r.lookup y:=by
 cases xc with
 |none=>rfl
 |some z=>
  rw [show mo (some z) c++r=(z,c)::r from rfl,lookup_cons]
  cases q:y==z with
  |true=>exact absurd (congrArg some (beq_iff_eq.mp q).symm) h
  |false=>rfl
theorem pM {xc:Option Str}{c:Addr}{q:Str×Addr}(h:q∈mo xc c):∃y,xc=some y/\q=(y,c):=by
 cases xc with
 |none=>cases h
 |some z=>exact ⟨z,rfl,aa h⟩
theorem d5 {prog:Program}{w:World}{A:Around}{E:Value->Shared->Prop}{s:Shared}{l:Addr}{items:Array Value}{n:Nat}{x:Value}{Q:Value->Shared->Prop}(hl:IsL s.heap l items n)
  (h:Q .none {s with heap:=s.heap.update l (Obj.mapSeq fun a=>a.push x)})(hsz:items.size<=sizeLine):wpAny (model prog w) A (call (.builtin "list.append") [.ref l,x]) Q E s:=by
 refine wpAny_call_entry slot_list_append ⟨_,hl,rfl⟩ entry_list_append ?_ (args_list_append _ _)
 show wpAny _ _ (updateSeq l (·.push x) >>=fun _=>ret .none) _ _ s
 refine wpAny_bind ?_
 exact wpAny_updateSeq hl rfl (wpAny_pure ⟨.none,rfl,h⟩)
theorem jx {M:Model}{A:Around}{E:Value->Shared->Prop}{s:Shared}{scope:Scope}{g:Addr}{cl:List (Str×Addr)}{qual:Str}{env:Env}{Q:Env->Shared->Prop}
  (h:Q (newEnv scope s.heap.objs.size g (cellsFrom (s.heap.objs.size+1) scope.names cl) qual none .none (some env) builtinsNs) {s with heap:=pushCells (s.heap.push {cls:=.type "dict",data:=.dict #[]}) scope.names}):
  wpAny M A (newFunctionEnv scope g cl [] qual none .none (some env)) Q E s:=by
 simp only [newFunctionEnv,Option.isSome_some,if_true]
 refine wpAny_bind (wpAny_alloc ?_)
 refine wpAny_bind (wpAny_layCells _ (fun name kind cells=>by cases hkc:kind==NameKind.cell<;>simp [hkc]) _ _ _ _ ?_)
 rw [show ({s with heap:=s.heap.push {cls:=.type "dict",data:=.dict #[]}}:Shared).heap.objs.size=s.heap.objs.size+1 from Heap.size_push ..]
 simp only [List.forIn_nil]
 exact wpAny_bind (wpAny_pure (wpAny_pure h))
noncomputable def nE (xc:Option Str):List (Str×NameKind)->Bool
 | []=>xc.isNone
 | (n,k)::r=>if k==.cell then xc==some n&&nE none r else nE xc r
theorem nB:∀{names:List (Str×NameKind)} {xc:Option Str},nE xc names=true->(∀n acc,cellsFrom n names acc=mo xc n++acc)/\∀h:Heap,(∀a o,h.get? a=some o->(pushCells h names).get? a=some o)/\∀y,xc=some y->(pushCells h names).IsCell h.objs.size none
 | [],xc,hr=>by
  cases xc with
  |none=>exact ⟨fun _ _=>rfl,fun _=>⟨fun _ _ e=>e,fun _ q=>by cases q⟩⟩
  |some _=>cases hr
 | (x,k)::r,xc,hr=>by
  unfold nE at hr
  unfold cellsFrom pushCells
  by_cases hk:(k==NameKind.cell)=true
  .rw [if_pos hk,and_eq_true] at hr
   obtain ⟨i1,i2⟩:=nB hr.2
   obtain rfl:=beq_iff_eq.mp hr.1
   simp only [hk,if_true]
   exact ⟨fun n acc=>i1 _ _,fun h=>⟨fun a o e=>(i2 _).1 a o (Heap.get?_push_of_some _ e),fun _ _=>⟨_,(i2 _).1 _ _ (Heap.get?_push_size _ rfl),rfl⟩⟩⟩
  .rw [if_neg hk] at hr
   simp only [hk,Bool.false_eq_true,if_false]
   exact nB hr
noncomputable def kB (x:Str):Option (Str×NameKind)->Bool
 |some (y,k)=>y==x&&(k==.cell||k==.free)
 |none=>false
theorem Bg {x:Str}{e:Option (Str×NameKind)}(h:kB x e=true):∃k:NameKind,e=some (x,k)/\(k=.cell\/k=.free):=by
 cases e with
 |none=>cases h
 |some p=>
  obtain ⟨y,k⟩:=p
  simp only [kB,and_eq_true,or_eq_true,beq_iff_eq] at h
  obtain ⟨rfl,hk⟩:=h
  exact ⟨k,rfl,hk⟩
def Bs (B:bn)(tab:List (Option (Str×NameKind)))(scope:Scope)(i:Nat)(xc:Option Str):Bool:=
 scope.kind==.function&&scope.names.all (fun x=>!(x.2==.local)||scope.names.lookup x.1==some .local)&&nE xc scope.names&&bn.ok ⟨gA scope B.sc,tab⟩&&
 scope.names.all (fun x=>!(x.2==.free)||(!(xc==some x.1)&&B.tab.any (kB x.1)))&&
 (List.range tab.length).all (fun j=>match tab[j]? with
  |some (some (x,k))=>if k==.cell||k==.free then (xc==some x&&Nat.beq j i)||(scope.names.contains (x,.free)&&kB x (B.tab[j]?.getD none)) else Nat.beq j i
  |_=>true)
structure dq (B Bc:bn) (scope:Scope) (i:Nat) (xc:Option Str):Prop where
 kind:scope.kind=.function
 names:∀x∈scope.names,x.2=.local->scope.names.lookup x.1=some .local
 cells:(∀n acc,cellsFrom n scope.names acc=mo xc n++acc)/\∀h:Heap,(∀a o,h.get? a=some o->(pushCells h scope.names).get? a=some o)/\∀y,xc=some y->(pushCells h scope.names).IsCell h.objs.size none
 ok:Bc.ok=true
 sc:Bc.sc=gA scope B.sc
 free:∀x,(x,NameKind.free)∈scope.names->xc≠some x/\∃(j:Nat) (k:NameKind),B.tab[j]?=some (some (x,k))/\(k=.cell\/k=.free)
 tab:∀(j:Nat) (x:Str) (k:NameKind),Bc.tab[j]?=some (some (x,k))->k=.cell\/k=.free->(xc=some x/\j=i)\/((x,NameKind.free)∈scope.names/\∃k':NameKind,B.tab[j]?=some (some (x,k'))/\(k'=.cell\/k'=.free))
 locs:∀(j:Nat) (x:Str),Bc.tab[j]?=some (some (x,.local))->j=i
theorem dq.of {B:bn}{tab:List (Option (Str×NameKind))}{scope:Scope}{i:Nat}{xc:Option Str}(h:Bs B tab scope i xc=true):dq B ⟨gA scope B.sc,tab⟩ scope i xc:=by
 have h6:=(cI h)
 have h:=(cJ h)
 have h5:=(cI h)
 have h:=(cJ h)
 have h4:=(cI h)
 have h:=(cJ h)
 have h3:=(cI h)
 have h:=(cJ h)
 have h2:=(cI h)
 have h1:=(cJ h)
 have h6:∀(j:Nat) (x:Str) (k:NameKind),tab[j]?=some (some (x,k))->(if k==.cell||k==.free then (xc==some x&&Nat.beq j i)||(scope.names.contains (x,.free)&&kB x (B.tab[j]?.getD none)) else Nat.beq j i)=true:=fun j x k ht=>by
  have:=aB h6 j (bQ (aj ht).1)
  rw [ht] at this
  exact this
 refine ⟨beq_iff_eq.mp h1,fun x hx hl=>?_,nB h3,h4,rfl,fun x hx=>?_,fun j x k ht hk=>?_,fun j x ht=>?_⟩
 .have:=aB h2 x hx
  rw [hl] at this
  exact beq_iff_eq.mp this
 .have:=aB h5 (x,.free) hx
  rw [show (!((x,NameKind.free).2==NameKind.free))=false from rfl,Bool.false_or,and_eq_true] at this
  refine ⟨fun q=>?_,?_⟩
  .rw [q,beq_self_eq_true] at this;cases this.1
  .obtain ⟨e,he,hq⟩:=any_eq_true.mp this.2
   obtain ⟨k,rfl,hk⟩:=Bg hq
   obtain ⟨j,hi⟩:=List.getElem?_of_mem he
   exact ⟨j,k,hi,hk⟩
 .have:=h6 j x k ht
  rewrite [if_pos (by rcases hk with rfl |rfl<;>rfl)] at this
  rw [or_eq_true,and_eq_true,and_eq_true] at this
  rcases this with ⟨a,b⟩ | ⟨a,b⟩
  .exact .inl ⟨beq_iff_eq.mp a,eq_of_beq_eq_true b⟩
  .refine .inr ⟨List.contains_iff_mem.mp a,?_⟩
   cases e:B.tab[j]? with
   |none=>rw [e] at b;cases b
   |some e'=>rw [e] at b;obtain ⟨k',rfl,hk'⟩:=Bg b;exact ⟨k',rfl,hk'⟩
 .have:=h6 j x .local ht
  exact eq_of_beq_eq_true this
section
variable {P:Pg} {B Bc:bn} {C Ci:Ct} {n:Nat} {A:Around} {env cenv:Env} {g g':Gh} {V:aY} {J:Sg} {s s':Shared} {h h':Heap} {scope:Scope} {i:Nat} {xc:Option Str}
theorem dq.out (K:dq B Bc scope i xc)(x:bb P B C env g V h)(y:Str)(hy:(y,NameKind.free)∈scope.names):∃c,env.cells.lookup y=some c:=by
 obtain ⟨_,j,k,h1,h2⟩:=K.free y hy
 obtain ⟨c,_,h3,_⟩:=x.cell j y k h1 h2
 exact ⟨c,h3⟩
theorem nh (K:dq B Bc scope i xc){L c:Addr}(x:bb P B C env g V h)(hi:i∈C.U)(hn:h'.Ns L fun _=>none)(hc:∀y,xc=some y->h'.IsCell c none)(hL:h.get? L=none)(hcn:h.get? c=none)(w:bf P g h J)(hk:∀a o,h.get? a=some o->h'.get? a=some o):
  bb P Bc C (compEnvC scope (mo xc c++dL env scope.names []) L env) g V h':=by
 have hfree:=K.out x
 have cl:∀y c,(dL env scope.names []).lookup y=some c->env.cells.lookup y=some c:=fun y c hy=>gX scope.names [] hfree (fun _ q=>nomatch q) (y,c) (lk hy)
 have old:∀y,env.cells.lookup y=some c->False:=fun y hy=>(x.own c (mem_cons_of_mem _ (aP hy))).1 hcn
 have kf:aN g h g h':=⟨fun a f=>⟨f,hk a⟩,rfl⟩
 have no:∀a,h.get? a=none->¬g.F a/\¬g.Z a/\¬g.O a:=fun a e=>⟨fun q=>w.F a q e,fun q=>(w.Z a q).1 e,fun q=>(w.O a q).1 e⟩
 have free:∀{y d},(y,NameKind.free)∈scope.names->env.cells.lookup y=some d->(mo xc c++dL env scope.names []).lookup y=some d:=fun {y d} hm e=>by
  obtain ⟨c',hc'⟩:=aE (ny (env:=env) scope.names [] (.inr hm))
  obtain rfl:c'=d:=Option.some.inj ((cl y c' hc').symm.trans e)
  exact (vf (K.free y hm).1).trans hc'
 refine {ok:=K.ok,sc:=?_,glob:=x.glob,blt:=x.blt,ns:=⟨_,hn⟩,cell:=?_,apart:=?_,own:=?_,var:=?_,un:=x.un}
 .rw [K.sc]
  show relabel scope env=_
  unfold relabel gA Env.kindOf
  rw [x.sc]
 .intro j y k ht hk'
  rcases K.tab j y k ht hk' with ⟨q,_⟩ | ⟨hm,k',h1,h2⟩
  .exact ⟨c,none,q▸uc,hc y q⟩
  .obtain ⟨d,u,c1,o,e,dd⟩:=x.cell j y k' h1 h2
   exact ⟨d,u,free hm c1,o,hk _ _ e,dd⟩
 .intro y z d hy hz
  rcases mn hy with ⟨q,rfl⟩ |hy'
  .rcases mn hz with ⟨q',_⟩ |hz'
   .exact Option.some.inj (q.symm.trans q')
   .exact (old z (cl z _ hz')).elim
  .rcases mn hz with ⟨_,rfl⟩ |hz'
   .exact (old y (cl y _ hy')).elim
   .exact x.apart y z d (cl y d hy') (cl z d hz')
 .intro a ha
  rcases an ha with rfl |ha
  .exact ⟨let ⟨_,_,_,e,_⟩:=hn;ao e,no _ hL⟩
  .obtain ⟨q,hq,rfl⟩:=aG ha
   rcases ag hq with hq |hq
   .obtain ⟨y,hy,rfl⟩:=pM hq
    exact ⟨let ⟨_,e,_⟩:=hc y hy;ao e,no _ hcn⟩
   .have o:=x.own q.2 (mem_cons_of_mem _ (aP (gX scope.names [] hfree (fun _ q=>nomatch q) q hq)))
    refine ⟨?_,o.2⟩
    cases e:h.get? q.2 with
    |none=>exact (o.1 e).elim
    |some ob=>exact ao (hk _ _ e)
 .intro j y t ht hv
  obtain ⟨y,k⟩:=y
  have ji:j≠i:=fun q=>by rw [q,x.un i hi] at hv;cases hv
  have hkk:k=.cell\/k=.free:=(bn.look K.ok ht).2.2.1.resolve_left fun q=>ji (K.locs j y (q▸ht))
  obtain ⟨hm,k',h1,h2⟩:=(K.tab j y k ht hkk).resolve_left fun q=>ji q.2
  obtain ⟨u,v,vo⟩:=x.var j _ t h1 hv
  refine ⟨u,?_,vo.move kf rfl rfl fun a _=>hk a⟩
  cases v with
  |loc z m tz=>rw [h1] at tz;cases tz;rcases h2 with q |q<;>cases q
  |cel z kk d tz hz l nz=>
   rw [h1] at tz;cases tz
   exact .cel y k d ht hkk (free hm l) (let ⟨o,e,dd⟩:=nz;⟨o,hk _ _ e,dd⟩)
abbrev dD (P:Pg)(B:bn)(C:Ct)(ifs:List Expr)(p:PT):Prop:=cB P B C (fun A env Q E s=>wpAny P.M A (forIn ifs true fun c r=>if r=true then do let ok <-isTrue c env (eval c env);pure (ForInStep.yield ok) else pure (ForInStep.yield r)) Q E s) p RQ
theorem dD.nil:dD P B C [] bB:=.now fun _ _ _ _ _ _ _ _ _ _ _ _ hq=>wpAny_tests_nil (hq _ _ _ rfl rfl)
theorem dD.one {e:Expr}{p:PT}(h:bI P B C e p):dD P B C [e] p:=h.map fun _ _ _ _ _=>wpAny_tests_one
theorem bb.less {t:T}(x:bb P B Ci env g (V.set i (some t)) h)(hc:iI C i Ci)(un:∀j∈C.U,b9 V j=none)(hi:i∈C.U):bb P B C env g V h:=
 have ne:∀{j v},b9 V j=some v->j≠i:=fun e q=>by rw [q,un i hi] at e;cases e
 have st:∀{j v},b9 V j=some v->b9 (V.set i (some t)) j=some v:=fun {j v} e=>by
  cases q:b9 (V.set i (some t)) j with
  |none=>
   have:=c7 (v:=none) (ne e) q
   rw [set_set,iB (un i hi),e] at this;cases this
  |some u=>exact (ic q).elim (fun q=>(ne e q.1).elim) fun q=>q.2.symm.trans e▸rfl
 {x with
  var:=fun j y v ht hv=>let ⟨u,h1,h2⟩:=x.var j y v ht (st hv);⟨u,h1,by unfold bA at h2 ⊢;rw [hc.o j (ne hv),hc.m] at h2;exact h2⟩
  un:=un}
end
section
variable {P:Pg} {B Bc:bn} {C Ci C':Ct} {h₀:Heap} {fr:Bool} {n:Nat} {A:Around} {env cenv:Env} {g g':Gh} {V:aY} {J:Sg} {s s':Shared} {h h':Heap} {scope:Scope} {i:Nat} {xc:Option Str} {elt target iter:Expr} {ifs:List Expr} {pos:Pos}
abbrev dM (P:Pg)(g:Gh)(h:Heap)(D:Addr)(acc:List T):Prop:=wc h aX (aO P g h acc) acc.length D
theorem dM.mono {acc:List T}{D:Addr}(a:dM P g h D acc)(k:aN g h g' h')(hD:∀o,h.get? D=some o->h'.get? D=some o):dM P g' h' D acc:=wc.mono a hD fun _=>aO.mono k
theorem jU.p {vol:List Addr}(v:jU g env vol)(l:∀a∈vol,s.heap.get? a≠none)(p:aC g s g' s'):jU g' env vol/\∀a∈vol,∀o,s.heap.get? a=some o->s'.heap.get? a=some o:=v.post l p.toS
def Do (P:Pg)(B:bn)(C:Ct)(JJJ:Gh->Heap->Prop)(e:Expr)(p:PE)(R:RR Value T):Prop:=
 ∀n A env g V J s (k:PK T) (Q:Value->Shared->Prop) (E:Value->Shared->Prop),At P B C n A env g V J s->JJJ g s.heap->p (P.cx n) V J k≠.bad->
  (∀x s' g' t J',p (P.cx n) V J k=k t J'->aC g s g' s'->bf P g' s'.heap J'->R s.heap g' s'.heap t x->Q x s')->wpAny P.M A (eval e env) Q E s
structure AV (v:Gh->Gh) (JJJ:Gh->Heap->Prop):Prop where
 k:∀{g h g' h'},aN g h g' h'->aN (v g) h (v g') h'
 j:∀{g h g' h'},aN g h g' h'->JJJ g h->JJJ g' h'
theorem AV.all:AV (fun g=>g) fun _ _=>True:=⟨fun k=>k,fun _ j=>j⟩
theorem cB.j {e:Expr}{p:PE}{R:RR Value T}(h:aq P B C e p R):Do P B C (fun _ _=>True) e p R:=fun n A env g V J s k Q E X _ hb hq=>h n A env g V J s k Q E X hb hq
def yE (P:Pg)(A:Around)(elt target iter:Expr)(ifs:List Expr)(scope:Scope)(pos:Pos)(I D:Addr)(cenv:Env)(R:Result->Shared->Prop):Shared->Prop:=fun s=>wpAny P.M A (forIn ifs true fun c r=>if r=true then do let ok <-isTrue c cenv (eval c cenv);pure (ForInStep.yield ok) else pure (ForInStep.yield r)) (fun ok s=>
  if ok=true then wpAny P.M A (eval elt cenv) (fun x s=>wpAny P.M A (call (.builtin "list.append") [.ref D,x]) (fun _ s=>codeAny P.M A (.compLoop (.ListComp elt [⟨target,iter,ifs,0⟩] scope pos) 0 (.ref I) (.ref D) cenv) R s) (nt P A cenv R) s) (nt P A cenv R) s
  else codeAny P.M A (.compLoop (.ListComp elt [⟨target,iter,ifs,0⟩] scope pos) 0 (.ref I) (.ref D) cenv) R s) (nt P A cenv R) s
theorem d9 {I D:Addr}{R:Result->Shared->Prop}(nx:wpAny P.M A (pyNext (.ref I)) (fun r s=>match r with
   |none=>R (.ok .next) s
   |some u=>wpAny P.M A (letOwnedTupleGo target (.ref I) u) (fun _ s=>wpAny P.M A (assign target cenv u) (fun _ s=>yE P A elt target iter ifs scope pos I D cenv R s) (nt P A cenv R) s) (nt P A cenv R) s) (nt P A cenv R) s):codeAny P.M A (.compLoop (.ListComp elt [⟨target,iter,ifs,0⟩] scope pos) 0 (.ref I) (.ref D) cenv) R s:=by
 refine codeAny_of_tree ?_
 show wpAny P.M A ((compTurn (.ListComp elt [⟨target,iter,ifs,0⟩] scope pos) 0 (.ref I) (.ref D) cenv).onRaise (fun x=>do noteFrame x cenv;theTreesLotGoes x)) _ _ s
 refine wpAny_noted ?_
 rw [compTurn_list]
 refine wpAny_bind (wpAny_standAt (wpAny_bind (wpAny_mono nx (fun r s₁ h1=>?_) fun _ _ h'=>h')))
 cases r with
 |none=>exact wpAny_pure h1
 |some u=>
  refine wpAny_bind (wpAny_mono h1 (fun _ s2 h2=>wpAny_bind (wpAny_mono h2 (fun _ s3 h3=>wpAny_bind (wpAny_mono h3 (fun ok s4 h4=>?_) fun _ _ h'=>h')) fun _ _ h'=>h')) fun _ _ h'=>h')
  cases ok with
  |false=>exact wpAny_pure ⟨rfl,h4⟩
  |true=>
   rw [if_pos rfl] at h4 ⊢
   exact wpAny_bind (wpAny_bind (wpAny_mono h4 (fun x s5 h5=>wpAny_bind (wpAny_mono h5 (fun _ s6 h6=>wpAny_pure (wpAny_pure ⟨rfl,h6⟩)) fun _ _ h'=>h')) fun _ _ h'=>h'))
theorem vM {vw:Gh->Gh}{JJJ:Gh->Heap->Prop}{tw:Env->List Addr}{pc:PT}{pe:PE}{I D:Addr}{ts:List T}{vol fx:List Addr}{St:Nat->Gh->Heap->Prop}{k:PK (List T)}{R:Result->Shared->Prop}(T:jP P A Bc C Ci target (bz i) tw I ts vol fx St)(hc:iI C i Ci)(hi:i∈C.U)(hcond:dD P Bc Ci ifs pc)(VVV:AV vw JJJ)(hel:Do P Bc Ci JJJ elt pe fun _ g h t x=>Rp P (vw g) h t x)(hDv:D∉vol++fx):
  ∀(rest:List Mine.T) (j:Nat) (g:Gh) (J:Sg) (s:Shared) (acc:List Mine.T),j<=ts.length->ts.drop j=rest->acc.length+rest.length<=lim->At P Bc C n A cenv g V J s->JJJ g s.heap->jU g cenv (D::(vol++fx))->St j g s.heap->dM P (vw g) s.heap D acc->bO (bz i) pc pe (P.cx n) V rest J acc k≠.bad->
   (∀s' g' xs J',bO (bz i) pc pe (P.cx n) V rest J acc k=k xs J'->bC vol (D::(vol++tw cenv)) g s g' s'->At P Bc C n A cenv g' V J' s'->jU g' cenv [D]->dM P (vw g') s'.heap D xs->R (.ok .next) s')->
   codeAny P.M A (.compLoop (.ListComp elt [⟨target,iter,ifs,0⟩] scope pos) 0 (.ref I) (.ref D) cenv) R s:=by
 intro rest
 induction rest with
 |nil=>
  intro j g J s acc hle hd hl X hj hv st ac hb hq
  obtain rfl:j=ts.length:=le_antisymm hle (List.drop_eq_nil_iff.mp hd)
  have vD:jU g cenv [D]:=fun a ha=>hv a (aa ha▸mem_cons_self)
  refine d9 (wpAny_mono (T.done n cenv g V J s (fun s'=>R (.ok .next) s') (nt P A cenv R) X (fun a ha=>hv a (mem_cons_of_mem _ ha)) st fun s' p X'=>?_) (fun r s₁ h=>match r with |none=>h |some _=>h.elim) fun _ _ h=>h)
  have dn:=hv D mem_cons_self
  exact hq s' g acc J qh (p.weak (fun _ h=>h) fun a ha=>mem_cons_of_mem _ (mem_append_left _ ha)) X' vD (ac.mono (VVV.k <| p.toS.k X.g fun a ha=>(hv a (mem_cons_of_mem _ (mem_append_left _ ha))).1) fun o e=>p.keep D o e dn.2.1 fun q=>hDv (mem_append_left _ q))
 |cons v rest ih=>
  intro j g J s acc hle hd hl X hj hv st ac hb hq
  have hiv:ts[j]?=some v:=by rw [<-head?_drop,hd];rfl
  have hi':j < ts.length:=(aj hiv).1
  have hd':ts.drop (j+1)=rest:=by rw [<-tail_drop,hd];rfl
  have e1:bO (bz i) pc pe (P.cx n) V (v::rest) J acc k=pc (P.cx n) (V.set i (some v)) J fun b J=>bif b then pe (P.cx n) (V.set i (some v)) J fun x J=>bO (bz i) pc pe (P.cx n) V rest J (acc++[x]) k else bO (bz i) pc pe (P.cx n) V rest J acc k:=lJ
  rw [e1] at hb hq
  have hvv:jU g cenv (vol++fx):=fun a ha=>hv a (mem_cons_of_mem _ ha)
  have dn:=hv D mem_cons_self
  refine d9 (wpAny_mono (T.item j v n cenv g V _ J s (fun s3=>yE P A elt target iter ifs scope pos I D cenv R s3) (nt P A cenv R) hiv X hvv st rfl fun s3 p3 X3 st3=>?_) (fun r s₁ h=>match r with |none=>h.elim |some _=>h) fun _ _ h=>h)
  have nW:∀a∈vol++tw cenv,¬g.F a:=fun a ha=>(ag ha).elim (fun h=>(hvv a (mem_append_left _ h)).1) fun h=>(X.env.own a (T.sub cenv a h)).2.1
  have ac3:dM P (vw g) s3.heap D acc:=ac.mono (VVV.k (p3.toS.k X.g nW)) fun o e=>p3.keep D o e dn.2.1 fun q=>(ag q).elim (fun q=>hDv (mem_append_left _ q)) fun q=>dn.2.2.2 (T.sub cenv D q)
  have lv:∀{g s i},St i g s->dM P (vw g) s D acc->∀a∈D::(vol++fx),s.get? a≠none:=fun st ac a ha=>(an ha).elim (fun q=>q▸let ⟨_,_,e,_,_⟩:=ac;ao e) (T.here _ _ _ st a)
  have pw:bC [] (D::(vol++tw cenv)) g s g s3:=p3.weak (fun _ h=>h) fun a=>mem_cons_of_mem _
  refine hcond n A cenv g (V.set i (some v)) J s3 _ _ _ X3 hb fun b s4 g4 b' J4 e4 p4 w4 r4=>?_
  cases r4
  rw [e4] at hb hq
  have X4:=X3.post p4 w4
  obtain ⟨v4,k4⟩:=hv.p (lv st3 ac3) p4
  have st4:=T.stay _ _ _ _ _ st3 (p4.k X3.g) fun a ha=>k4 a (mem_cons_of_mem _ ha)
  have j4:=VVV.j (p4.k X3.g) (VVV.j (p3.toS.k X.g nW) hj)
  have ac4:=ac3.mono (VVV.k (p4.k X3.g)) (k4 D mem_cons_self)
  have p04:=pw.trans p4.toE
  have un:=X.env.un
  cases b with
  |false=>
   rw [if_neg (by decide)]
   exact ih (j+1) g4 J4 s4 acc hi' hd' (Nat.le_of_succ_le hl) ⟨X.good,X.call,X.room,X4.env.less hc un hi,w4⟩ j4 v4 st4 ac4 hb fun s' g' xs J' q1 q2 q3 q4 q5=>hq s' g' xs J' q1 (p04.trans q2) q3 q4 q5
  |true=>
   rw [if_pos rfl]
   refine hel n A cenv g4 (V.set i (some v)) J4 s4 _ _ _ X4 j4 hb fun x s5 g5 t J5 e5 p5 w5 r5=>?_
   rw [show (bif true then pe (P.cx n) (V.set i (some v)) J4 fun x J=>bO (bz i) pc pe (P.cx n) V rest J (acc++[x]) k else bO (bz i) pc pe (P.cx n) V rest J4 acc k)=_ from e5] at hb hq
   have X5:=X4.post p5 w5
   obtain ⟨v5,k5⟩:=v4.p (lv st4 ac4) p5
   have st5:=T.stay _ _ _ _ _ st4 (p5.k X4.g) fun a ha=>k5 a (mem_cons_of_mem _ ha)
   obtain ⟨ys,m,d1,d2,d3⟩:=ac4.mono (VVV.k (p5.k X4.g)) (k5 D mem_cons_self)
   refine d5 d1 ?_ (ba (d3.size▸d2))
   have hs:=Heap.SameBut.update s5.heap D (Obj.mapSeq fun a=>a.push x)
   have d1':=IsL.update d1 (fun a=>a.push x)
   obtain ⟨p6,X6⟩:=cW (vol:=[D]) (h':=s5.heap.update D (Obj.mapSeq fun a=>a.push x)) X5 (fun a ha=>v5 a (aa ha▸mem_cons_self)) (fun a o e q=>(hs.2 a fun z=>q (z▸ay rfl)).trans e) s5.toks
   have kf:=p6.toS.k X5.g fun a ha=>(v5 a (aa ha▸mem_cons_self)).1
   have p06:=(p04.trans p5.toE).trans ((eh p6 fun a ha=>by rw [aa ha];exact ao d1').weak (fun _ h=>h) fun a ha=>aa ha▸mem_cons_self)
   refine ih (j+1) g5 J5 _ (acc++[t]) hi' hd' (by rw [List.length_append];exact le_trans (le_of_eq (by rw [length_singleton,length_cons,add_assoc,add_comm 1])) hl) ⟨X.good,X.call,X.room,X6.env.less hc un hi,X6.g⟩ (VVV.j kf (VVV.j (p5.k X4.g) j4)) v5 (T.stay _ _ _ _ _ st5 kf fun a ha o e=>(hs.2 a fun q=>hDv (q▸ha)).trans e) ⟨_,_,d1',?_,?_⟩ hb fun s' g' xs J' q1 q2 q3 q4 q5=>hq s' g' xs J' q1 (p06.trans q2) q3 q4 q5
   .rw [List.length_append];exact le_trans (add_le_add_left (show 1<=rest.length+1 from succ_le_succ (zero_le _)) _) hl
   .rw [Array.toList_push]
    exact aO.append (aO.cons (Rp.mono (VVV.k kf) r5) aO.nil) (d3.mono (VVV.k kf))
theorem nC (K:dq B Bc scope i xc)(HHH:Heap):(pushCells (HHH.push {cls:=.type "dict",data:=.dict #[]}) scope.names).Ns HHH.objs.size (fun _=>none)/\
  (∀y,xc=some y->(pushCells (HHH.push {cls:=.type "dict",data:=.dict #[]}) scope.names).IsCell (HHH.objs.size+1) none)/\HHH.get? (HHH.objs.size+1)=none/\∀a o,HHH.get? a=some o->(pushCells (HHH.push {cls:=.type "dict",data:=.dict #[]}) scope.names).get? a=some o:=by
 obtain ⟨k,c⟩:=K.cells.2 (HHH.push {cls:=.type "dict",data:=.dict #[]})
 have sz:(HHH.push {cls:=.type "dict",data:=.dict #[]}).objs.size=HHH.objs.size+1:=Heap.size_push ..
 rw [sz] at c
 refine ⟨(Heap.Ns.new HHH (.type "dict")).keeps k,c,?_,fun a o e=>k a o (Heap.get?_push_of_some _ e)⟩
 cases q:HHH.get? (HHH.objs.size+1) with
 |none=>rfl
 |some o=>
  have:=Heap.get?_push_of_some {cls:=.type "dict",data:=.dict #[]} q
  rw [<-sz,aD] at this;cases this
def j1:Option Str->Env->List Addr
 |none=>fun env=>[env.locals]
 |some x=>A1 .cell x
theorem tN {c:Addr}{r:List (Str×Addr)}{L:Addr}:∀a∈j1 xc (compEnvC scope (mo xc c++r) L env),a=L\/a=c:=fun a ha=>by
 cases xc with
 |none=>exact .inl (aa ha)
 |some x=>
  have h:a∈((mo (some x) c++r).lookup x).toList:=ha
  rw [uc] at h
  exact .inr (aa h)
theorem ni {vw:Gh->Gh}{JJJ:Gh->Heap->Prop}{pos':Pos}{pi:PL}{pc:PT}{pe:PE}{use:Option (Value->Sem Unit)}{k:PK T}{Q:Value->Shared->Prop}{E:Value->Shared->Prop}(K:dq B Bc scope i xc)(hi:i∈C.U)(hc:iI C i Ci)(hI:BC P B C n A env g V J s iter (vW P Bc C Ci target (bz i) (j1 xc)) pi)(hcond:dD P Bc Ci ifs pc)(VVV:AV vw JJJ)(hj:JJJ g s.heap)(hel:Do P Bc Ci JJJ elt pe fun _ g h t x=>Rp P (vw g) h t x)(hs:∀env x,foldedSetIterable iter env x=pure x)
  (X:At P B C n A env g V J s)(hb:bv pi (bz i) pc pe (P.cx n) V J k≠.bad)
  (ok:∀D L s' g' xs J' m,bv pi (bz i) pc pe (P.cx n) V J k=k (.lst xs) J'->aC g s g' s'->bf P g' s'.heap J'->s.heap.get? D=none->(¬g'.F D/\¬g'.Z D/\¬g'.O D)->dM P (vw g') s'.heap D xs->s.heap.get? L=none->(¬g'.F L/\¬g'.Z L/\¬g'.O L)->D≠L->s'.heap.Ns L m->compPost P.M A E use Q (.ref D) L (.ok .next) s'):
  wpAny P.M A (comprehension (.ListComp elt [⟨target,iter,ifs,0⟩] scope pos) scope env pos' (newList []) false (eval iter env) use) Q E s:=by
 refine wpAny_comprehension_free (use:=use) rfl (hs env) (iZ (K.out X.env)) K.kind K.names ?_
 refine hI (fun xs J=>bO (bz i) pc pe (P.cx n) V xs J [] fun ys J=>k (.lst ys) J) _ _ X hb fun s₁ g₁ ts J1 I vol fx St ea p1 w1 T st hv hx hl=>?_
 have hb1:=fun q=>hb (ea.trans q)
 have X1:=X.post p1 w1
 refine wpAny_newList (jx ?_)
 rw [K.cells.1]
 have p2:aC g₁ s₁ g₁ {s₁ with heap:=s₁.heap.push (aX #[] 0),toks:=s₁.toks}:=.push _ _
 have w2:bf P g₁ (s₁.heap.push (aX #[] 0)) J1:=w1.push _
 have hD2:=bD (h:=s₁.heap) (aX #[] 0)
 have hDn:s₁.heap.get? s₁.heap.objs.size=none:=aD _
 obtain ⟨nf,nz,no⟩:=cZ w1
 show codeAny P.M A _ _ {s₁ with heap:=pushCells ((s₁.heap.push (aX #[] 0)).push {cls:=.type "dict",data:=.dict #[]}) scope.names}
 generalize s₁.heap.objs.size=D at *
 generalize s₁.heap.push (aX #[] 0)=H2 at p2 w2 hD2 ⊢
 obtain ⟨hn3,hc3,hcn,k3⟩:=nC K H2
 have hCn:H2.get? H2.objs.size=none:=aD _
 generalize pushCells (H2.push {cls:=.type "dict",data:=.dict #[]}) scope.names=h3 at hn3 hc3 k3 ⊢
 generalize H2.objs.size+1=c at *
 generalize H2.objs.size=L at *
 have x2:=X1.env.post w1 p2
 have envc:=nh K x2 hi hn3 hc3 hCn hcn w2 k3
 have w3:bf P g₁ h3 J1:=w2.grow k3 g₁.F (fun _ h=>h) fun _ h=>.inl h
 have p3:aC g₁ s₁ g₁ {s₁ with heap:=h3,toks:=s₁.toks}:=p2.trans (.grow (s:={s₁ with heap:=H2,toks:=s₁.toks}) s₁.toks k3 g₁.F (fun _ h=>h) fun _ h=>.inl h)
 have hown:∀a∈own (compEnvC scope (mo xc c++dL env scope.names []) L env),H2.get? a=none\/a∈own env:=fun a ha=>by
  rcases an ha with rfl |h
  .exact .inl hCn
  .obtain ⟨q,hq,rfl⟩:=aG h
   rcases ag hq with hq |hq
   .obtain ⟨_,_,rfl⟩:=pM hq;exact .inl hcn
   .exact .inr (mem_cons_of_mem _ (aP (gX scope.names [] (K.out X.env) (fun _ q=>nomatch q) q hq)))
 have hvl:=T.here _ _ _ st
 have hvol:jU g₁ (compEnvC scope (mo xc c++dL env scope.names []) L env) (D::(vol++fx)):=fun a ha=>by
  rcases an ha with rfl |ha
  .exact ⟨nf,nz,no,fun q=>(hown a q).elim (ao hD2) fun q=>(X1.env.own a q).1 hDn⟩
  .have hl:=hvl a ha
   rcases ag ha with ha |ha
   .exact ⟨(hv a ha).2.1,(hv a ha).2.2,fun q=>(X.g.O a (let ⟨i,q⟩:=q;⟨i,p1.o▸q⟩)).1 (hv a ha).1,fun q=>(hown a q).elim (fun z=>hl (p2.back a z)) fun q=>(X.env.own a q).1 (hv a ha).1⟩
   .exact ⟨(hx a ha).1,(hx a ha).2.1,(hx a ha).2.2.1,fun q=>(hown a q).elim (fun z=>hl (p2.back a z)) (hx a ha).2.2.2⟩
 have st3:=T.stay _ _ _ _ _ st (p3.k w1) fun a ha o e=>p3.keep a o e (hvol a (mem_cons_of_mem _ ha)).2.1
 refine (fun loop=>codeAny_compStart_list loop (T.self 0 g₁ _ _ _ st3 loop):codeAny P.M A (.compLoop (.ListComp elt [⟨target,iter,ifs,0⟩] scope pos) 0 (.ref I) (.ref D) (compEnvC scope (mo xc c++dL env scope.names []) L env)) (compPost P.M A E use Q (.ref D) L) {s₁ with heap:=h3,toks:=s₁.toks}->_) ?_
 have htw:=tN (xc:=xc) (c:=c) (r:=dL env scope.names []) (scope:=scope) (L:=L) (env:=env)
 have hl':(compEnvC scope (mo xc c++dL env scope.names []) L env).locals=L:=rfl
 generalize compEnvC scope (mo xc c++dL env scope.names []) L env=cenv at *
 have X3:At P Bc C n A cenv g₁ V J1 {s₁ with heap:=h3,toks:=s₁.toks}:=⟨X.good,X.call,X.room,envc,w3⟩
 refine vM T hc hi hcond VVV hel (fun q=>hvl D q hDn) ts 0 g₁ J1 _ [] (zero_le _) rfl (by rw [length_nil,zero_add];exact hl) X3 (VVV.j (p3.k w1) (VVV.j (p1.k X.g) hj)) hvol st3 ⟨_,_,k3 _ _ hD2,zero_le _,rfl⟩ hb1 fun s' g' xs J' q1 q2 q3 q4 q5=>?_
 have fr:∀{a},H2.get? a=none->s₁.heap.get? a=none:=fun h=>p2.back _ h
 have pe:aC g s g' s':=(((p1.trans p3).toE (W:=D::(vol++j1 xc cenv))).trans q2).toP (fun a ha=>by
  rcases an ha with rfl |ha
  .exact p1.back _ hDn
  .rcases ag ha with ha |ha
   .exact (hv a ha).1
   .rcases htw a ha with rfl |rfl
    .exact p1.back _ (fr hCn)
    .exact p1.back _ (fr hcn)) fun a ha=>(hv a ha).1
 obtain ⟨m,hm⟩:=q3.env.ns
 have nD:=q4 D (ay rfl)
 exact ok D L s' g' xs J' m (ea.trans q1) pe q3.g (p1.back _ hDn) ⟨nD.1,nD.2.1,nD.2.2.1⟩ q5 (p1.back _ (fr hCn)) (let o:=q3.env.own L (hl'▸mem_cons_self);⟨o.2.1,o.2.2.1,o.2.2.2⟩) (fun q=>ao hD2 (q▸hCn)) (hl'▸hm)
theorem aC.scrap {L:Addr}(p:aC g s g' s')(hL:s.heap.get? L=none)(hs:∀b,b≠L->h'.get? b=s'.heap.get? b):aC g s g' {s' with heap:=h'}:=
 ⟨St.trans p.st ⟨h',s'.toks,rfl⟩,fun a o e z=>(hs a fun q=>ao e (q▸hL)).trans (p.keep a o e z),fun a e=>by
  by_cases q:a=L
  .exact q▸hL
  .exact p.back a ((hs a q).symm.trans e),p.F,p.Fn,p.Zn,p.o,p.sp,p.sa⟩
theorem bf.scrap {L:Addr}(w:bf P g h J)(hL:¬g.F L/\¬g.Z L/\¬g.O L)(hs:∀b,b≠L->h'.get? b=h.get? b):bf P g h' J/\aN g h g h':=by
 have k:∀a,g.F a\/g.Z a\/g.O a->h'.get? a=h.get? a:=fun a q=>hs a fun e=>q.elim (e▸hL.1) fun q=>q.elim (e▸hL.2.1) (e▸hL.2.2)
 have kf:aN g h g h':=⟨fun a f=>⟨f,fun o e=>(k a (.inl f)).trans e⟩,rfl⟩
 exact ⟨⟨fun a o e=>⟨(w.base a o e).1,(k a (.inl (w.base a o e).1)).trans (w.base a o e).2⟩,fun a f=>by rw [k a (.inl f)];exact w.F a f,fun a z=>by rw [k a (.inr (.inl z))];exact w.Z a z,fun a z=>by rw [k a (.inr (.inr z))];exact w.O a z,w.oo,
  ⟨let ⟨t,n,e⟩:=w.spot.1;⟨t,n,(k _ (.inr (.inl w.spot.2.1))).trans e⟩,w.spot.2⟩,fun c ts e=>(w.self c ts e).mono kf (fun a z=>⟨z,fun o e=>(k a (.inr (.inl z))).trans e⟩) rfl⟩,kf⟩
theorem AX.scrap {L D:Addr}{t:T}(r:AX P h₀ g h t (.ref D))(kf:aN g h g h')(hD:D≠L)(hs:∀b,b≠L->h'.get? b=h.get? b):AX P h₀ g h' t (.ref D):=by
 obtain ⟨a,e,n,f,z,o,r⟩:=r
 cases e
 exact ⟨D,rfl,n,f,z,o,r.mono kf fun o e=>(hs D hD).trans e⟩
theorem aq.comp {pi:PL}{pc:PT}{pe:PE}(K:dq B Bc scope i xc)(hi:C.U.any (Nat.beq i)=true)(hc:ch C i false Ci=true)(hI:fI P B C iter (vW P Bc C Ci target (bz i) (j1 xc)) pi)(hcond:dD P Bc Ci ifs pc)(hel:aq P Bc Ci elt pe (RV P))(hs:∀env x,foldedSetIterable iter env x=pure x):
  aq P B C (.ListComp elt [⟨target,iter,ifs,0⟩] scope pos) (bv pi (bz i) pc pe) (RN P):=fun n A env g V J s k Q E X hb hq=>by
 show wpAny P.M A (eval _ env) Q E s
 rw [eval_ListComp]
 refine ni K (iu hi) (dF hc).1 (hI n A env g V J s) hcond .all trivial hel.j hs X hb fun D L s' g' xs J' m e p w n1 n2 ac hL nL hDL hn=>⟨m,hn,fun h' hsb=>?_⟩
 have r:AX P s.heap g' s'.heap (.lst xs) (.ref D):=⟨D,rfl,n1,n2.1,n2.2.1,n2.2.2,ac⟩
 obtain ⟨w',kf⟩:=w.scrap nL hsb.2
 exact hq _ _ g' _ J' e (p.scrap hL hsb.2) w' (r.scrap kf hDL hsb.2)
end
section
variable {P:Pg} {B Bc:bn} {C Ci C':Ct} {fr:Bool} {n:Nat} {A:Around} {env:Env} {g g':Gh} {V:aY} {J:Sg} {s s':Shared} {h h':Heap} {scope:Scope} {i j:Nat} {xc:Option Str} {elt target iter:Expr} {ifs:List Expr} {pos px spos:Pos} {y:Str}
theorem aQ.scrap {L:Addr}{W:List Addr}(p:aQ [] W g s g' s')(hL:s.heap.get? L=none)(hs:∀b,b≠L->h'.get? b=s'.heap.get? b):aQ [] W g s g' {s' with heap:=h'}:=
 {p with
  st:=St.trans p.st ⟨h',s'.toks,rfl⟩
  keep:=fun a o e z q w=>(hs a fun q=>ao e (q▸hL)).trans (p.keep a o e z q w)
  back:=fun a v e=>by
   by_cases q:a=L
   .exact q▸hL
   .exact p.back a v ((hs a q).symm.trans e)}
theorem rL {L:Addr}{m:Str->Option Value}{g2:Gh}{V2:aY}{J':Sg}{s2:Shared}{Q:Flow->Shared->Prop}(p:aQ [] (own env) g s g2 s2)(X:At P B C' n A env g2 V2 J' s2)(hn:s2.heap.Ns L m)(hL:s.heap.get? L=none)(nL:¬g2.F L/\¬g2.Z L/\¬g2.O L)(hLo:L∉own env)
  (hq:∀s',aQ [] (own env) g s g2 s'->At P B C' n A env g2 V2 J' s'->Q .next s'):∃m,s2.heap.Ns L m/\∀h',Heap.SameBut L s2.heap h'->Q .next {s2 with heap:=h'}:=
 ⟨m,hn,fun h' hs=>hq _ (p.scrap hL hs.2) (cW (vol:=[L]) X (fun a ha=>by rw [aa ha];exact ⟨nL.1,nL.2.1,nL.2.2,hLo⟩) (fun a o e q=>(hs.2 a fun z=>q (z▸ay rfl)).trans e) s2.toks).2⟩
theorem aL.setCompG {pi:PL}{pc:PT}{pe:PE}(o:Bool)(ho:ch C j o C'=true)(ht:B.tab[j]?=some (some (y,.local)))(hw:v6 (.ListComp elt [⟨target,iter,ifs,0⟩] scope pos) y px spos.line B.sc=true)(K:dq B Bc scope i xc)(hi:C.U.any (Nat.beq i)=true)(hc:ch C i false Ci=true)(hI:fI P B C iter (vW P Bc C Ci target (bz i) (j1 xc)) pi)(hcond:dD P Bc Ci ifs pc)(hel:aq P Bc Ci elt pe (RV P))(hs:∀env x,foldedSetIterable iter env x=pure x):
  aL P B C fr C' (.Assign [.Name y px] (.ListComp elt [⟨target,iter,ifs,0⟩] scope pos) spos) (aI j (bv pi (bz i) pc pe)):=fun n A env g V J s k Q E X hb hq hr=>by
 show wpAny P.M A (exec _ env) Q E s
 rw [exec_Assign_Name_used _ _ _ _ (by rw [gx X.env.sc,hw])]
 refine wpAny_bind (wpAny_standAt (wpAny_bind ?_))
 show wpAny _ A (do let _ <-comprehension (.ListComp elt [⟨target,iter,ifs,0⟩] scope pos) scope env _ (newList []) false (eval iter env) (some (assign (.Name y px) env))) _ _ s
 refine wpAny_bind (wpAny_mono (ni (Q:=fun _ s'=>Q .next s') (E:=E) (k:=fun v J=>k (V.set j (some v)) J) (use:=some (assign (.Name y px) env)) K (iu hi) (dF hc).1 (hI n A env g V J s) hcond .all trivial hel.j hs X hb fun D L s' g' xs J' m e p w nD ⟨f,z,o'⟩ r hL nL hDL hn=>?_) (fun _ s' hq=>wpAny_pure (wpAny_pure hq)) fun _ _ e=>e)
 have X1:=X.post p w
 have hLo:L∉own env:=fun q=>(X.env.own L q).1 hL
 show wpAny _ A (assign (.Name y px) env (.ref D)) _ _ s'
 have r:hY P g' s'.heap D (.lst xs):=r
 obtain ⟨hs',hO⟩:=dF ho
 have nl:∀{s2 g2},bC [] (A1 .local y env) g2 s' g2 s2->g2.Z=g'.Z->s2.heap.Ns L m:=fun p2 ez=>hn.at fun o e=>p2.keep L o e (by rw [ez];exact nL.2.1) fun q=>hLo (cY L q)
 cases o with
 |false=>
  have kf:aN g' s'.heap {g' with F:=fun y=>g'.F y\/y=D} s'.heap:=⟨fun b f=>⟨.inl f,fun _ e=>e⟩,rfl⟩
  have pz:aC g s {g' with F:=fun y=>g'.F y\/y=D} s':=⟨p.st,p.keep,p.back,fun b f=>.inl (p.F b f),fun b f=>f.elim (p.Fn b) fun e=>.inr (e▸nD),p.Zn,p.o,p.sp,p.sa⟩
  refine wpAny_assign_Name (ib (X.post pz (w.freeze r.live z o')) ho ht (.inl rfl) (t:=.lst xs) ((r.mono kf fun _ e=>e).rp (.inr rfl)) fun s2 p2 X2=>?_)
  exact rL (pz.toS.trans (p2.toS.weak cY)) X2 (nl p2 rfl) hL ⟨fun q=>q.elim nL.1 (Ne.symm hDL),nL.2⟩ hLo fun s' p' X'=>hq s' _ _ J' e p' X'
 |true=>
  have ow:∀b∈own env,¬(g'.put j (some D)).O b:=fun b hb q=>(jq q).elim (fun q=>(X.env.own b hb).1 (Option.some.inj q▸nD)) fun ⟨j,_,q⟩=>(X1.env.own b hb).2.2.2 ⟨j,q⟩
  have pa:aQ [] (own env) g s (g'.put j (some D)) s':={(p.toS:aQ [] (own env) g s g' s') with On:=fun b q=>(jq q).elim (fun q=>.inr (Option.some.inj q▸nD)) fun ⟨j,_,q⟩=>.inl ⟨j,p.o▸q⟩}
  have X2:At P B C' n A env (g'.put j (some D)) (V.set j none) J' s':=⟨X.good,X.call,X.room,X1.env.forget hs' (iO g' j _) ow,w.put fun b q=>Option.some.inj q▸⟨r.live,f,z,o'⟩⟩
  refine wpAny_assign_Name (jk X2 hs'.nu ht (.inl rfl) (t:=.lst xs) (by unfold bA;rw [hO];exact ⟨D,rfl,gE ..,r.mono ((iO g' j _).k _) fun _ e=>e⟩) fun s2 p2 X3 _=>?_)
  rw [set_set] at X3
  exact rL (pa.trans (p2.toS.weak cY)) X3 (nl p2 rfl) hL ⟨nL.1,nL.2.1,fun q=>(jq q).elim (fun q=>hDL (Option.some.inj q)) fun ⟨j,_,q⟩=>nL.2.2 ⟨j,q⟩⟩ hLo fun s' p' X'=>hq s' _ _ J' e p' X'
end
section
variable {P:Pg} {B:bn} {C:Ct}
theorem xJ {k:Nat}(h:k<=lim):(k:Int) < 2 ^ 63:=Int.lt_of_le_of_lt (bE h) (by decide)
abbrev Bf (P:Pg)(id:Value):W1 Value:=Dk P fun x=>PySem.call id [x]
theorem xL:wd P (Bf P (.builtin "len")) bJ (RV P):=fun A env g J s x t y Q E rm w q e hq=>by
 have one:∀{l:Addr} {items:Array Value} {k:Nat},s.heap.IsList l items->items.size<=lim->items.size=k->y=.int k->wpAny P.M A (PySem.call (.builtin "len") [.ref l]) Q E s:=fun hl h1 h2 h3=>Calls.call_len_list hl (xJ h1) (by rw [h2];exact cM w (h3▸hq))
 unfold bJ at e
 cases e1:iM t with
 |some ts=>
  rw [e1] at e
  rcases q.sq e1 with ⟨a,vs,n,rfl,h1,l,r⟩ | ⟨a,vs,n,rfl,h1,l,r⟩
  .cases e
   refine PySem.P.len_tuple h1 (by have:=xJ (r.size▸l);lia -abstractProof) ?_
   rw [r.size];exact cM w hq
  .exact one ⟨_,h1,rfl,n,rfl⟩ (r.size▸l) r.size (Option.some.inj e).symm
 |none=>cases e2:De t with
  |some ns=>
   rw [e1,e2] at e
   obtain ⟨a,items,rfl,⟨o,g1,g2⟩,b,r⟩:=q.n e2
   exact one ⟨o,(w.base _ _ g1).2,g2⟩ b ((r.rp (P:=P) (g:=g) (h:=s.heap)).size.trans (length_map ..)) (Option.some.inj e).symm
  |none=>
   rw [e1,e2] at e
   obtain ⟨z,e3,e4⟩:=ax e
   obtain ⟨⟨_,h2⟩,p,rfl⟩:=q.s e3
   cases e4
   exact PySem.P.len_str (by have:=xJ h2;lia -abstractProof) (cM w hq)
theorem xZ {A:Around}{s:Shared}{E:Value->Shared->Prop}{a:Addr}{o:Obj}(T:BT){Q:Value->Shared->Prop}(e:s.heap.get? a=some o)(hc:o.cls=.type "list")(h:∀tk,Q (.bool (match T with |.list=>true |_=>false)) {s with toks:=tk}):wpAny P.M A (PySem.call (.builtin "isinstance") [.ref a,.type T.id]) Q E s:=by
 cases T with
 |list=>exact IsiPair.list_list e hc (h s.toks)
 |bool=>exact IsiPair.list_bool e hc (h _)
 |int=>exact IsiPair.list_int e hc (h _)
 |str=>exact IsiPair.list_str e hc (h _)
 |tuple=>exact IsiPair.list_tuple e hc (h _)
theorem vv {A:Around}{s:Shared}{E:Value->Shared->Prop}{Q:Value->Shared->Prop}(T:BT){c:Bool}(h:∀tk,Q (.bool (match T with |.bool |.int=>true |_=>false)) {s with toks:=tk}):wpAny P.M A (PySem.call (.builtin "isinstance") [(.bool c),.type T.id]) Q E s:=by
 cases T with
 |list=>exact IsiPair.bool_list (h _)
 |bool=>exact IsiPair.bool_bool (h s.toks)
 |int=>exact IsiPair.bool_int (h s.toks)
 |str=>exact IsiPair.bool_str (h _)
 |tuple=>exact IsiPair.bool_tuple (h _)
theorem x9 {A:Around}{s:Shared}{E:Value->Shared->Prop}{Q:Value->Shared->Prop}(T:BT){c:Int}{u:Tok}(h:∀tk,Q (.bool (match T with |.int=>true |_=>false)) {s with toks:=tk}):wpAny P.M A (PySem.call (.builtin "isinstance") [(.int c u),.type T.id]) Q E s:=by
 cases T with
 |list=>exact IsiPair.int_list (h _)
 |bool=>exact IsiPair.int_bool (h _)
 |int=>exact IsiPair.int_int (h s.toks)
 |str=>exact IsiPair.int_str (h _)
 |tuple=>exact IsiPair.int_tuple (h _)
theorem xY {A:Around}{s:Shared}{E:Value->Shared->Prop}{Q:Value->Shared->Prop}(T:BT){c:Str}{u:Tok}(h:∀tk,Q (.bool (match T with |.str=>true |_=>false)) {s with toks:=tk}):wpAny P.M A (PySem.call (.builtin "isinstance") [(.str c u),.type T.id]) Q E s:=by
 cases T with
 |list=>exact IsiPair.str_list (h _)
 |bool=>exact IsiPair.str_bool (h _)
 |int=>exact IsiPair.str_int (h _)
 |str=>exact IsiPair.str_str (h s.toks)
 |tuple=>exact IsiPair.str_tuple (h _)
theorem sZ {A:Around}{s:Shared}{E:Value->Shared->Prop}{Q:Value->Shared->Prop}(T:BT){a:Addr}{o:Obj}(e:s.heap.get? a=some o)(hc:o.cls=.type "tuple")(h:∀tk,Q (.bool (match T with |.tuple=>true |_=>false)) {s with toks:=tk}):wpAny P.M A (PySem.call (.builtin "isinstance") [.ref a,.type T.id]) Q E s:=by
 cases T with
 |list=>exact IsiPair.tuple_list e hc (h _)
 |bool=>exact IsiPair.tuple_bool e hc (h _)
 |int=>exact IsiPair.tuple_int e hc (h _)
 |str=>exact IsiPair.tuple_str e hc (h _)
 |tuple=>exact IsiPair.tuple_tuple e hc (h s.toks)
theorem vr {A:Around}{s:Shared}{E:Value->Shared->Prop}{Q:Value->Shared->Prop}(T:BT)(h:∀tk,Q (.bool false) {s with toks:=tk}):wpAny P.M A (PySem.call (.builtin "isinstance") [.none,.type T.id]) Q E s:=by
 cases T with
 |list=>exact IsiPair.NoneType_list (h _)
 |bool=>exact IsiPair.NoneType_bool (h _)
 |int=>exact IsiPair.NoneType_int (h _)
 |str=>exact IsiPair.NoneType_str (h _)
 |tuple=>exact IsiPair.NoneType_tuple (h _)
theorem vt {A:Around}{s:Shared}{E:Value->Shared->Prop}{Q:Value->Shared->Prop}(T:BT){a:Addr}{o:Obj}(e:s.heap.get? a=some o)(hc:o.cls=.type "dict")(h:∀tk,Q (.bool false) {s with toks:=tk}):wpAny P.M A (PySem.call (.builtin "isinstance") [.ref a,.type T.id]) Q E s:=by
 cases T with
 |list=>exact IsiPair.dict_list e hc (h _)
 |bool=>exact IsiPair.dict_bool e hc (h _)
 |int=>exact IsiPair.dict_int e hc (h _)
 |str=>exact IsiPair.dict_str e hc (h _)
 |tuple=>exact IsiPair.dict_tuple e hc (h _)
theorem BT.mem (T:BT):T.nm∈g9/\bootBuiltins T.nm=some (.type T.id)/\(T.nm==("__debug__":Str))=false:=by cases T<;>refine ⟨by decide,by decide,by decide⟩
theorem yL {g:Gh}{J:Sg}{s:Shared}{b:Bool}{tk:Nat}(w:bf P g s.heap J){Q:Value->Shared->Prop}(hq:∀u s' g',aC g s g' s'->bf P g' s'.heap J->Rp P g' s'.heap (.bool b) u->Q u s'):Q (.bool b) {s with toks:=tk}:=hq _ _ g (.toks g s tk) w rfl
theorem CC (T:BT):wd P (Dk P fun x=>PySem.call (.builtin "isinstance") [x,.type T.id]) (eF T) (RV P):=fun A env g J s x t y Q E rm w q e hq=>by
 obtain ⟨b,e1,e2⟩:=ax e
 cases e2
 have k:∀tk,Q (.bool b) {s with toks:=tk}:=fun tk=>yL w hq
 cases t with
 |bool c=>cases e1;rw [q.b rfl];exact vv T k
 |int i=>cases e1;obtain ⟨p,rfl⟩:=q.i rfl;exact x9 T k
 |str z=>cases e1;obtain ⟨_,p,rfl⟩:=q.s rfl;exact xY T k
 |tup ts=>cases e1;obtain ⟨a,rfl,_,vs,n,h1,_⟩:=q.tu rfl;exact sZ T h1 rfl k
 |lst ts=>cases e1;obtain ⟨a,rfl,vs,n,h1,_⟩:=q.ls rfl;exact xZ T h1 rfl k
 |none=>cases e1;rw [show x=_ from q.v fun _ h=>h];exact vr T k
 |dct us ts=>
  cases us with
  |cons=>cases e1
  |nil=>
   cases e1
   obtain ⟨a,rfl,r⟩:∃a,x=.ref a/\tJ P s.heap [] (aO P g s.heap []) (aO P g s.heap ts) a:=q.elim (fun r=>let ⟨a,e,_,o⟩:=r;⟨a,e,o⟩) fun ⟨a,e,r⟩=>⟨a,e,r⟩
   cases r with
   |mk _ o es h1 d _ _=>exact vt T h1 d.x.1 k
   |ix _ kvs _ e _ ne _=>cases kvs with
    |nil=>exact (ne rfl).elim
    |cons=>cases e
 |_=>cases e1
theorem aq.isi {e:Expr}{p:PE}(T:BT){pn qn pos:Pos}(hx:B.sc.names.lookup (ofString "isinstance")=some .globalImplicit)(hT:B.sc.names.lookup T.nm=some .globalImplicit)
  (hn:∀env,starEach [e,.Name T.nm qn] env=[(false,eval e env),(false,eval (.Name T.nm qn) env)])(h:aq P B C e p (RX P)):aq P B C (.Call (.Name (ofString "isinstance") pn) [e,.Name T.nm qn] [] pos) (p1 (eF T) p) (RV P):=fun n A env g V J s k Q E X hb hq=>by
 obtain ⟨m1,m2,m3⟩:=T.mem
 refine Call_Name rfl (X.blt hx (by decide) (by decide) (v:=.builtin "isinstance") (by decide) ?_)
 refine bG (fun _ q=>by cases q) (bc (by rw [hn env];exact fun q hq=>by cases hq with |head=>rfl |tail _ h=>cases h with |head=>rfl |tail _ h=>cases h)) (wpAny_items_cons ?_ (hn env))
 refine h.bind (N:=fun A env x Q E s=>wpAny P.M A (spliced (backTo pos (starEach [.Name T.nm qn] env))) (fun vs s₁=>wpAny P.M A (PySem.call (.builtin "isinstance") (x::vs)) Q E s₁) E s) (F:=fun _ _ k t J=>up (eF T t) J k) (R':=RV P) kH (fun n A env g g₁ V J s s₁ x t k Q E p X r hb hq=>?_) n A env g V J s k Q E X hb hq
 obtain ⟨y,e'⟩:=cf hb
 exact wpAny_items_cons (X.blt hT m3 m1 m2 (wpAny_items_nil (CC T A env g₁ J s₁ x t y Q E X.rm X.g (ly.y r) e' fun u s' g' p w r=>hq u s' g' y J (by rw [e'];rfl) p w r))) rfl
theorem kZ {A:Around}{g:Gh}{J:Sg}{s:Shared}{Q:Value->Shared->Prop}{E:Value->Shared->Prop}{it:Addr}{o:Obj}{K:String}{items:Array Value}{n:Nat}{ts:List T}(hT:K="list"\/K="tuple")(w:bf P g s.heap J)(e:s.heap.get? it=some o)(hc:o.cls=.type K)(hd:o.data=.seq items n)(r:aO P g s.heap ts items.toList)(hx:ts.length<=lim)
  (hq:∀u s' g',aC g s g' s'->bf P g' s'.heap J->AX P s.heap g' s'.heap (.lst ts) u->Q u s'):wpAny P.M A (PySem.call (.type "list") [.ref it]) Q E s:=by
 refine call_list_seq it hT e hc hd (fun h' c' hk hn=>?_) (ba (r.size▸hx))
 have p:aC g s g {s with heap:=h',toks:=s.toks}:=.grow s.toks hk g.F (fun _ h=>h) fun _ h=>.inl h
 obtain ⟨h1,h2,h3⟩:=cZ w
 exact hq _ _ g p (w.grow hk g.F (fun _ h=>h) fun _ h=>.inl h) ⟨_,rfl,aD _,h1,h2,h3,_,_,hn,hx,r.mono (p.k w)⟩
theorem z7:wd P (Bf P (.type "list")) gR (RN P):=fun A env g J s x t y Q E rm w q e hq=>by
 obtain ⟨ts,e1,e2⟩:=ax e
 cases e2
 rcases q.sq e1 with ⟨a,vs,n,rfl,h1,l,r⟩ | ⟨a,vs,n,rfl,h1,l,r⟩
 .exact kZ (.inr rfl) w h1 rfl rfl r l hq
 .exact kZ (.inl rfl) w h1 rfl rfl r l hq
theorem fK:∀{ts:List T} {bs:List Bool},dT ts=some bs->ts.length=bs.length/\∀(i:Nat) (t:T),ts[i]?=some t->∃b,bs[i]?=some b/\cX t=some b
 | [],bs,h=>by cases h;exact ⟨rfl,fun i v e=>nomatch e⟩
 |t::r,bs,h=>by
  obtain ⟨b,bs',h1,h2,h3⟩:=bp h
  cases h3
  obtain ⟨i1,i2⟩:=fK h2
  refine ⟨congrArg (·+1) i1,fun i u e=>?_⟩
  cases i with
  |zero=>cases e;exact ⟨b,rfl,h1⟩
  |succ i=>exact i2 i u e
theorem lY (bs:List Bool):(List.range bs.length).map (fun i=>bs[i]?.getD false)=bs:=by
 apply List.ext_getElem
 .simp
 .intro i h1 h2
  simp [getElem?_eq_getElem h2]
theorem uY (bs:List Bool):(List.range bs.length).any (fun i=>bs[i]?.getD false)=bs.any _root_.id:=by
 conv=>rhs;rw [<-lY bs]
 rw [List.any_map];rfl
theorem uZ (bs:List Bool):(List.range bs.length).all (fun i=>bs[i]?.getD false)=bs.all _root_.id:=by
 conv=>rhs;rw [<-lY bs]
 rw [List.all_map];rfl
theorem qD {g:Gh}{h:Heap}{ts:List T}{bs:List Bool}{vs:Array Value}{i:Nat}{v:Value}{A:Around}{s:Shared}{Q:Bool->Shared->Prop}{E:Value->Shared->Prop}(r:aO P g h ts vs.toList)(ht:dT ts=some bs)(hv:vs[i]?=some v)(hq:Q (bs[i]?.getD false) s):wpAny P.M A (truthy v) Q E s:=by
 obtain ⟨t1,t2⟩:=fK ht
 have hi:i < ts.length:=by rw [<-r.size];exact (Array.getElem?_eq_some_iff.mp hv).1
 obtain ⟨b,b1,b2⟩:=t2 i ts[i] (getElem?_eq_getElem hi)
 obtain ⟨u,u1,u2⟩:=r.get (getElem?_eq_getElem hi)
 rw [Array.getElem?_toList,hv] at u1;cases u1
 rw [b1] at hq
 exact gv (.inl u2) b2 hq
theorem qC {g:Gh}{J:Sg}{s:Shared}{ob:Obj}{h':Heap}{tk:Nat}{b:Bool}{Q:Value->Shared->Prop}(w:bf P g s.heap J)(hk:∀a o,a∉[s.heap.objs.size]->(s.heap.push ob).get? a=some o->h'.get? a=some o)(hq:∀u s' g',aC g s g' s'->bf P g' s'.heap J->Rp P g' s'.heap (.bool b) u->Q u s'):Q (.bool b) {s with heap:=h',toks:=tk}:=
 have k:∀a o,s.heap.get? a=some o->h'.get? a=some o:=fun a o e=>hk a o (fun q=>ao e (aa q▸aD _)) (bM s ob a o e)
 hq _ _ g (.grow tk k g.F (fun _ h=>h) fun _ h=>.inl h) (w.grow k g.F (fun _ h=>h) fun _ h=>.inl h) rfl
theorem Dg:wd P (Bf P (.builtin "any")) yU (RV P):=fun A env g J s x t y Q E rm w q e hq=>by
 obtain ⟨ts,e1,e2⟩:=ax e
 obtain ⟨bs,ht,e3⟩:=ax e2
 cases e3
 obtain ⟨l,rfl,vs,n,a1,a3,a2⟩:=q.ls e1
 refine call_any_walk (wpAny_pyIter_list ⟨_,a1,rfl,n,rfl⟩ ?_)
 refine ⟨_,_,_,_,_,_,fun i=>bs[i]?.getD false,rfl,Walks.list (A:=A.in1) rm.handled s.heap.objs.size l (fun q=>ao a1 (q▸aD _)) vs,⟨⟨_,Heap.get?_push_size _ rfl,rfl,rfl⟩,⟨_,Heap.get?_push_of_some _ a1,rfl,n,rfl⟩⟩,fun i v s' Q E hv hq=>qD a2 ht hv hq,fun h' tk hk=>?_⟩
 rw [show (List.range vs.size).any (fun i=>bs[i]?.getD false)=bs.any _root_.id by rw [a2.size,(fK ht).1];exact uY bs]
 exact qC (s:=s) (ob:=vq "list_iterator" l) w hk hq
theorem AR:wd P (Bf P (.builtin "all")) iH (RV P):=fun A env g J s x t y Q E rm w q e hq=>by
 obtain ⟨ts,e1,e2⟩:=ax e
 obtain ⟨bs,ht,e3⟩:=ax e2
 cases e3
 obtain ⟨l,rfl,vs,n,a1,a3,a2⟩:=q.ls e1
 refine call_all_walk (wpAny_pyIter_list ⟨_,a1,rfl,n,rfl⟩ ?_)
 refine ⟨_,_,_,_,_,_,fun i=>bs[i]?.getD false,rfl,Walks.list (A:=A.in1) rm.handled s.heap.objs.size l (fun q=>ao a1 (q▸aD _)) vs,⟨⟨_,Heap.get?_push_size _ rfl,rfl,rfl⟩,⟨_,Heap.get?_push_of_some _ a1,rfl,n,rfl⟩⟩,fun i v s' Q E hv hq=>qD a2 ht hv hq,fun h' tk hk=>?_⟩
 rw [show (List.range vs.size).all (fun i=>bs[i]?.getD false)=bs.all _root_.id by rw [a2.size,(fK ht).1];exact uZ bs]
 exact qC (s:=s) (ob:=vq "list_iterator" l) w hk hq
theorem CF:wd P (Bf P (.type "int")) oO (RV P):=fun A env g J s x t y Q E rm w q e hq=>by
 obtain ⟨b,e1,e2⟩:=ax e
 cases e2;rw [q.b e1]
 exact call_int_bool (cM w hq)
theorem Ej {g:Gh}{h:Heap}{t:T}{x:Value}(q:eU P g h t x):(x==Value.none)=isN t:=
 have fz:∀{O:Addr->Prop},Fz g O x->(x==Value.none)=false:=fun q=>let ⟨a,e,_,_⟩:=q;e▸rfl
 q.elim (T.casesOn (motive_1:=fun t=>Rp P g h t x->(x==Value.none)=isN t) t (fun e=>by rw [show x=_ from e];rfl) (fun b e=>(show x=_ from e)▸rfl) (fun i ⟨k,e⟩=>e▸rfl) (fun z ⟨_,k,e⟩=>e▸rfl) (fun _=>fz) (fun _=>fz) (fun _ _=>fz) (fun _ _=>fz) (fun _ q=>let ⟨a,_,e,_,_,_⟩:=q;e▸rfl) (fun e=>(show x=_ from e)▸rfl) (fun q=>q.elim))
  fun ⟨a,e,q⟩=>e▸q.case (p:=fun t=>false=isN t) (fun _ _=>rfl) fun _ _ _=>rfl
theorem CE {t:T}:isN t=true->t=.none:=T.casesOn (motive_1:=fun t=>isN t=true->t=.none) t (fun _=>rfl) (fun _ h=>nomatch h) (fun _ h=>nomatch h) (fun _ h=>nomatch h) (fun _ h=>nomatch h) (fun _ h=>nomatch h) (fun _ _ h=>nomatch h) (fun _ _ h=>nomatch h) (fun _ h=>nomatch h) (fun h=>nomatch h) (fun h=>nomatch h)
theorem Bu:jV P .Is yb:=fun A g J s x x' t t' b Q E rm w q q' e k=>by
 obtain ⟨c,rfl⟩:=dj e
 cases CE c
 rw [show x'=_ from q'.v fun _ h=>h]
 refine is_none ?_
 rw [Ej q]
 exact k s.toks
theorem yd {A:Around}{x y:Value}{s:Shared}{t:Bool}{Q:Value->Shared->Prop}{E:Value->Shared->Prop}(h:wpAny P.M A (compareOp .Is x y) (fun v s'=>v=.bool t/\Q (.bool (!t)) s') E s):wpAny P.M A (compareOp .IsNot x y) Q E s:=fun j p hΓ=>by
 have h':=h j p hΓ
 rw [show compareOp .Is x y=(do return .bool (<-isSame x y)) from rfl,Sem.wp_bind'] at h'
 rw [show compareOp .IsNot x y=(do return .bool (!(<-isSame x y))) from rfl,Sem.wp_bind']
 refine Sem.wp_mono P.M j _ (fun b p' s' q=>?_) (fun _ _ _ q=>q) p s h'
 obtain ⟨q1,q2⟩:=(show Value.bool b=.bool t/\_ from q)
 cases q1;exact q2
theorem yG:jV P .IsNot Ev:=fun A g J s x x' t t' b Q E rm w q q' e k=>by
 obtain ⟨c,e1,rfl⟩:=ar e
 exact yd (Bu A g J s x x' t t' c _ E rm w q q' e1 fun tk=>⟨rfl,k tk⟩)
abbrev BG (B:bn)(x:String):Prop:=B.sc.names.lookup (ofString x)=some .globalImplicit
section
variable {e:Expr} {p:PE} {pn pos:Pos}
theorem aq.len (hx:BG B "len")(hn:∀env,starEach [e] env=[(false,eval e env)])(h:aq P B C e p (RX P)):aq P B C (.Call (.Name (ofString "len") pn) [e] [] pos) (p1 bJ p) (RV P):=aq.b1 kH xL (fun _ q=>by cases q) hx (by decide) (by decide) (by decide) hn h
theorem aq.listOf (hx:BG B "list")(hn:∀env,starEach [e] env=[(false,eval e env)])(h:aq P B C e p (RX P)):aq P B C (.Call (.Name (ofString "list") pn) [e] [] pos) (p1 gR p) (RN P):=aq.b1 EK z7 (fun _ q=>by cases q) hx (by decide) (by decide) (by decide) hn h
theorem aq.anyOf (hx:BG B "any")(hn:∀env,starEach [e] env=[(false,eval e env)])(h:aq P B C e p (RX P)):aq P B C (.Call (.Name (ofString "any") pn) [e] [] pos) (p1 yU p) (RV P):=aq.b1 kH Dg (fun _ q=>by cases q) hx (by decide) (by decide) (by decide) hn h
theorem aq.allOf (hx:BG B "all")(hn:∀env,starEach [e] env=[(false,eval e env)])(h:aq P B C e p (RX P)):aq P B C (.Call (.Name (ofString "all") pn) [e] [] pos) (p1 iH p) (RV P):=aq.b1 kH AR (fun _ q=>by cases q) hx (by decide) (by decide) (by decide) hn h
theorem aq.intOf (hx:BG B "int")(hn:∀env,starEach [e] env=[(false,eval e env)])(h:aq P B C e p (RX P)):aq P B C (.Call (.Name (ofString "int") pn) [e] [] pos) (p1 oO p) (RV P):=aq.b1 kH CF (fun _ q=>by cases q) hx (by decide) (by decide) (by decide) hn h
end
end
structure y5 (K:MK) (name:Str) (id:String):Prop where
 slot:Slot K.id name id
 ty:typeOf (.builtin id)=pure (.type "method_descriptor")
theorem MK.plain (K:MK):PlainAttrs K.id:=by
 cases K
 .exact F.plainAttrs_list
 .exact F.plainAttrs_str
 .exact F.plainAttrs_tuple
def Fx (K:MK)(s:Shared)(x:Value):Prop:=s.TypeIs x K.id/\∀a,x=.ref a->∃o,s.heap.get? a=some o/\o.dict=none
section
variable {P:Pg} {B:bn} {C C':Ct} {fr:Bool} {n:Nat} {A:Around} {env:Env} {g g':Gh} {V:aY} {J:Sg} {s s':Shared} {h h':Heap} {t:T} {x:Value}
theorem mz {K:MK}{a:Addr}{o:Obj}(e:s.heap.get? a=some o)(hc:o.cls=.type K.id)(hd:o.dict=none):Fx K s (.ref a):=⟨⟨o,e,hc⟩,fun b q=>⟨o,Value.ref.inj q▸e,hd⟩⟩
theorem uj {K:MK}(q:eU P g s.heap t x)(hk:kT K t=true):Fx K s x:=by
 obtain ⟨y,e⟩ | ⟨y,e⟩ | ⟨y,e⟩:(∃y,K=.list/\fG t=some y)\/(∃y,K=.str/\qp t=some y)\/∃y,K=.tuple/\lN t=some y:=by
  cases K with
  |list=>exact .inl (let ⟨y,e⟩:=aE hk;⟨y,rfl,e⟩)
  |str=>exact .inr (.inl (let ⟨y,e⟩:=aE hk;⟨y,rfl,e⟩))
  |tuple=>exact .inr (.inr (let ⟨y,e⟩:=aE hk;⟨y,rfl,e⟩))
 .obtain ⟨rfl,e⟩:=e;obtain ⟨a,rfl,vs,n,h1,_⟩:=q.ls e;exact mz h1 rfl rfl
 .obtain ⟨rfl,e⟩:=e;obtain ⟨_,p,rfl⟩:=q.s e;exact ⟨rfl,fun a q=>by cases q⟩
 .obtain ⟨rfl,e⟩:=e;obtain ⟨a,rfl,_,vs,n,h1,_⟩:=q.tu e;exact mz h1 rfl rfl
theorem iY {o e:Expr}{name:Str}{apos pos:Pos}{id:String}{K:MK}{Q:Value->Shared->Prop}{E:Value->Shared->Prop}(i:y5 K name id)(hbase:∀env,attributeBase o name env (eval o env)=eval o env)(hline:(apos.endLine==pos.line)=true)(htrees:∀env,backTo pos (starEach [e] env)=[(false,eval e env)])
  (h:wpAny P.M A (eval o env) (fun x s₁=>Fx K s₁ x/\wpAny P.M A (eval e env) (fun y s2=>wpAny P.M A (PySem.call (.builtin id) [x,y]) Q E s2) E s₁) E s):wpAny P.M A (eval (.Call (.Attribute o name apos) [e] [] pos) env) Q E s:=
 wpAny_Call_method1_late (hbase env) hline (htrees env) (wpAny_mono h (fun x s₁ ⟨k,ha⟩=>⟨K.id,id,K.plain,i.slot,i.ty,k.1,k.2,bG (fun _ q=>by cases q) (fun p hp=>by rw [aa hp]) (Calls.spliced_cons (wpAny_mono ha (fun _ _ he=>Calls.spliced_nil he) fun _ _ h=>h))⟩) fun _ _ h=>h)
abbrev Dx (P:Pg)(id:String):W2 Value:=AT P fun x y=>PySem.call (.builtin id) [x,y]
theorem aq.m1 {o e:Expr}{name:Str}{apos pos:Pos}{po pe:PE}{id:String}{K:MK}{F:T->T->Option T}{R:RR Value T}(i:y5 K name id)(hd:Dn R)(k:qw P (Dx P id) F R)(hbase:∀env,attributeBase o name env (eval o env)=eval o env)(hline:(apos.endLine==pos.line)=true)
  (htrees:∀env,backTo pos (starEach [e] env)=[(false,eval e env)])(h1:aq P B C o po (RX P))(h2:aq P B C e pe (RX P)):aq P B C (.Call (.Attribute o name apos) [e] [] pos) (xb K F po pe) R:=
 (h1.bind (N:=fun A env x Q E s=>Fx K s x/\wpAny P.M A (eval e env) (fun y s2=>wpAny P.M A (PySem.call (.builtin id) [x,y]) Q E s2) E s) (F:=fun c V k a J=>gd (kT K a) (pe c V J fun b J=>up (F a b) J k)) hd fun n A env g g₁ V J s s₁ x t kk Q E p X r hb hq=>by
  have hk:=k6 hb
  rw [hk] at hb hq
  refine ⟨uj (ly.y r) hk,h2 n A env g₁ V J s₁ _ _ E X hb fun x' s2 g2 t' J2 ea p2 w2 rb=>?_⟩
  obtain ⟨y,e'⟩:=cf fun q=>hb (ea.trans q)
  exact k A env g2 J2 s2 x x' t t' y Q E X.rm w2 (ly.post X.g p2 r).y (ly.y rb) e' fun u s' g' p w r=>hq u s' g' y J2 (ea.trans (by rw [e'];rfl)) (p2.trans p) w (hd _ _ _ _ _ _ p2.back r)).map fun A env Q E s h=>iY i hbase hline htrees h
theorem lA {i:Nat}{a:Addr}{y:T}(X:At P B C n A env g V J s)(hv:br C i=true)(hb:b9 V i≠none)(ho:g.o i=some a)(hva:bH B env s.heap i (.ref a))(hs:∀b,b≠a->h'.get? b=s.heap.get? b)(hy:aN g s.heap g h'->hY P g h' a y)(tk:Nat):
  aQ [] (own env) g s g {s with heap:=h',toks:=tk}/\At P B C n A env g (V.set i (some y)) J {s with heap:=h',toks:=tk}:=by
 obtain ⟨la,fa,za⟩:=X.g.O a ⟨i,ho⟩
 have kf:aN g s.heap g h':=⟨fun b f=>⟨f,fun o e=>(hs b fun q=>fa (q▸f)).trans e⟩,rfl⟩
 have ra:=hy kf
 have lv:∀b,s.heap.get? b≠none->h'.get? b≠none:=fun b l=>by
  by_cases q:b=a
  .exact q▸ra.live
  .rw [hs b q];exact l
 have zk:∀b,g.Z b->∀o,s.heap.get? b=some o->h'.get? b=some o:=fun b z o e=>(hs b fun q=>za (q▸z)).trans e
 have ok:∀b∈own env,∀o,s.heap.get? b=some o->h'.get? b=some o:=fun b m o e=>(hs b fun q=>(X.env.own b m).2.2.2 (q▸⟨i,ho⟩)).trans e
 refine ⟨⟨⟨h',tk,rfl⟩,fun b o e _ no _=>(hs b fun q=>no (q▸⟨i,ho⟩)).trans e,fun b _ e=>?_,fun _ f=>f,fun _ f=>.inl f,fun _ f=>.inl f,fun _ f=>.inl f,rfl,rfl⟩,X.good,X.call,X.room,{X.env with
   ns:=let ⟨m,nn⟩:=X.env.ns;⟨m,nn.at (ok _ mem_cons_self)⟩
   cell:=fun j z kk hj hk=>let ⟨c,u,l,o,e,d⟩:=X.env.cell j z kk hj hk;⟨c,u,l,o,ok c (mem_cons_of_mem _ (aP l)) o e,d⟩
   own:=fun b m=>⟨lv b (X.env.own b m).1,(X.env.own b m).2⟩
   var:=fun j z v hj hv'=>?_
   un:=fun j hj=>c7 (fun q:j=i=>hb (q▸X.env.un j hj)) (X.env.un j hj)},
  fun b o e=>⟨(X.g.base b o e).1,(kf.F b (X.g.base b o e).1).2 o (X.g.base b o e).2⟩,fun b f=>lv b (X.g.F b f),fun b z=>⟨lv b (X.g.Z b z).1,(X.g.Z b z).2⟩,fun b z=>⟨lv b (X.g.O b z).1,(X.g.O b z).2⟩,X.g.oo,
  ⟨let ⟨t,m,e⟩:=X.g.spot.1;⟨t,m,zk _ X.g.spot.2.1 _ e⟩,X.g.spot.2⟩,fun c ts e=>(X.g.self c ts e).mono kf (fun b z=>⟨z,zk b z⟩) rfl⟩
 .cases q:s.heap.get? b with
  |none=>rfl
  |some o=>exact (lv b (ao q) e).elim
 .rcases ic hv' with ⟨q,e⟩ | ⟨nj,e⟩
  .subst q;cases e
   exact ⟨_,hva.move ok,by unfold bA;rw [hv];exact ⟨a,rfl,ho,ra⟩⟩
  .obtain ⟨u,v1,v2⟩:=X.env.var j z v hj e
   refine ⟨u,v1.move ok,?_⟩
   unfold bA at v2 ⊢
   cases q:br C j with
   |true=>rw [q] at v2;exact let ⟨b,e1,e2,r⟩:=v2;⟨b,e1,e2,r.mono kf fun o e=>(hs b fun z=>nj (X.g.oo j i a (z▸e2) ho)).trans e⟩
   |false=>rw [q] at v2;exact v2.imp (·.mono kf) id
def Mu (P:Pg)(id:String)(F:T->T->Option T)(RA:Gh->Heap->T->Value->Prop):Prop:=
 ∀A g J s a x' t v y Q E,Rm A->bf P g s.heap J->hY P g s.heap a t->RA g s.heap v x'->F t v=some y->
  (∀h' tk,(∀b,b≠a->h'.get? b=s.heap.get? b)->(aN g s.heap g h'->hY P g h' a y)->Q .none {s with heap:=h',toks:=tk})->wpAny P.M A (PySem.call (.builtin id) [.ref a,x']) Q E s
theorem aL.mut {e:Expr}{y name:Str}{k:NameKind}{np apos cpos pos:Pos}{pe:PE}{id:String}{i:Nat}{F:T->T->Option T}{R:RR Value T}{RA:Gh->Heap->T->Value->Prop}(m:y5 .list name id)(hv:br C i=true)(ht:B.tab[i]?=some (some (y,k)))(hR:∀h g h' t x,R h g h' t x->RA g h' t x)(o:Mu P id F RA)
  (hbase:∀env,attributeBase (.Name y np) name env (eval (.Name y np) env)=eval (.Name y np) env)(hline:(apos.endLine==cpos.line)=true)(htrees:∀env,backTo cpos (starEach [e] env)=[(false,eval e env)])(hw:∀env,swapsWith (.Call (.Attribute (.Name y np) name apos) [e] [] cpos) none pos.line env=pure false)
  (h:aq P B C e pe R):aL P B C fr C (.Expr (.Call (.Attribute (.Name y np) name apos) [e] [] cpos) pos) (jb i F pe):=fun n A env g V J s k Q E X hb hq hr=>by
 show wpAny P.M A (exec _ env) Q E s
 rw [exec_Expr env _ pos (by simp [interactive,X.fn]) (hw env)]
 unfold jb at hb hq
 cases e0:b9 V i with
 |none=>rw [e0] at hb;exact absurd rfl hb
 |some t=>
  rw [e0] at hb hq
  have hk:=k6 hb
  simp only [hk,cond_true] at hb hq
  obtain ⟨u,v,q⟩:=X.env.var i _ t ht e0
  unfold bA at q
  rw [hv] at q
  obtain ⟨a,rfl,oi,r⟩:=q
  refine wpAny_bind (wpAny_standAt (wpAny_bind (iY m hbase hline htrees (bq X ht v ⟨uj (.inr ⟨a,rfl,r⟩) hk,h n A env g V J s _ _ _ X hb fun x' s2 g2 t' J2 ea p2 w2 rb=>?_⟩))))
  obtain ⟨y',e'⟩:=cf fun q=>hb (ea.trans q)
  have X2:=X.post p2 w2
  have ka:=fun o e=>p2.keep a o e (X.g.O a ⟨i,oi⟩).2.2
  refine o A g2 J2 s2 a x' t t' y' _ _ X.rm w2 (r.mono (p2.k X.g) ka) (hR _ _ _ _ _ rb) e' fun h' tk hs hy=>wpAny_dropValue ?_
  obtain ⟨pS,X'⟩:=lA X2 hv (by rw [e0];exact fun q=>by cases q) (by rw [p2.o];exact oi) (v.move fun b m o e=>p2.keep b o e (X.env.own b m).2.2.1) hs hy tk
  exact hq _ _ _ J2 (ea.trans (by rw [e'];rfl)) (p2.toS.trans pS) X'
theorem kQ:Mu P "list.append" dC (fun g h t x=>Rp P g h t x):=fun A g J s a x' t v y Q E rm w r rv e hq=>by
 obtain ⟨xs,e1,e2⟩:=ax e
 obtain ⟨hl,rfl⟩:=fE e2
 cases fg e1
 obtain ⟨vs,n,a1,a3,a2⟩:=r
 refine d5 a1 (hq _ s.toks (Heap.SameBut.update s.heap a (Obj.mapSeq fun a=>a.push x')).2 fun kf=>⟨_,_,IsL.update a1 (fun a=>a.push x'),by rw [List.length_append];exact hl,?_⟩) (ba (a2.size▸a3))
 rw [Array.toList_push]
 exact aO.append (aO.cons (rv.mono kf) aO.nil) (a2.mono kf)
theorem qa {prog:Program}{w:World}{A:Around}{E:Value->Shared->Prop}{s:Shared}{l b:Addr}{items items2:Array Value}{n n2:Nat}{Q:Value->Shared->Prop}(hl:IsL s.heap l items n)(hb:IsL s.heap b items2 n2)
  (h:Q .none {s with heap:=s.heap.update l (Obj.mapSeq fun a=>a++items2)})(hsz:items.size+items2.size<=lim):wpAny (model prog w) A (call (.builtin "list.extend") [.ref l,.ref b]) Q E s:=by
 have hlim:lim=1000000:=rfl
 have h1:=ba (k:=items.size) (by lia -abstractProof)
 have h2:=ba hsz
 refine call_meets F.slot_list_extend ⟨_,hl,rfl⟩ F.entry_list_extend (F.args_list_extend_2 _ _) (AutoSeq1.list_extend_list_list_0 l items n b items2 n2 ?_ h1 (by lia)) ⟨hl,hb,h⟩
 have:Builtin.List.listTooLong (items.size+items2.size)=false:=by
  unfold Builtin.List.listTooLong
  simp only [decide_eq_false_iff_not]
  lia
 simp [this]
theorem vE:Mu P "list.extend" jH (fun g h t x=>ly P g h t x):=fun A g J s a x' t v y Q E rm w r rv e hq=>by
 obtain ⟨xs,ys,e1,e3,e2⟩:=bp e
 obtain ⟨hl,rfl⟩:=fE e2
 cases fg e1
 obtain ⟨vs,n,a1,a3,a2⟩:=r
 obtain ⟨b,rfl,vs',n',b1,b3,b2⟩:=(ly.y rv).ls e3
 refine qa a1 b1 (hq _ s.toks (Heap.SameBut.update s.heap a (Obj.mapSeq fun a=>a++vs')).2 fun kf=>⟨_,_,IsL.update a1 (fun a=>a++vs'),by rw [List.length_append];exact hl,?_⟩) (by rw [a2.size,b2.size];exact hl)
 rw [Array.toList_append]
 exact aO.append (b2.mono kf) (a2.mono kf)
theorem rF {A:Around}{a b:Nat}(hu:A.units+200 < cLine)(h:a<=cG):A.units+2+min a b < cLine:=by
 have:min a b<=50:=le_trans (min_le_left _ _) h
 lia -abstractProof
def Ff (P:Pg){Y VVV:Type}(N:W2 Y)(F:T->T->Option VVV)(R:RR Y VVV):Prop:=
 ∀A env g J s x x' t t' y Q E,A.units+200 < cLine->bf P g s.heap J->eU P g s.heap t x->eU P g s.heap t' x'->F t t'=some y->(∀u s' g',aC g s g' s'->bf P g' s'.heap J->R s.heap g' s'.heap y u->Q u s')->N A env x x' Q E s
theorem uo:Ff P (Dx P "list.index") eG (RV P):=fun A env g J s x x' t t' y Q E rm w q q' e hq=>by
 obtain ⟨xs,e1,e2⟩:=ax e
 obtain ⟨d,ds,h1,h2,e3⟩:=bp e2
 obtain ⟨j,h3,e4⟩:=ax e3
 cases e4
 obtain ⟨l,rfl,vs,n,a1,a3,a2⟩:=q.ls e1
 obtain ⟨⟨as,r1⟩,c1,l1⟩:=cD cG t' x' d h1 q'
 obtain ⟨⟨bs,r2⟩,c2,l2⟩:=ft (fun t x d e r=>cD cG t x d e (.inl r)) xs _ ds h2 a2
 have hmap:=readsAll_map ds vs.toList bs c2 r2
 obtain ⟨hj,hj1,hj2⟩:=List.findIdx?_eq_some_iff_getElem.mp h3
 have hlen:ds.length=vs.size:=by rw [<-hmap,length_map];rfl
 have at':∀(k:Nat) (h:k < vs.size) (h':k < ds.length),readOf s.heap vs[k]=ds[k]:=fun k h h'=>by
  have:ds[k]=(vs.toList.map (readOf s.heap))[k]'(by rw [length_map];exact h):=by simp only [hmap]
  rw [this,List.getElem_map];rfl
 refine call_meets F.slot_list_index ⟨_,a1,rfl⟩ F.entry_list_index (F.args_list_index_2 _ _)
  (list_indexAt l vs n Option.none #[] x' (fun v=>PyData.eqv (readOf s.heap v) d) j (hlen▸hj) (by have:=a2.size;have:lim=1000000:=rfl;lia -abstractProof) (by rw [at' j (hlen▸hj) hj];exact hj1) fun k hk hkj=>?_)
  ⟨a1,items_eqAt r2 r1 c2 c1 (lt_of_le_of_lt (by lia -abstractProof) (rF (b:=d.depth) rm l2)),?_⟩
 .rw [at' k hk (hlen▸hk)]
  simpa using hj2 k hkj
 .exact cM w hq
theorem yg:qw P (Dx P "list.index") eG (RV P):=fun A env g J s x x' t t' y Q E rm=>uo A env g J s x x' t t' y Q E rm.units
theorem An:y5 .list (ofString "count") "list.count":=⟨F.slot_list_count,F.type_list_count⟩
open MeetsSeq MeetsSeq2 MeetsSeq3 SeqRoads2 in
theorem AF:Ff P (Dx P "list.count") tf (RV P):=fun A env g J s x x' t t' y Q E rm w q q' e hq=>by
 obtain ⟨xs,e1,e2⟩:=ax e
 obtain ⟨d,ds,h1,h2,e3⟩:=bp e2
 cases e3
 obtain ⟨l,rfl,vs,n,a1,a3,a2⟩:=q.ls e1
 obtain ⟨⟨as,r1⟩,c1,l1⟩:=cD cG t' x' d h1 q'
 obtain ⟨⟨bs,r2⟩,c2,l2⟩:=ft (fun t x d e r=>cD cG t x d e (.inl r)) xs _ ds h2 a2
 have hmap:=readsAll_map ds vs.toList bs c2 r2
 refine call_meets F.slot_list_count ⟨_,a1,rfl⟩ F.entry_list_count (F.args_list_count_2 _ _) (list_countAt l vs n Option.none #[] x' (fun v=>PyData.eqv (readOf s.heap v) d)) ⟨a1,items_eqAt r2 r1 c2 c1 (lt_of_le_of_lt (by lia -abstractProof) (rF (b:=d.depth) rm l2)),?_⟩
 rw [show vs.toList.countP (fun v=>PyData.eqv (readOf s.heap v) d)=ds.countP (fun y=>PyData.eqv y d) by rw [<-hmap,List.countP_map];rfl]
 exact cM w hq
theorem oB:∀{ts:List T} {vs:List Value} {xs:List Str},aO P g h ts vs->wz ts=some xs->∃l:List (Str×Tok),vs=strValues l/\l.map (·.1)=xs
 | [],_,_,r,hs=>by cases r;cases hs;exact ⟨[],rfl,rfl⟩
 |t::ts,_,xs,⟨v,vs,e,r,rs⟩,hs=>by
  obtain ⟨y,ys,h1,h2,h3⟩:=bp hs
  cases h3;cases yQ h1
  obtain ⟨_,p,rfl⟩:=r
  obtain ⟨l,e1,e2⟩:=oB rs h2
  exact ⟨(y,p)::l,by rw [e,e1];rfl,by rw [<-e2];rfl⟩
theorem xX:qw P (Dx P "str.join") uk (RV P):=fun A env g J s x x' t t' y Q E rm w q q' e hq=>by
 obtain ⟨sep,ts,e1,e2,e3⟩:=bp e
 obtain ⟨xs,e4,e5⟩:=ax e3
 obtain ⟨c,rfl⟩:=dj e5
 obtain ⟨c12,c3⟩:=ah c
 obtain ⟨c1,c2⟩:=ah c12
 obtain ⟨_,p,rfl⟩:=q.s e1
 obtain ⟨l,rfl,vs,n,a1,a3,a2⟩:=q'.ls e2
 obtain ⟨lt,q1,rfl⟩:=oB a2 e4
 have c1':Builtin.Str.tooLong ((lt.map (·.1)).toArray.foldl (·+·.length+sep.length) 0)=false:=by
  unfold JoinOk at c1
  rw [not_eq_true'] at c1;exact c1
 refine call_meets F.slot_str_join (typeIs_str _ _ _) F.entry_str_join (F.args_str_join_2 _ _) (meets_str_join_list sep p l lt c1') ⟨⟨_,a1,rfl,n,by rw [<-q1]⟩,post_join lt ⟨joinFit_length c1',fun t' k=>?_⟩⟩
 exact hq _ _ g (.toks g s k) w ⟨⟨c2,im c3⟩,_,rfl⟩
theorem qI:∀(l:List (Str×Tok)),(∀p∈l,PyData.strOk p.1=true/\p.1.length<=lim)->aO P g h ((l.map (·.1)).map T.str) (strValues l)
 | [],_=>rfl
 | (x,t)::r,hl=>⟨_,_,rfl,⟨hl (x,t) mem_cons_self,t,rfl⟩,qI r fun p hp=>hl p (mem_cons_of_mem _ hp)⟩
theorem uW:qw P (Dx P "str.split") o5 (RV P):=fun A env g J s x x' t t' y Q E rm w q q' e hq=>by
 obtain ⟨z,z',e1,e2,e3⟩:=bp e
 obtain ⟨c,rfl⟩:=dj e3
 obtain ⟨c12,c3⟩:=ah c
 obtain ⟨c1,c2⟩:=ah c12
 obtain ⟨⟨h1,h2⟩,p,rfl⟩:=q.s e1
 obtain ⟨_,u,rfl⟩:=q'.s e2
 have c1:(z'.length==0)=false:=by rw [not_eq_true'] at c1;exact c1
 have c2:=im c2
 have fin:∀(lt:List (Str×Tok)) (tk:Nat),lt.map (·.1)=Txt.split z z'->Q (.ref s.heap.objs.size) {s with heap:=s.heap.push (aX (strValues lt).toArray 0),toks:=tk}:=fun lt tk hlt=>by
  rw [<-hlt] at c2 c3 hq
  refine jC w (qI lt fun p hp=>?_) (by rw [length_map];exact c2) hq
  have:=ah (aB c3 p.1 (List.mem_map_of_mem hp))
  exact ⟨this.1,of_decide_eq_true this.2⟩
 have hx:z.length<=sizeLine:=ba h2
 cases q1:(decide (z.length < z'.length)||decide (Builtin.Str.strKind z < Builtin.Str.strKind z'))
 .cases hf:(Builtin.Str.occurrences z z' 0 z.length (z.length+1)).isEmpty
  .have hsp:Txt.split z z'=Builtin.Str.partsBetween z (Builtin.Str.occurrences z z' 0 z.length (z.length+1)) z'.length:=(if_neg (ne_true_of_eq_false q1)).trans (if_neg (ne_true_of_eq_false hf))
   refine call_meets F.slot_str_split (typeIs_str _ _ _) F.entry_str_split (F.args_str_split_2 _ _) (meets_str_split_sep z z' p u q1 c1 hf hx (by rw [<-hsp];exact ba c2)) ?_
   show wants _ _ _ {s with toks:=_,heap:=s.heap.push {cls:=.type "list",data:=.seq (strsFrom s.toks (Builtin.Str.partsBetween z (Builtin.Str.occurrences z z' 0 z.length (z.length+1)) z'.length)).toArray}}
   rw [strsFrom_eq]
   exact fin _ _ ((numbered_texts _ _).trans hsp.symm)
  .exact call_meets F.slot_str_split (typeIs_str _ _ _) F.entry_str_split (F.args_str_split_2 _ _) (meets_str_split_not_found z z' p u q1 c1 hf) (fin [(z,p)] s.toks ((if_neg (ne_true_of_eq_false q1)).trans (if_pos hf)).symm)
 .exact call_meets F.slot_str_split (typeIs_str _ _ _) F.entry_str_split (F.args_str_split_2 _ _) (meets_str_split_cannot_occur z z' p u q1) (fin [(z,p)] s.toks (if_pos q1).symm)
theorem mD:y5 .list (ofString "append") "list.append":=⟨F.slot_list_append,F.type_list_append⟩
theorem CH:y5 .str (ofString "join") "str.join":=⟨F.slot_str_join,F.type_str_join⟩
theorem Am:y5 .str (ofString "split") "str.split":=⟨F.slot_str_split,F.type_str_split⟩
theorem yj:y5 .list (ofString "extend") "list.extend":=⟨F.slot_list_extend,F.type_list_extend⟩
theorem ut:y5 .list (ofString "index") "list.index":=⟨F.slot_list_index,F.type_list_index⟩
end
end
end Mine
namespace Mine
noncomputable section
open PySem PySem.W PyProof.Rows PySem.SeqAt
noncomputable abbrev i9:=Ky×Addr×Value
section
variable {P:Pg} {B:bn} {C:Ct} {fr:Bool} {g g':Gh} {h h':Heap} {t:T} {x:Value}
theorem Et {f:T->Option Ky}{n:Nat}(hf:∀t H x,f t=some H->Rp P g h t x->vY h n H x)(ts:List T):∀(κs:List Ky) (xs:List Value),jT.go f ts=some κs->aO P g h ts xs->Du h n κs xs:=by
 induction ts with
 |nil=>exact fun κs xs e r=>⟨[],Option.some.inj e,r⟩
 |cons t ts ih=>
  intro κs xs e ⟨v,vs,e',q,r⟩
  obtain ⟨H,Hs',e1,e2,e3⟩:=bp e
  obtain ⟨d,g1,h1⟩:=hf t H _ e1 q
  obtain ⟨ds,g2,h2⟩:=ih Hs' _ e2 r
  exact ⟨d::ds,by rw [Kx.norms,g1,g2];exact Option.some.inj e3,⟨_,_,e',h1,h2⟩⟩
theorem c8 (n:Nat)(t:T)(H:Ky)(x:Value)(hn:jT n t=jT 0 t):jT n t=some H->Rp P g h t x->vY h n H x:=hn▸
 T.casesOn (motive_1:=fun t=>jT 0 t=some H->Rp P g h t x->vY h n H x) t no (fun b e r=>Option.some.inj e▸⟨.bool b,rfl,r⟩) (fun i e r=>Option.some.inj e▸⟨.int i,rfl,r⟩) (fun s e r=>Option.some.inj e▸⟨.str s,rfl,r.1.1,r.2⟩) (fun _=>no) (fun _=>no) (fun _ _=>no) (fun _ _=>no) (fun _=>no) no no
theorem Es (n:Nat):∀(t:T) (H:Ky) (x:Value),jT n t=some H->Rp P g h t x->vY h n H x:=by
 induction n with
 |zero=>exact fun t H x=>c8 0 t H x rfl
 |succ n ih=>
  exact fun t=>T.casesOn (motive_1:=fun t=>∀H x,jT (n+1) t=some H->Rp P g h t x->vY h (n+1) H x) t (fun H x=>c8 _ _ H x rfl) (fun _ H x=>c8 _ _ H x rfl) (fun _ H x=>c8 _ _ H x rfl) (fun _ H x=>c8 _ _ H x rfl)
   (fun ts H x e ⟨_,z,_,vs,m,hg,_,r⟩=>let ⟨κs,e1,e2⟩:=ax (show o1 (jT.go (jT n) ts) (fun ks=>some (Ky.tup ks))=some H from e);let ⟨ds,g1,h1⟩:=Et ih ts κs _ e1 r;⟨.tup ds,(congrArg Ky.tup g1).trans (Option.some.inj e2),_,_,_,n,z,rfl,hg,h1⟩)
   (fun _ H x=>c8 _ _ H x rfl) (fun _ _ H x=>c8 _ _ H x rfl) (fun _ _ H x=>c8 _ _ H x rfl) (fun _ H x=>c8 _ _ H x rfl) (fun H x=>c8 _ _ H x rfl) (fun H x=>c8 _ _ H x rfl)
theorem mw {H:Ky}(e:xT t=some H)(r:eU P g h t x):∃a,x=.ref a/\(bL P.prog P.w).is h H a/\Rp P g h t x:=by
 obtain ⟨ts,e1,e2⟩:=ax e
 cases kP e1
 have r:=r.v fun _ h=>h
 have k:=Es 6 _ H _ e2 r
 obtain ⟨a,rfl,_⟩:=id r
 exact ⟨a,rfl,k,r⟩
theorem uy (es:List DictEntry):∀(us:List T) (κs:List Ky),aO P g h us (es.map (·.key))->fy us=some κs->es.map (·.hash)=κs.map (Ky.hash P.w)->
  ∃xs:List i9,es=xs.map (entryOfKey (bL P.prog P.w))/\xs.map (·.1)=κs/\(∀x∈xs,(bL P.prog P.w).is h x.1 x.2.1):=by
 induction es with
 |nil=>
  intro us κs r e hh
  obtain rfl:us=[]:=List.length_eq_zero_iff.mp r.length.symm
  cases e;exact ⟨[],rfl,rfl,fun _ h=>nomatch h⟩
 |cons en es ih=>
  intro us κs r e hh
  cases us with
  |nil=>cases r
  |cons u us=>
   obtain ⟨_,_,e0,q,r⟩:=r
   cases e0
   obtain ⟨H,Hs',e1,e2,e3⟩:=bp (show o2 (xT u) (fy us) _=some κs from e)
   cases e3
   obtain ⟨a,ha,hk,_⟩:=mw e1 (.inl q)
   obtain ⟨hh1,hh2⟩:=List.cons.inj hh
   obtain ⟨xs,h1,h2,h3⟩:=ih us Hs' r e2 hh2
   exact ⟨(H,a,en.val)::xs,List.cons_eq_cons.mpr ⟨(show en=⟨en.hash,en.key,en.val⟩ from rfl).trans (by rw [show en.key=_ from ha,show en.hash=_ from hh1];rfl),h1⟩,congrArg (H::·) h2,eM ⟨hk,h3⟩⟩
inductive Fk (P:Pg) (g:Gh) (h:Heap) (us ts:List T) (a:Addr):Prop
 |mk (xs:List i9) (n:(a==sysModules)=false) (d:h.DictOfH (bL P.prog P.w) a xs) (k:fy us=some (xs.map (·.1))) (r:aO P g h us (xs.map fun y=>Value.ref y.2.1)) (r':aO P g h ts (xs.map (·.2.2))) (l:us.length<=lim)
theorem tJ.is {us ts:List T}{a:Addr}{u:T}{j:Option Nat}(hf:kA us u=some j)(q:tJ P h us (aO P g h us) (aO P g h ts) a):Fk P g h us ts a:=by
 obtain ⟨_,_,hk,_⟩:=bp hf
 obtain ⟨n,o,es,e,q,r1,r2⟩ | ⟨n,kvs,d,eu,l,ne,r'⟩:=q
 rotate_left
 .cases kvs with
  |nil=>exact absurd rfl ne
  |cons p kvs=>rw [eu] at hk;cases hk
 obtain ⟨H,k1,k2,k3⟩:=q.k
 obtain ⟨ep,d⟩:=q.d
 obtain ⟨xs,h1,h2,h3⟩:=uy es us H r1 k1 k2
 refine ⟨xs,n,⟨o,_,ep,e,q.x,d,h1,h3,by rw [h2];exact k3⟩,by rw [h2];exact k1,?_,?_,q.l⟩
 .rw [h1,map_map] at r1;exact r1
 .rw [h1,map_map] at r2;exact r2
theorem Fk.back {us ts:List T}{a:Addr}{xs:List i9}(n:(a==sysModules)=false)(d:h.DictOfH (bL P.prog P.w) a xs)(k:fy us=some (xs.map (·.1)))(r:aO P g h us (xs.map fun y=>Value.ref y.2.1))(r':aO P g h ts (xs.map (·.2.2)))(l:us.length<=lim):hY P g h a (.dct us ts):=by
 obtain ⟨o,es,ep,e,x,d,h1,h3,h4⟩:=d
 refine tJ.mk n o es.toList e ⟨x,⟨ep,d⟩,⟨_,k,?_,h4⟩,l⟩ ?_ ?_
 .rw [h1,map_map,map_map];rfl
 .rw [h1,map_map];exact r
 .rw [h1,map_map];exact r'
theorem yS {p:List T×List T}:AQ t=some p->t=.dct p.1 p.2:=T.casesOn (motive_1:=fun t=>AQ t=some p->t=T.dct p.1 p.2) t no (fun _=>no) (fun _=>no) (fun _=>no) (fun _=>no) (fun _=>no) (fun x y e=>Option.some.inj e▸rfl) (fun _ _=>no) (fun _=>no) no no
theorem eU.d {p:List T×List T}{u:T}{i:Option Nat}(q:eU P g h t x)(e:AQ t=some p)(hf:kA p.1 u=some i):∃a,x=.ref a/\Fk P g h p.1 p.2 a:=by cases yS e;exact q.elim (fun r=>let ⟨a,e,_,o⟩:=r;⟨a,e,o.is hf⟩) fun ⟨a,e,o⟩=>⟨a,e,tJ.is hf o⟩
theorem nQ (H:Ky):∀(xs:List i9),atKey xs H=(pQ (xs.map (·.1)) H).bind fun i=>(xs[i]?).map (·.2)
 | []=>rfl
 |x::xs=>by
  have ih:=nQ H xs
  unfold atKey pQ at ih ⊢
  rw [map_cons,findIdx?_cons,List.find?_cons]
  cases decide (x.1=H) with
  |true=>rfl
  |false=>
   simp only [Bool.false_eq_true,if_false]
   rw [ih]
   cases List.findIdx? (fun y=>decide (y=H)) (xs.map (·.1)) with
   |none=>rfl
   |some i=>rfl
theorem uh {κs:List Ky}{H:Ky}{i:Nat}(e:pQ κs H=some i):κs[i]?=some H:=by
 obtain ⟨h1,h2,_⟩:=List.findIdx?_eq_some_iff_getElem.mp e
 rw [getElem?_eq_getElem h1,of_decide_eq_true h2]
theorem tV {A:Around}(hu:A.units+200 < cLine):(bL P.prog P.w).room A.in1:=by
 show A.in1.units+6 < cLine
 rw [Around.in1_units];lia -abstractProof
theorem xn {A:Around}{x y:Value}{s:Shared}{t:Bool}{Q:Value->Shared->Prop}{E:Value->Shared->Prop}(h:wpAny P.M A (compareOp .In x y) (fun v s'=>v=.bool t/\Q (.bool (!t)) s') E s):wpAny P.M A (compareOp .NotIn x y) Q E s:=fun Z p hΓ=>by
 have h':=h Z p hΓ
 rw [show compareOp .In x y=(do return .bool (<-contains y x)) from rfl,Sem.wp_bind'] at h'
 rw [show compareOp .NotIn x y=(do return .bool (!(<-contains y x))) from rfl,Sem.wp_bind']
 refine Sem.wp_mono P.M Z _ (fun b p' s' q=>?_) (fun _ _ _ q=>q) p s h'
 obtain ⟨q1,q2⟩:=(show Value.bool b=.bool t/\_ from q)
 cases q1;exact q2
theorem tW {H:Ky}{z:Value}:∀{xs:List i9} {j:Nat},(xs.map (·.1)).Nodup->(∃x,xs[j]?=some x/\x.1=H)->(xs.map (putAt H z)).map (·.2.2)=(xs.map (·.2.2)).set j z/\(xs.map (putAt H z)).map (fun y=>Value.ref y.2.1)=xs.map (fun y=>Value.ref y.2.1)
 | [],j,_,⟨_,h,_⟩=>by cases h
 |x::xs,0,nd,⟨y,h,h'⟩=>by
  cases h
  have:xs.map (putAt H z)=xs:=map_putAt_of_not_mem xs H z (by rw [<-h'];exact (aT nd).1)
  rewrite [map_cons,this]
  simp [putAt,h']
 |x::xs,j+1,nd,⟨y,h,h'⟩=>by
  have nd':=aT nd
  obtain ⟨h1,h2⟩:=tW (H:=H) (z:=z) (xs:=xs) (j:=j) nd'.2 ⟨y,h,h'⟩
  have hx:x.1≠H:=fun q=>nd'.1 (by show x.1∈_;rw [q,<-h'];exact List.mem_map_of_mem (mem_of_getElem? (i:=j) h))
  have e:putAt H z x=x:=by unfold putAt;rw [if_neg hx]
  rewrite [map_cons,e]
  exact ⟨congrArg (x.2.2::·) h1,congrArg (Value.ref x.2.1::·) h2⟩
theorem jM {xs:List i9}{us:List T}{k:T}{H:Ky}{i:Option Nat}(hk:fy us=some (xs.map (·.1)))(e:kA us k=some i)(e':xT k=some H):pQ (xs.map (·.1)) H=i:=by
 unfold kA at e
 rw [hk,e'] at e
 exact Option.some.inj e
theorem lM {xs:List i9}{H:Ky}{j:Nat}(e:pQ (xs.map (·.1)) H=some j):∃x,xs[j]?=some x/\x.1=H:=by
 have:=uh e
 rw [getElem?_map] at this
 cases hx:xs[j]? with
 |none=>rw [hx] at this;cases this
 |some x=>rw [hx] at this;exact ⟨x,rfl,Option.some.inj this⟩
theorem kx {us:List T}{i:Option Nat}(e:kA us t=some i):∃H,xT t=some H:=let ⟨_,H,_,e2,_⟩:=bp e;⟨H,e2⟩
theorem yH:jV P .In Bj:=fun A g J s x x' t t' b Q E rm w q q' e k=>by
 obtain ⟨p,e1,e2⟩:=ax e
 obtain ⟨i,e3,e4⟩:=ax e2
 cases e4
 obtain ⟨H,hk⟩:=kx e3
 obtain ⟨d,rfl,xs,n,dd,kk,r,r',_⟩:=q'.d e1 e3
 obtain ⟨ad,rfl,hi,_⟩:=mw hk q
 have f:=jM kk e3 hk
 refine wpAny_in_heap (tV rm.units) hi n dd ?_
 rw [show (atKey xs H).isSome=i.isSome by
  rw [nQ,f]
  cases i with
  |none=>rfl
  |some j=>obtain ⟨x,hx,_⟩:=lM f;rw [bind_some,hx];rfl]
 exact k _
theorem vN:jV P .NotIn eC:=fun A g J s x x' t t' b Q E rm w q q' e k=>by
 obtain ⟨c,e1,rfl⟩:=ar e
 exact xn (yH A g J s x x' t t' c _ E rm w q q' e1 fun tk=>⟨rfl,k tk⟩)
theorem xg {value slice:Expr}(hs:∀x y,subscripted slice false x y=operate [x,y] (getItem x y)):qw P (yY P value slice) idxD (RV P):=fun A env g J s x x' t t' y Q E rm w q q' e hq=>by
 obtain ⟨p,e1,e2⟩:=ax e
 obtain ⟨i,e3,e4⟩:=ax e2
 obtain ⟨j,rfl,hv⟩:=ax e4
 obtain ⟨H,hk⟩:=kx e3
 obtain ⟨d,rfl,xs,n,dd,kk,r,r',_⟩:=q.d e1 e3
 obtain ⟨ad,rfl,hi,_⟩:=mw hk q'
 have f:=jM kk e3 hk
 obtain ⟨z,hz,hz'⟩:=lM f
 obtain ⟨u,hu',hr⟩:=r'.get hv
 rw [getElem?_map,hz] at hu'
 cases hu'
 refine tail_any dd.typeIs slot_dict_getitem.lookup (wpAny_getItem_heap (tV rm.units) hi dd (p:=z.2) ?_ (hq _ _ g (.toks g s _) w hr)) (hs _ _)
 rw [nQ,f,bind_some,hz];rfl
theorem aq.idxD {a i:Expr}{pa pi:PE}{pos:Pos}(hs:∀x y,subscripted i false x y=operate [x,y] (getItem x y))(ha:aq P B C a pa (RX P))(hi:aq P B C i pi (RX P)):aq P B C (.Subscript a i pos) (p2 idxD pa pi) (RV P):=
 (ha.op2 hi.xy kH (xg hs)).map fun _ _ _ _ _=>Subscript_
theorem s9 {f:T->Option Ky}:∀{ts:List T} {κs:List Ky} {t:T} {H:Ky},jT.go f ts=some κs->f t=some H->jT.go f (ts++[t])=some (κs++[H])
 | [],_,t,H,e,e'=>by cases e;rw [nil_append,vB,e'];rfl
 |x::ts,κs,t,H,e,e'=>by
  obtain ⟨k,ks,e1,e2,e3⟩:=bp (show o2 (f x) (jT.go f ts) _=some κs from e)
  cases e3
  rw [List.cons_append,vB,e1,s9 e2 e'];rfl
theorem kX {xs:List i9}{us ts:List T}{k v:T}{H:Ky}{i:Option Nat}{ad:Addr}{z:Value}(hk:fy us=some (xs.map (·.1)))(nd:(xs.map (·.1)).Nodup)(hd:kA us k=some i)(hky:xT k=some H)(r:aO P g h us (xs.map fun y=>Value.ref y.2.1))(r':aO P g h ts (xs.map (·.2.2)))(q:Rp P g h k (.ref ad))(q':Rp P g h v z):
  fy (ma i k v us ts).1=some ((storedH xs H ad z).map (·.1))/\aO P g h (ma i k v us ts).1 ((storedH xs H ad z).map fun y=>Value.ref y.2.1)/\aO P g h (ma i k v us ts).2 ((storedH xs H ad z).map (·.2.2)):=by
 have f:=jM hk hd hky
 have a:=nQ H xs
 rw [f] at a
 cases i with
 |none=>
  rw [storedH_new a,map_append,map_append,map_append]
  exact ⟨s9 hk hky,aO.append (aO.cons q aO.nil) r,aO.append (aO.cons q' aO.nil) r'⟩
 |some j=>
  obtain ⟨x,hx,hx'⟩:=lM f
  rw [bind_some,hx] at a
  rw [storedH_old a,keys_map_putAt]
  obtain ⟨h1,h2⟩:=tW (z:=z) nd ⟨x,hx,hx'⟩
  exact ⟨hk,by rw [h2];exact r,by rw [h1];exact r'.set q' j⟩
theorem wW {α:Type}{i:Option Nat}{k v:α}{ks vs:List α}(h:ks.length+1<=lim):(ma i k v ks vs).1.length<=lim:=by
 cases i with
 |none=>rw [ma,List.length_append];exact h
 |some j=>exact Nat.le_of_succ_le h
def Pu (P:Pg)(F:T->T->T->Option T):Prop:=
 ∀A g J s a xk xv t H v y Q E,Rm A->bf P g s.heap J->hY P g s.heap a t->eU P g s.heap H xk->Rp P g s.heap v xv->F t H v=some y->
  (∀h' tk,(∀b,b≠a->h'.get? b=s.heap.get? b)->(aN g s.heap g h'->hY P g h' a y)->Q () {s with heap:=h',toks:=tk})->wpAny P.M A (setItem (.ref a) xk xv) Q E s
theorem tY:Pu P er:=fun A g J s a xk xv t H v y Q E rm w r rk rv e hq=>by
 obtain ⟨p,e1,e2⟩:=ax e
 obtain ⟨i,e3,e4⟩:=ax e2
 obtain ⟨hl,rfl⟩:=fE e4
 cases yS e1
 obtain ⟨ky,hk⟩:=kx e3
 obtain ⟨xs,n,dd,kk,r1,r2,_⟩:=tJ.is e3 r
 obtain ⟨ad,rfl,hi,rk⟩:=mw hk rk
 have nd:(xs.map (·.1)).Nodup:=let ⟨_,_,_,_,_,_,_,_,nd⟩:=dd;nd
 have hxl:xs.length<=sizeLine:=ba (by have:=r1.length;rw [length_map] at this;lia -abstractProof)
 refine wpAny_setItem_heap (tV rm.units) hi dd (fun h' dd' hs=>hq h' _ hs.2 fun kf=>?_) hxl
 obtain ⟨g1,g2,g3⟩:=kX (v:=v) (z:=xv) kk nd e3 hk r1 r2 rk rv
 exact Fk.back n dd' g1 (g2.mono kf) (g3.mono kf) (wW hl)
theorem aL.put {i e:Expr}{y:Str}{k:NameKind}{np p pos:Pos}{pi pe:PE}{j:Nat}{F:T->T->T->Option T}(o:Pu P F)(hv:br C j=true)(ht:B.tab[j]?=some (some (y,k)))(hw:∀env,swapsWith e (some (.Subscript (.Name y np) i p)) pos.line env=pure false)(h2:aq P B C i pi (RX P))(h3:aq P B C e pe (RV P)):
  aL P B C fr C (.Assign [.Subscript (.Name y np) i p] e pos) (zo j F pi pe):=fun n A env g V J s kk Q E X hb hq hr=>by
 refine wpAny_Assign_Subscript (h3 n A env g V J s _ _ E X hb fun z s₁ g₁ v J1 ea p1 w1 ra=>?_) (hw env)
 have X1:=X.post p1 w1
 have ea:zo j F pi pe (P.cx n) V J kk=(match b9 V j with |some x=>pi (P.cx n) V J1 fun H J=>up (F x H v) J fun y J=>kk (V.set j (some y)) J |none=>.bad):=ea
 cases e0:b9 V j with
 |none=>rw [e0] at ea;exact absurd ea hb
 |some t=>
  rw [e0] at ea
  have hb1:=fun q=>hb (ea.trans q)
  obtain ⟨u,va,q⟩:=X1.env.var j _ t ht e0
  unfold bA at q
  rw [hv] at q
  obtain ⟨a,rfl,oi,r⟩:=q
  refine bq X1 ht va (h2 n A env g₁ V J1 s₁ _ _ E X1 hb1 fun xk s2 ga H J2 eb pb w2 rb=>?_)
  obtain ⟨y',e'⟩:=cf fun q=>hb1 (eb.trans q)
  have X2:=X1.post pb w2
  refine o A ga J2 s2 a xk z t H v y' _ _ X.rm w2 (r.mono (pb.k w1) fun o e=>pb.keep a o e (X1.g.O a ⟨j,oi⟩).2.2) (ly.y rb) (Rp.mono (pb.k w1) ra) e' fun h' tk hs hy=>?_
  obtain ⟨pS,X'⟩:=lA X2 hv (by rw [e0];exact fun q=>by cases q) (by rw [pb.o];exact oi) (va.move fun b m o e=>pb.keep b o e (X1.env.own b m).2.2.1) hs hy tk
  exact hq _ _ _ J2 (ea.trans (eb.trans (by rw [e'];rfl))) ((p1.trans pb).toS.trans pS) X'
theorem o6 {g:Gh}{J:Sg}{s:Shared}(G:fJ P)(w:bf P g s.heap J):(s.heap.objs.size==sysModules)=false:=by
 obtain ⟨o,_,_,e,_⟩:=G.g
 have:=Heap.lt_size (w.base _ _ e).2
 exact beq_eq_false_iff_ne.mpr fun q=>by rw [q] at this;exact absurd this (by decide)
theorem aq.dic {pos:Pos}:aq P B C (.Dict [] [] pos) sP (RN P):=fun n A env g V J s k Q E X hb hq=>by
 refine wpAny_Dict_empty (hq _ _ g _ J rfl (.push _ s.toks) (X.g.push _) ?_)
 obtain ⟨h1,h2,h3⟩:=cZ X.g
 exact ⟨_,rfl,aD _,h1,h2,h3,tJ.mk (o6 X.good X.g) _ [] (bD _) ⟨⟨rfl,rfl,rfl⟩,⟨_,rfl⟩,⟨[],rfl,rfl,.nil⟩,zero_le _⟩ rfl rfl⟩
end
end
end Mine
namespace Mine
noncomputable section
open PySem PyProof.Rows PySem.SeqAt
inductive bj (P:Pg) (c:Nat) (ms:List (Str×Nat)):Prop
 |mk (N:Addr) (mN:Str->Option Value) (K:ClsAt P.h₀ (P.cls c) N mN) (g1:mN "__getattribute__"=none) (g2:mN "__getattr__"=none) (g3:mN "__setattr__"=none) (g4:∀x∈bX c,mN x=none/\typeLookup (.type "object") x=pure none)
  (g5:∀p∈ms,mN p.1=some (.ref (P.fnA p.2))/\(∃y,typeLookup (.type "object") p.1=pure y)/\∃o,P.h₀.get? (P.fnA p.2)=some o/\o.cls=.type "function")
abbrev Dy (P:Pg)(h:Heap):Prop:=∀a o,P.h₀.get? a=some o->h.get? a=some o
section
variable {P:Pg} {B:bn} {C C':Ct} {fr:Bool} {n c i f:Nat} {A:Around} {env:Env} {g g':Gh} {V:aY} {J:Sg} {s s':Shared} {h h':Heap} {t:T} {x:Value} {ms:List (Str×Nat)} {name:Str} {m:Str->Option Value} {dx a:Addr} {us:List Value} {E:Value->Shared->Prop}
theorem bf.bs (w:bf P g h J):Dy P h:=fun a o e=>(w.base a o e).2
theorem dS.inst (i:dS P h c m dx a):h.Inst a (P.cls c) m:=let ⟨o,e,k,n,ne⟩:=i;⟨o,e,k.cls,k.no,.inr ⟨dx,k.dict,ne,n⟩⟩
theorem kO {u:Value}{Q:Value->Shared->Prop}(O:bj P c ms)(hn:name∈bX c)(bs:Dy P s.heap)(i:dS P s.heap c m dx a)(hm:m name=some u)(hu:handedOut u=pure u)(hq:Q u {s with toks:=s.toks+1}):wpAny P.M A (getAttr (.ref a) name true) Q E s:=by
 obtain ⟨N,mN,K,g1,g2,g3,g4,g5⟩:=O
 obtain ⟨nm,q,bs',sn,sub,col,dd,k0,k1,k2,k3,k5,hC⟩:=(K.keeps bs).obj
 exact load_attr (h:=s.heap) hC (K.keeps bs).ns g1 (g4 name hn).1 (g4 name hn).2 i.inst hm hu hq
theorem xw {pl:Sem Bool}{Q:Value×List Value->Shared->Prop}(O:bj P c ms)(hm:(name,f)∈ms)(hn:name∉bX c)(bs:Dy P s.heap)(i:dS P s.heap c m dx a)(k:si c m us)(hq:Q (.ref (P.fnA f),[.ref a]) s):wpAny P.M A (getMethod (.ref a) name pl) Q E s:=by
 obtain ⟨N,mN,K,g1,g2,g3,g4,g5⟩:=O
 obtain ⟨i1,⟨y,hy⟩,oI,i2,i3⟩:=g5 _ hm
 obtain ⟨nm,q,bs',sn,sub,col,dd,k0,k1,k2,k3,k5,hC⟩:=(K.keeps bs).obj
 exact method_of (h:=s.heap) hC (K.keeps bs).ns g1 g2 i1 (bs _ _ i2) i3 hy i.inst (k.no name hn) hq
theorem Rp.handed (r:Rp P g h t x):handedOut x=pure x:=by
 have k:∀{y:Value},x=y->handedOut y=pure y->handedOut x=pure x:=fun e h=>e▸h
 cases t with
 |none=>exact k r rfl
 |bool=>exact k r rfl
 |int=>exact let ⟨_,e⟩:=r;k e rfl
 |str=>exact let ⟨_,_,e⟩:=r;k e rfl
 |scr=>exact let ⟨_,_,e,_,_,_⟩:=r;k e rfl
 |spot=>exact k r rfl
 |self=>exact (show False from r).elim
 |_=>exact let ⟨_,e,_,_⟩:=r;k e rfl
theorem qo {α:Type}{c:Bool}{o:Option α}{y:α}(h:(bif c then o else none)=some y):c=true/\o=some y:=by
 cases c with
 |true=>exact ⟨rfl,h⟩
 |false=>cases h
theorem yR {ts:List T}(e:Fu c t=some ts):t=.obj c ts:=by
 cases t with
 |obj c' us=>obtain ⟨h,rfl⟩:=dj e;rw [eq_of_beq_eq_true h]
 |_=>cases e
theorem uG (O:bj P c ms)(hn:(bX c)[i]?=some name):wd P (Dk P fun x=>getAttr x name true) (nR c i) (RV P):=fun A env g J s x t y Q E rm w q e hq=>by
 obtain ⟨ts,e1,e2⟩:=ax e
 cases yR e1
 obtain ⟨a,rfl,f,dx,m,us,fd,ih,k,r⟩:=q.v fun _ h=>h
 obtain ⟨u,hu,hr⟩:=r.get e2
 exact kO O (mem_of_getElem? hn) w.bs ih (k.at_ i name u hu hn) hr.handed (hq u _ g (.toks g s _) w hr)
theorem tB {M:Model}{o:Expr}{attr:Str}{pos:Pos}{Q:Value->Shared->Prop}(hbase:attributeBase o attr env (eval o env)=eval o env)(hlet:∀x r,letTemporaryGo o x r=pure ())
  (h:wpAny M A (eval o env) (fun o s₁=>wpAny M A (getAttr o attr true) Q E s₁) E s):wpAny M A (eval (.Attribute o attr pos) env) Q E s:=by
 rw [arm_eval_Attribute,hbase]
 refine wpAny_bind (wpAny_mono h (fun o s₁ ha=>wpAny_bind (wpAny_standAt (wpAny_bind (wpAny_holding (wpAny_mono ha (fun r s2 hc=>?_) fun _ _ y=>y))))) fun _ _ y=>y)
 rw [hlet]
 exact wpAny_bind (wpAny_pure (wpAny_pure hc))
theorem aq.attr {o:Expr}{pos:Pos}{p:PE}(O:bj P c ms)(hn:(bX c)[i]?=some name)(hbase:∀env,attributeBase o name env (eval o env)=eval o env)(hlet:∀x r,letTemporaryGo o x r=pure ())(h:aq P B C o p (RV P)):aq P B C (.Attribute o name pos) (p1 (nR c i) p) (RV P):=
 (h.vx.xy.op1 kH (uG O hn)).map fun _ env _ _ _=>tB (hbase env) hlet
theorem bA.self {i:Nat}{u:Value}(q:bA P C g h i .self u):u=.ref g.sa:=by
 unfold bA at q
 cases e:br C i with
 |true=>rw [e] at q;exact let ⟨_,_,_,r⟩:=q;(show False from r).elim
 |false=>rw [e] at q;exact q.elim (fun r=>(show False from r).elim) (·.2.2.2)
theorem aq.rat {y:Str}{k:NameKind}{np pos:Pos}(O:bj P c ms)(hn:(bX c)[i]?=some name)(ho:br C 0=false)(ht:B.tab[0]?=some (some (y,k))):aq P B C (.Attribute (.Name y np) name pos) (e8 c i) (RV P):=fun n A env g V J s kk Q E X hb hq=>by
 obtain ⟨u,e⟩:=cf hb
 obtain ⟨t,e0,e1⟩:=ax e
 obtain ⟨v,va,q⟩:=X.env.var 0 _ t ht e0
 unfold bA at q
 rw [ho] at q
 have ek:e8 c i (P.cx n) V J kk=kk u J:=by unfold e8;rw [e];rfl
 refine tB rfl (fun _ _=>rfl) (bq X ht va ?_)
 rcases q with r | ⟨_,_,rfl,rfl⟩
 .exact uG O hn A env g J s v t u Q E X.rm X.g (.inl r) (by cases t<;>first |exact e1 |exact (show False from r).elim) fun x s' g' p w r=>hq x s' g' u J ek p w r
 .obtain ⟨p,e2,e3⟩:=ax e1
  obtain ⟨b,e4⟩:=qo e3
  obtain ⟨b1,b2⟩:=ah b
  obtain ⟨dx,m,us,ih,z,z',ne,k,l,sh,_,_⟩:=X.g.self p.1 p.2 e2
  obtain rfl:=eq_of_beq_eq_true b1
  have hi:i < us.length:=by rw [l];exact (aj e4).1
  have r:=sh i _ u (getElem?_eq_getElem hi) e4 ((not_eq_true' _).mp b2)
  exact kO O (mem_of_getElem? hn) X.g.bs ih (k.at_ i name _ (getElem?_eq_getElem hi) hn) r.handed (hq _ _ g u J ek (.toks g s _) X.g r)
theorem sk {M:Model}{o:Expr}{apos pos:Pos}{args:List Expr}{Q:Value->Shared->Prop}(hbase:attributeBase o name env (eval o env)=eval o env)
  (hfew:methodCallForm (args.length+([]:List Keyword).length) (backTo pos (starEach args env)) (backToKw pos (keywordEach [] env))=true)(hline:(apos.endLine==pos.line)=true)
  (h:wpAny M A (eval o env) (fun ov s₁=>∀pl,wpAny M A (getMethod ov name pl) (fun fv s2=>wpAny M A (callWith pos fv.1 fv.2 (backTo pos (starEach args env)) []) Q E s2) E s₁) E s):
  wpAny M A (eval (.Call (.Attribute o name apos) args [] pos) env) Q E s:=by
 rw [arm_eval_Call,hbase]
 refine wpAny_bind (wpAny_mono h (fun ov s₁ ha=>?_) fun _ _ e=>e)
 refine wpAny_bind (wpAny_standAt ?_)
 have hpos:methodCallPos true o env apos pos=pure pos:=by unfold methodCallPos;simp [hline]
 unfold methodCall
 rw [hfew]
 refine wpAny_bind (wpAny_holding ?_)
 exact wpAny_mono (ha _) (fun fv s2 hc=>wpAny_bind (wpAny_of_eq hpos hc)) fun _ _ e=>e
def Fo (c f:Nat)(name:Str)(apos pos:Pos)(k:Nat):Bool:=!(bX c).contains name&&(oK f&&(!lC f&&((apos.endLine==pos.line)&&Nat.ble k 20)))
structure Fh (c f:Nat) (name:Str) (apos pos:Pos) (k:Nat):Prop where
 n:name∉bX c
 m:oK f=true
 f:lC f=false
 l:(apos.endLine==pos.line)=true
 k:k<=20
theorem xD {apos pos:Pos}{k:Nat}(h:Fo c f name apos pos k=true):Fh c f name apos pos k:=by
 obtain ⟨h1,h⟩:=ah h
 obtain ⟨h2,h⟩:=ah h
 obtain ⟨h3,h⟩:=ah h
 obtain ⟨h4,h⟩:=ah h
 exact ⟨(fun q=>by rw [List.contains_iff_mem.mpr q] at h1;cases h1),h2,(not_eq_true' _).mp h3,h4,le_of_ble_eq_true h⟩
theorem few {es:List Expr}{pos:Pos}(hp:∀q∈starEach es env,q.1=false)(hl:es.length<=20):methodCallForm (es.length+([]:List Keyword).length) (backTo pos (starEach es env)) (backToKw pos (keywordEach [] env))=true:=by
 have h1:(backTo pos (starEach es env)).all (fun x=>!x.1)=true:=all_eq_true.mpr fun p hp'=>by rw [bc hp p hp'];rfl
 unfold methodCallForm
 rw [h1]
 show (true&&true&&decide (es.length+0+0 < 30))=true
 simp;lia -abstractProof
theorem oJ {es:List Expr}{ps:PL}{apos pos:Pos}{F:eP}{k:PK T}{Q:Value->Shared->Prop}(O:bj P c ms)(hm:(name,f)∈ms)(hf:P.Ψ f=some F)(me:Fh c f name apos pos es.length)(h':dk P B C es ps)(X:At P B C n A env g V J s)(i:dS P s.heap c m dx a)(kf:si c m us)(hr:Rp P g s.heap t (.ref a)\/(t=.self/\a=g.sa))
  (hb:(ps (P.cx n) V J fun ts J=>f8 ((P.cx n).call f (t::ts) J) k)≠.bad)(hq:∀x s' g' u J',(ps (P.cx n) V J fun ts J=>f8 ((P.cx n).call f (t::ts) J) k)=k u J'->aC g s g' s'->bf P g' s'.heap J'->Rp P g' s'.heap u x->Q x s')(pl:Sem Bool):
  wpAny P.M A (getMethod (.ref a) name pl) (fun fv s2=>wpAny P.M A (callWith pos fv.1 fv.2 (backTo pos (starEach es env)) []) Q E s2) E s:=by
 obtain ⟨o,w1,w2,_⟩:=X.good.fn f F hf
 refine xw O hm me.n X.base i kf (Calls.callWith_function (fd:=P.fd f) (o:=o) (cr (bc (h'.pl env)) (h'.sim pos n A env g V J s _ _ E X hb fun xs s₁ g₁ ts J1 e p w r=>⟨⟨(w.base _ _ w1).2,w2⟩,?_⟩)))
 obtain ⟨u,J2,ec⟩:=xi fun q=>hb (e.trans q)
 refine rM (X.post p w) (ts:=t::ts) (by rw [me.m];exact ⟨_,_,_,_,rfl,rfl,hr.imp (·.mono (p.k X.g)) (fun ⟨a,b⟩=>⟨a,by rw [p.sa,b]⟩),r⟩) ec fun x s' g' p' w' r'=>hq x s' g' u J2 (e.trans (by rw [ec,qY])) (p.trans p') w' (by have r':=r'.1;rw [me.f] at r';exact r')
theorem aq.meth {o:Expr}{es:List Expr}{p:PE}{ps:PL}{apos pos:Pos}{F:eP}(O:bj P c ms)(hm:(name,f)∈ms)(hf:P.Ψ f=some F)(me:Fo c f name apos pos es.length=true)(hbase:∀env,attributeBase o name env (eval o env)=eval o env)(h:aq P B C o p (RV P))(h':dk P B C es ps):
  aq P B C (.Call (.Attribute o name apos) es [] pos) (ua c f p ps) (RV P):=
 have me:=xD me
 (h.bind (N:=fun A env x Q E s=>∀pl,wpAny P.M A (getMethod x name pl) (fun fv s2=>wpAny P.M A (callWith pos fv.1 fv.2 (backTo pos (starEach es env)) []) Q E s2) E s) (F:=fun cx V k t J=>gd (Fu c t).isSome (ps cx V J fun ts J=>f8 (cx.call f (t::ts) J) k)) kH fun n A env g g₁ V J s s₁ x t k Q E p X r hb hq=>by
  have hk:=k6 hb
  rw [hk] at hb hq
  obtain ⟨ts,e⟩:=aE hk
  cases yR e
  obtain ⟨a,rfl,_,dx,m,us,_,ih,kf,_⟩:=id r
  exact oJ O hm hf me h' X ih kf (.inl r) hb hq).map fun A env Q E s h=>sk (hbase env) (few (h'.pl env) me.k) me.l h
theorem pU (h:yc c V J=true):b9 V 0=some .self/\∃ts,J.self=some (c,ts):=by
 unfold yc at h
 cases e:b9 V 0 with
 |none=>rw [e] at h;cases h
 |some t=>
  rw [e] at h
  cases t with
  |self=>
   refine ⟨rfl,?_⟩
   cases e':J.self with
   |none=>simp only [e'] at h;cases h
   |some p=>simp only [e'] at h;exact ⟨p.2,by rw [<-eq_of_beq_eq_true h]⟩
  |_=>cases h
theorem aq.rmeth {y:Str}{kd:NameKind}{np apos pos:Pos}{es:List Expr}{ps:PL}{F:eP}(O:bj P c ms)(hm:(name,f)∈ms)(hf:P.Ψ f=some F)(me:Fo c f name apos pos es.length=true)(ht:B.tab[0]?=some (some (y,kd)))(h':dk P B C es ps):
  aq P B C (.Call (.Attribute (.Name y np) name apos) es [] pos) (sN c f ps) (RV P):=fun n A env g V J s k Q E X hb hq=>by
 have me:=xD me
 unfold sN at hb hq
 have hs:=k6 hb
 rw [hs] at hb hq
 obtain ⟨e0,ts,e1⟩:=pU hs
 obtain ⟨v,va,q⟩:=X.env.var 0 _ _ ht e0
 cases q.self
 obtain ⟨dx,m,us,ih,_,_,_,kf,_⟩:=X.g.self c ts e1
 exact sk rfl (few (h'.pl env) me.k) me.l (bq X ht va (oJ O hm hf me h' X ih kf (.inr ⟨rfl,rfl⟩) hb hq))
end
section
variable {P:Pg} {B:bn} {C C':Ct} {fr:Bool} {n c i f:Nat} {A:Around} {env:Env} {g g' g2:Gh} {V:aY} {J J' J2:Sg} {s s' s2:Shared} {h h':Heap} {t:T} {x:Value} {ms:List (Str×Nat)} {name:Str} {m:Str->Option Value} {dx a:Addr} {us:List Value} {E:Value->Shared->Prop} {ts:List T}
theorem bw (k:∀a o,h.get? a=some o->h'.get? a=some o)(a:Addr)(e:h'.get? a=none):h.get? a=none:=by
 cases q:h.get? a with
 |none=>rfl
 |some o=>exact (ao (k a o q) e).elim
theorem aO.of:∀{us:List Value} {ts:List T},us.length=ts.length->(∀(i:Nat) (v:Value) (t:T),us[i]?=some v->ts[i]?=some t->Rp P g h t v)->aO P g h ts us
 | [],[],_,_=>rfl
 |v::us,t::ts,l,k=>⟨v,us,rfl,k 0 v t rfl rfl,aO.of (Nat.succ.inj l) fun i=>k (i+1)⟩
theorem bf.make {x:Addr}(w:bf P g h J)(m:Heap.MadeObj h h' x dx (P.cls c)):bf P {g with Z:=fun y=>g.Z y\/y=x\/y=dx,sa:=x} h' ⟨J.spot,some (c,[])⟩:=by
 obtain ⟨o,hx,hc,hnc,hd⟩:=m.inst
 have hdd:=m.dict o hx
 obtain ⟨ns,ne⟩:h'.Ns1 dx (fun _=>none)/\dx≠x:=by
  rcases hd with ⟨q,_⟩ | ⟨d',q,hne,hns⟩
  .rw [q] at hdd;cases hdd
  .rw [q] at hdd;cases hdd;exact ⟨hns,hne⟩
 have lv:∀a,h.get? a≠none->h'.get? a≠none:=fun a l e=>l (bw m.keeps a e)
 have nn:∀a,h.get? a≠none->a≠x/\a≠dx:=fun a l=>⟨fun q=>l (q▸m.newX),fun q=>l (q▸m.newD)⟩
 have ld:h'.get? dx≠none:=let ⟨_,_,_,e,_⟩:=ns;ao e
 have sp:=nn _ (w.Z _ w.spot.2.1).1
 exact ⟨fun a o e=>⟨(w.base a o e).1,m.keeps a o (w.base a o e).2⟩,fun a f=>lv a (w.F a f),
  fun a z=>z.elim (fun z=>⟨lv a (w.Z a z).1,(w.Z a z).2⟩) fun z=>z.elim (fun e=>by rw [e];exact ⟨ao hx,fun f=>w.F _ f m.newX⟩) fun e=>by rw [e];exact ⟨ld,fun f=>w.F _ f m.newD⟩,
  fun a q=>⟨lv a (w.O a q).1,(w.O a q).2.1,fun z=>z.elim (w.O a q).2.2 fun z=>z.elim (nn a (w.O a q).1).1 (nn a (w.O a q).1).2⟩,
  w.oo,⟨let ⟨t,n,e⟩:=w.spot.1;⟨t,n,m.keeps _ _ e⟩,.inl w.spot.2.1,fun q=>nomatch q⟩,
  fun c' ts e=>by cases e;exact ⟨dx,_,[],⟨o,hx,⟨hc,hdd,hnc⟩,ns,ne⟩,.inr (.inl rfl),.inr (.inr rfl),⟨fun q=>sp.2 q.symm,fun q=>sp.1 q.symm⟩,⟨fun _ _=>rfl,fun _ _ _ q=>nomatch q⟩,rfl,(fun _ _ _ q=>nomatch q),(fun _ _ _ q=>nomatch q),fun _ _ _ q=>nomatch q⟩⟩
theorem zP {x:Addr}(w:bf P g s.heap J)(hσ:J.self=none)(m:Heap.MadeObj s.heap h' x dx (P.cls c))(p2:aC {g with Z:=fun y=>g.Z y\/y=x\/y=dx,sa:=x} {s with heap:=h'} g2 s2)(w2:bf P g2 s2.heap J2)(hs:J2.self=some (c,ts)):
  ∃g',aC g s g' s2/\bf P g' s2.heap ⟨J2.spot,none⟩/\Rp P g' s2.heap (.obj c ts) (.ref x):=by
 have mb:=bw m.keeps
 have b:∀a,s2.heap.get? a=none->s.heap.get? a=none:=fun a e=>mb a (p2.back a e)
 have fn:∀a,g2.F a->g.F a\/s.heap.get? a=none:=fun a f=>(p2.Fn a f).imp_right (mb a)
 have zn:∀a,g2.Z a->a=g.sp\/s.heap.get? a=none:=fun a z=>(p2.Zn a z).elim (fun z=>z.elim (fun z=>.inl (w.spot.2.2 hσ a z)) fun z=>.inr (z.elim (fun e=>e▸m.newX) fun e=>e▸m.newD)) fun e=>.inr (mb a e)
 have hsp:g2.sp=g.sp:=p2.sp
 refine ⟨⟨fun y=>g2.F y\/(g2.Z y/\s.heap.get? y=none),g.Z,g.o,g.sp,g.sa⟩,⟨St.trans ⟨h',s.toks,rfl⟩ p2.st,fun a o e z=>p2.keep a o (m.keeps a o e) fun q=>q.elim z fun q=>q.elim (fun q=>ao e (q▸m.newX)) fun q=>ao e (q▸m.newD),b,fun a f=>.inl (p2.F a f),fun a f=>f.elim (fn a) fun q=>.inr q.2,fun a z=>.inl z,rfl,rfl,rfl⟩,
  ⟨fun a o e=>⟨.inl (w2.base a o e).1,(w2.base a o e).2⟩,fun a f=>f.elim (w2.F a) fun q=>(w2.Z a q.1).1,fun a z=>⟨fun e=>(w.Z a z).1 (b a e),fun f=>f.elim (fun f=>(fn a f).elim (w.Z a z).2 (w.Z a z).1) fun q=>(w.Z a z).1 q.2⟩,
   fun a q=>⟨fun e=>(w.O a q).1 (b a e),fun f=>f.elim (fun f=>(fn a f).elim (w.O a q).2.1 (w.O a q).1) fun z=>(w.O a q).1 z.2,(w.O a q).2.2⟩,w.oo,⟨let ⟨t,n,e⟩:=w2.spot.1;⟨t,n,hsp▸e⟩,w.spot.2.1,fun _=>w.spot.2.2 hσ⟩,fun _ _ q=>nomatch q⟩,?_⟩
 obtain ⟨dx',m',us,ih,z,z',ne,k,l,sh,ow,_⟩:=w2.self c ts hs
 have sa:g2.sa=x:=p2.sa
 have nw:∀a,g2.Z a->a≠g2.sp->s.heap.get? a=none:=fun a z q=>(zn a z).resolve_left (hsp▸q)
 refine ⟨x,rfl,.inr (sa▸⟨z,nw _ z ne.2⟩),dx',m',us,.inr ⟨z',nw _ z' ne.1⟩,sa▸ih,k,aO.of l fun i v t h1 h2=>?_⟩
 have kf:aN g2 s2.heap ⟨fun y=>g2.F y\/(g2.Z y/\s.heap.get? y=none),g.Z,g.o,g.sp,g.sa⟩ s2.heap:=⟨fun a f=>⟨.inl f,fun _ e=>e⟩,hsp.symm⟩
 cases ho:gQ c i with
 |false=>exact (sh i v t h1 h2 ho).mono kf
 |true=>
  obtain ⟨a,rfl,za,na,ra⟩:=ow i v t h1 h2 ho
  exact (ra.mono kf fun _ e=>e).rp (.inr ⟨za,nw a za na.2.2⟩)
theorem zR {o:du}{k:PK T}(hb:og c o k≠.bad):∃J ts,o=.ret .none J/\J.self=some (c,ts)/\og c o k=k (.obj c ts) ⟨J.spot,none⟩:=by
 cases o with
 |ret t J=>
  unfold og at hb ⊢
  have h1:=kN hb
  obtain rfl:t=.none:=by cases t<;>first |rfl |cases h1
  cases e:J.self with
  |none=>simp only [e] at hb;exact absurd rfl hb
  |some p=>
   simp only [e,h1,cond_true] at hb ⊢
   have h2:=kN hb
   obtain rfl:=eq_of_beq_eq_true h2
   exact ⟨J,p.2,rfl,e,by rw [h2];rfl⟩
 |_=>exact absurd (by with_unfolding_all rfl) hb
theorem aq.new {y:Str}{e:Expr}{es:List Expr}{ps:PL}{p pos:Pos}(O:bj P c ms)(hi:(ofString "__init__",f)∈ms)(hf:(oK f&&!lC f)=true)(hg:P.mg y=some (.ref (P.cls c)))(hx:B.sc.names.lookup y=some .globalImplicit)(hd:(y==("__debug__":Str))=false)
  (hs:∀env,starEach (e::es) env=(false,eval e env)::starEach es env)(h:dk P B C (e::es) ps):aq P B C (.Call (.Name y p) (e::es) [] pos) (qV c f ps) (RV P):=fun n A env g V J s k Q E X hb hq=>by
 obtain ⟨N,mN,K,_,_,_,_,g5⟩:=O
 obtain ⟨i1,_,oI,i2,i3⟩:=g5 _ hi
 refine Call_Name rfl (X.glob hx hd hg (callWith_cls (e:=e) (rest:=es) K (h.sim pos n A env g V J s _ _ E X hb fun xs s₁ g₁ ts J1 ea p1 w1 r1=>⟨w1.bs,?_⟩) (hs env) ?_))
 .have hb1:=fun q=>hb (ea.trans q)
  cases hσ:J1.self with
  |some q=>simp only [hσ] at hb1;exact (hb1 trivial).elim
  |none=>
   simp only [hσ] at hb1 ea
   obtain ⟨J2,ts',ec,h2,h3⟩:=zR hb1
   obtain ⟨nm,q,bs,sn,sub,col,dd,k0,k1,k2,k3,k5,hC⟩:=(K.keeps w1.bs).obj
   refine wpAny_call_obj_init (h:=s₁.heap) PySem.F.objNew hC (K.keeps w1.bs).ns i1 (w1.bs _ _ i2) i3 fun h' x dx m=>?_
   obtain ⟨f1,f2⟩:=ah hf
   have f2:=(not_eq_true' _).mp f2
   refine wpAny_call (codeAny_mono (X.call n (le_refl n) f (A.under (.builtin "type.__call__" ⟨.ref (P.cls c)::xs,[]⟩)) (.self::ts) (.ref x::xs) _ _ {s₁ with heap:=h'} .none J2 (fun r s'=>r=.none/\Q (.ref x) s') E ?_ (w1.make m) ?_ ec fun u s' g' p' w' r'=>?_) fun r s' q=>?_)
   .exact ⟨by have:=X.room.1;show A.depth+1+2 * n+9 < _;lia -abstractProof,by have:=X.room.2.1;show A.units+1+20 * n+190 < _;lia -abstractProof,X.room.2.2⟩
   .rw [f1];exact ⟨_,_,_,_,rfl,rfl,.inr ⟨rfl,rfl⟩,aO.mono (g:=g₁) (g':={g₁ with Z:=fun y=>g₁.Z y\/y=x\/y=dx,sa:=x}) (h:=s₁.heap) (h':=h') ⟨fun a f=>⟨f,m.keeps a⟩,rfl⟩ r1⟩
   .have r':=r'.1;rw [f2] at r'
    obtain ⟨g2,p2,w2,r2⟩:=zP w1 hσ m p' w' h2
    exact ⟨r',hq _ _ g2 _ _ (ea.trans h3) (p1.trans p2) w2 r2⟩
   .match r,q with
    |.ok (.ret u),q=>exact q
    |.ok .next,q=>exact q.elim
    |.ok .brk,q=>exact q.elim
    |.ok .cont,q=>exact q.elim
    |.error u,q=>exact q
 .refine any_eq_false.mpr fun q hq'=>?_
  rw [bc (fun q hq=>h.pl env q (by rw [hs];exact mem_cons_of_mem _ hq)) q hq'];decide
inductive dR (P:Pg) (g:Gh) (h:Heap) (c:Nat) (name:Str) (t:T) (a:Addr):Prop
 |mk (dx:Addr) (m:Str->Option Value) (ih:dS P h c m dx g.sa) (e:m name=some (.ref a)) (z:g.Z a) (ne:a≠g.sp) (z1:g.Z g.sa/\g.sa≠g.sp) (z2:g.Z dx/\dx≠g.sp) (r:hY P g h a t)
theorem dR.keep (o:dR P g h c name t a)(kf:aN g h g' h')(hs:g'.sa=g.sa)(z:∀a,a≠g.sp->g.Z a->g'.Z a/\∀o,h.get? a=some o->h'.get? a=some o):dR P g' h' c name t a:=by
 obtain ⟨dx,m,ih,e,za,ne,⟨z1,n1⟩,⟨z2,n2⟩,r⟩:=o
 have a1:=z _ n1 z1
 have a2:=z _ n2 z2
 have a3:=z _ ne za
 have sp:=kf.sp
 exact ⟨dx,m,hs▸ih.mono a1.2 a2.2,e,a3.1,sp▸ne,hs▸sp▸⟨a1.1,n1⟩,sp▸⟨a2.1,n2⟩,r.mono kf a3.2⟩
theorem dR.o (o:dR P g h c name t a):hY P g h a t:=let ⟨_,_,_,_,_,_,_,_,r⟩:=o;r
theorem dR.y (o:dR P g h c name t a):eU P g h t (.ref a):=.inr ⟨a,rfl,o.o⟩
theorem lW (hs:ej c i V J=some t):b9 V 0=some .self/\gQ c i=true/\∃ts,J.self=some (c,ts)/\ts[i]?=some t:=by
 obtain ⟨b,e⟩:=qo hs
 obtain ⟨b1,b2⟩:=ah b
 obtain ⟨e0,ts,e1⟩:=pU b1
 rw [e1] at e
 exact ⟨e0,b2,ts,e1,e⟩
theorem lV (e:J'.self=J.self)(hs:ej c i V J=some t):ej c i V J'=some t:=by
 cases J;cases J';cases e;exact hs
theorem wN (w:bf P g h J)(hn:(bX c)[i]?=some name)(hs:ej c i V J=some t):∃a,dR P g h c name t a:=by
 obtain ⟨e0,ho,ts,e1,e2⟩:=lW hs
 obtain ⟨dx,m,us,ih,z,z',ne,k,l,_,ow,_⟩:=w.self c ts e1
 have hi:i < us.length:=by rw [l];exact (aj e2).1
 obtain ⟨a,e,za,na,r⟩:=ow i _ t (getElem?_eq_getElem hi) e2 ho
 exact ⟨a,dx,m,ih,(k.at_ i name _ (getElem?_eq_getElem hi) hn).trans (by rw [e]),za,na.2.2,⟨z,ne.2⟩,⟨z',ne.1⟩,r⟩
theorem dS.uniq {m':Str->Option Value}{dx':Addr}(i:dS P h c m dx a)(i':dS P h c m' dx' a)(y:Str):m y=m' y:=by
 obtain ⟨o,e,k,n,_⟩:=i
 obtain ⟨o',e',k',n',_⟩:=i'
 rw [e] at e';cases e'
 obtain rfl:dx=dx':=Option.some.inj (k.dict.symm.trans k'.dict)
 exact pI n.ns n'.ns
theorem ux {y:T}(w:bf P g s.heap J)(hs:ej c i V J=some t)(hn:(bX c)[i]?=some name)(o:dR P g s.heap c name t a)(hh:∀b,b≠a->h'.get? b=s.heap.get? b)(hy:aN g s.heap g h'->hY P g h' a y)(tk:Nat):aC g s g {s with heap:=h',toks:=tk}/\bf P g h' (J.fld i y):=by
 obtain ⟨e0,ho,ts,e1,e2⟩:=lW hs
 obtain ⟨dx,m,us,ih,z,z',ne,k,l,sh,ow,nn⟩:=w.self c ts e1
 obtain ⟨dx1,m1,ih1,e,za,na,_,_,_⟩:=o
 have hi:i < us.length:=by rw [l];exact (aj e2).1
 have hu:us[i]?=some (.ref a):=by
  have:=k.at_ i name _ (getElem?_eq_getElem hi) hn
  rw [ih.uniq ih1,e] at this
  rw [getElem?_eq_getElem hi];exact this.symm
 obtain ⟨a',q,_,nb,_⟩:=ow i _ t hu e2 ho
 cases q
 have kf:aN g s.heap g h':=⟨fun b f=>⟨f,fun o e=>(hh b fun q=>(w.Z a za).2 (q▸f)).trans e⟩,rfl⟩
 have r:=hy kf
 have lv:∀b,s.heap.get? b≠none->h'.get? b≠none:=fun b l=>by
  by_cases q:b=a
  .exact q▸r.live
  .rw [hh b q];exact l
 have kp:∀b,b≠a->∀o,s.heap.get? b=some o->h'.get? b=some o:=fun b q o e=>(hh b q).trans e
 refine ⟨⟨⟨h',tk,rfl⟩,fun b o e z=>kp b (fun q=>z (q▸za)) o e,fun b e=>?_,fun _ f=>f,fun _ f=>.inl f,fun _ f=>.inl f,rfl,rfl,rfl⟩,fun b o e=>⟨(w.base b o e).1,(kf.F b (w.base b o e).1).2 o (w.base b o e).2⟩,fun b f=>lv b (w.F b f),fun b z=>⟨lv b (w.Z b z).1,(w.Z b z).2⟩,fun b z=>⟨lv b (w.O b z).1,(w.O b z).2⟩,w.oo,
  ⟨let ⟨t,m,e⟩:=w.spot.1;⟨t,m,kp _ (Ne.symm na) _ e⟩,w.spot.2.1,fun q=>?_⟩,fun c' ts' e'=>?_⟩
 .by_cases q:s.heap.get? b=none
  .exact q
  .exact (lv b q e).elim
 .rw [Sg.fld,e1] at q;cases q
 .rw [Sg.fld,e1] at e'
  cases e'
  have set_:∀{j:Nat} {u:T},(ts.set i y)[j]?=some u->(j=i/\u=y)\/(j≠i/\ts[j]?=some u):=fun {j u} q=>by
   by_cases ji:j=i
   .subst ji
    rw [List.getElem?_set_self (aj e2).1] at q
    exact .inl ⟨rfl,(Option.some.inj q).symm⟩
   .rw [List.getElem?_set_ne (Ne.symm ji)] at q;exact .inr ⟨ji,q⟩
  refine ⟨dx,m,us,ih.mono (kp _ (Ne.symm nb.2.1)) (kp _ (Ne.symm nb.1)),z,z',ne,k,by rw [length_set];exact l,fun j u t' h1 h2 h3=>?_,fun j u t' h1 h2 h3=>?_,nn⟩
  .rcases set_ h2 with ⟨rfl,_⟩ | ⟨_,h2⟩
   .rw [ho] at h3;cases h3
   .exact (sh j u t' h1 h2 h3).mono kf
  .rcases set_ h2 with ⟨rfl,rfl⟩ | ⟨ji,h2⟩
   .rw [hu] at h1;cases h1
    exact ⟨a,rfl,za,nb,r⟩
   .obtain ⟨b,rfl,zb,nb',rb⟩:=ow j u t' h1 h2 h3
    exact ⟨b,rfl,zb,nb',rb.mono kf (kp b fun q=>ji (nn j i a (q▸h1) hu h3 ho))⟩
end
section
variable {P:Pg} {B Bc:bn} {C C' Ci:Ct} {fr:Bool} {n c i j:Nat} {A:Around} {env:Env} {g g' g2:Gh} {V:aY} {J J' J2:Sg} {s s' s2:Shared} {h h':Heap} {t:T} {x:Value} {ms:List (Str×Nat)} {name y:Str} {kd:NameKind} {m:Str->Option Value} {dx a:Addr} {us:List Value} {E:Value->Shared->Prop} {ts:List T} {np apos pos:Pos}
noncomputable def Gh.bor (g:Gh):Gh:={g with Z:=fun a=>a=g.sp}
theorem Bv (g:Gh)(h:Heap):aN g h g.bor h:=⟨fun _ f=>⟨f,fun _ e=>e⟩,rfl⟩
theorem At.bor (X:At P B C n A env g V J s):At P B C n A env g.bor V ⟨J.spot,none⟩ s:=
 have hz:∀a,g.bor.Z a->g.Z a:=fun a q=>by rw [show a=g.sp from q];exact X.g.spot.2.1
 ⟨X.good,X.call,X.room,X.env.move (Bv g _) rfl rfl (fun _ _ _ e=>e) fun a ha=>⟨(X.env.own a ha).1,(X.env.own a ha).2.1,fun q=>(X.env.own a ha).2.2.1 (hz a q)⟩,
  X.g.base,X.g.F,fun a z=>X.g.Z a (hz a z),fun a q=>⟨(X.g.O a q).1,(X.g.O a q).2.1,fun z=>(X.g.O a q).2.2 (hz a z)⟩,X.g.oo,⟨X.g.spot.1,rfl,fun _ _ q=>q⟩,fun _ _ q=>nomatch q⟩
theorem rQ (w:bf P g s.heap J)(p:aC g.bor s g' s')(w':bf P g' s'.heap J'):aC g s {g' with Z:=g.Z} s'/\bf P {g' with Z:=g.Z} s'.heap ⟨J'.spot,J.self⟩:=by
 have sp:g'.sp=g.sp:=p.sp
 have so:g'.o=g.o:=p.o
 have q:aC g s {g' with Z:=g.Z} s':=⟨p.st,fun a o e z=>p.keep a o e fun q=>z (by rw [show a=g.sp from q];exact w.spot.2.1),p.back,p.F,p.Fn,fun _ z=>.inl z,p.o,p.sp,p.sa⟩
 have lv:∀a,s.heap.get? a≠none->s'.heap.get? a≠none:=fun a l e=>l (p.back a e)
 have nf:∀a,s.heap.get? a≠none->¬g.F a->¬g'.F a:=fun a l f q=>(p.Fn a q).elim f l
 have oo:∀a,({g' with Z:=g.Z}:Gh).O a->g.O a:=fun a ⟨i,q⟩=>⟨i,so▸q⟩
 exact ⟨q,w'.base,w'.F,fun a z=>⟨lv a (w.Z a z).1,nf a (w.Z a z).1 (w.Z a z).2⟩,fun a o=>have o:=w.O a (oo a o);⟨lv a o.1,nf a o.1 o.2.1,o.2.2⟩,fun i j a h1 h2=>w.oo i j a (so▸h1) (so▸h2),⟨w'.spot.1,by rw [show ({g' with Z:=g.Z}:Gh).sp=g.sp from sp];exact w.spot.2.1,fun e a z=>(w.spot.2.2 e a z).trans sp.symm⟩,
  fun c ts e=>(w.self c ts e).mono' (q.k w) (fun a n z=>⟨z,fun o e=>p.keep a o e n⟩) p.sa⟩
theorem CJ {e:Expr}{pq:PE}{K:PK T}{Q:Value->Shared->Prop}(h:aq P B C e pq (RV P))(X:At P B C n A env g V J s)(of:dR P g s.heap c name t a)(hb:pq (P.cx n) V ⟨J.spot,none⟩ (fun v J'=>K v ⟨J'.spot,J.self⟩)≠.bad)
  (hq:∀x s' g' v J',pq (P.cx n) V ⟨J.spot,none⟩ (fun v J'=>K v ⟨J'.spot,J.self⟩)=K v J'->aC g s g' s'->bf P g' s'.heap J'->J'.self=J.self->dR P g' s'.heap c name t a->Rp P g' s'.heap v x->Q x s'):wpAny P.M A (eval e env) Q E s:=
 h n A env g.bor V ⟨J.spot,none⟩ s _ Q E X.bor hb fun x s' g' v J' e p w r=>
  have ⟨p',w'⟩:=rQ X.g p w
  hq x s' {g' with Z:=g.Z} v ⟨J'.spot,J.self⟩ e p' w' rfl (of.keep (p'.k X.g) p'.sa fun a n z=>⟨z,fun o e=>p.keep a o e n⟩) (Rp.mono (g:=g') (h:=s'.heap) (g':={g' with Z:=g.Z}) ⟨fun _ f=>⟨f,fun _ e=>e⟩,rfl⟩ r)
theorem mL {Q:Value->Shared->Prop}(O:bj P c ms)(hn:(bX c)[i]?=some name)(ht:B.tab[0]?=some (some (y,kd)))(X:At P B C n A env g V J s)(hs:ej c i V J=some t)(hq:∀a,dR P g s.heap c name t a->Q (.ref a) {s with toks:=s.toks+1}):wpAny P.M A (eval (.Attribute (.Name y np) name pos) env) Q E s:=by
 obtain ⟨v,va,q⟩:=X.env.var 0 _ _ ht (lW hs).1
 cases q.self
 obtain ⟨a,o⟩:=wN X.g hn hs
 obtain ⟨dx,m,ih,e,_⟩:=id o
 exact tB rfl (fun _ _=>rfl) (bq X ht va (kO O (mem_of_getElem? hn) X.g.bs ih e rfl (hq a o)))
theorem aq.fld (O:bj P c ms)(hn:(bX c)[i]?=some name)(ht:B.tab[0]?=some (some (y,kd))):aq P B C (.Attribute (.Name y np) name pos) (pE c i) (RY P):=fun n A env g V J s k Q E X hb hq=>by
 obtain ⟨t,e⟩:=cf hb
 exact mL O hn ht X e fun a o=>hq _ _ g t J (by rw [pE,e];rfl) (.toks g s _) X.g o.y
theorem aq.f2 {ie:Expr}{pq:PE}{F:T->T->Option T}(O:bj P c ms)(hn:(bX c)[i]?=some name)(ht:B.tab[0]?=some (some (y,kd)))(o:qw P (yY P (.Attribute (.Name y np) name apos) ie) F (RV P))(h:aq P B C ie pq (RV P)):aq P B C (.Subscript (.Attribute (.Name y np) name apos) ie pos) (Cg c i F pq) (RV P):=fun n A env g V J s k Q E X hb hq=>by
 unfold Cg at hb hq
 cases e0:ej c i V J with
 |none=>rw [e0] at hb;exact absurd rfl hb
 |some t=>
  rw [e0] at hb hq
  refine Subscript_ (mL O hn ht X e0 fun a of=>CJ (K:=fun v J=>up (F t v) J k) h (X.post (.toks g s _) X.g) of hb fun x s' g' v J' e p w hσ of' r=>?_)
  obtain ⟨u,e'⟩:=cf fun q=>hb (e.trans q)
  exact o A env g' J' s' _ x t v u Q E X.rm w of'.y (.inl r) e' fun z s'' g'' p' w' r'=>hq z s'' g'' u J' (e.trans (by rw [e'];rfl)) ((aC.toks g s _).trans (p.trans p')) w' r'
theorem aL.fap {e:Expr}{ap' cpos:Pos}{pe:PE}(O:bj P c ms)(hn:(bX c)[i]?=some name)(ht:B.tab[0]?=some (some (y,kd)))(hbase:∀env,attributeBase (.Attribute (.Name y np) name ap') (ofString "append") env (eval (.Attribute (.Name y np) name ap') env)=eval (.Attribute (.Name y np) name ap') env)(hline:(apos.endLine==cpos.line)=true)
  (htrees:∀env,backTo cpos (starEach [e] env)=[(false,eval e env)])(hw:∀env,swapsWith (.Call (.Attribute (.Attribute (.Name y np) name ap') (ofString "append") apos) [e] [] cpos) none pos.line env=pure false)(h:aq P B C e pe (RV P)):
  aL P B C fr C (.Expr (.Call (.Attribute (.Attribute (.Name y np) name ap') (ofString "append") apos) [e] [] cpos) pos) (qX c i pe):=fun n A env g V J s k Q E X hb hq hr=>by
 show wpAny P.M A (exec _ env) Q E s
 rw [exec_Expr env _ pos (by simp [interactive,X.fn]) (hw env)]
 unfold qX at hb hq
 cases e0:ej c i V J with
 |none=>rw [e0] at hb;exact absurd rfl hb
 |some t=>
  rw [e0] at hb hq
  have hk:=k6 hb
  simp only [hk,cond_true] at hb hq
  refine wpAny_bind (wpAny_standAt (wpAny_bind (iY mD hbase hline htrees (mL O hn ht X e0 fun a of=>⟨uj of.y hk,CJ (K:=fun v J=>up (dC t v) J fun y J=>k V (J.fld i y)) h (X.post (.toks g s _) X.g) of hb fun x s' g' v J' e p w hσ of' r=>?_⟩))))
  obtain ⟨u,e'⟩:=cf fun q=>hb (e.trans q)
  refine kQ A g' J' s' a x t v u _ _ X.rm w of'.o r e' fun h' tk hs hy=>wpAny_dropValue ?_
  obtain ⟨pS,wS⟩:=ux w (lV hσ e0) hn of' hs hy tk
  have pA:=(aC.toks g s _).trans (p.trans pS)
  exact hq _ _ V _ (e.trans (by rw [e'];rfl)) pA.toS (X.post pA wS)
theorem aL.fput {ie e:Expr}{ps:Pos}{pq pe:PE}(O:bj P c ms)(hn:(bX c)[i]?=some name)(ht:B.tab[0]?=some (some (y,kd)))(hw:∀env,swapsWith e (some (.Subscript (.Attribute (.Name y np) name apos) ie ps)) pos.line env=pure false)(h2:aq P B C ie pq (RV P))(h3:aq P B C e pe (RV P)):
  aL P B C fr C (.Assign [.Subscript (.Attribute (.Name y np) name apos) ie ps] e pos) (qW c i pq pe):=fun n A env g V J s k Q E X hb hq hr=>by
 refine wpAny_Assign_Subscript (h3 n A env g V J s _ _ E X hb fun z s₁ g₁ v J1 e1 p1 w1 r1=>?_) (hw env)
 have X1:=X.post p1 w1
 have hb1:=fun q=>hb (e1.trans q)
 have e1:qW c i pq pe (P.cx n) V J k=_:=e1
 cases e0:ej c i V J1 with
 |none=>simp only [e0] at hb1;exact (hb1 trivial).elim
 |some t=>
  simp only [e0] at hb1 e1
  refine mL O hn ht X1 e0 fun a of=>CJ (K:=fun H J=>up (er t H v) J fun y J=>k V (J.fld i y)) h2 (X1.post (.toks g₁ s₁ _) w1) of hb1 fun x s' g' H J' e p w hσ of' r=>?_
  obtain ⟨u,e'⟩:=cf fun q=>hb1 (e.trans q)
  have p2:=(aC.toks g₁ s₁ _).trans p
  refine tY A g' J' s' a x z t H v u _ _ X.rm w of'.o (.inl r) (Rp.mono (p2.k w1) r1) e' fun h' tk hs hy=>?_
  obtain ⟨pS,wS⟩:=ux w (lV hσ e0) hn of' hs hy tk
  have pA:=p1.trans (p2.trans pS)
  exact hq _ _ V _ (e1.trans (e.trans (by rw [e'];rfl))) pA.toS (X.post pA wS)
end
section
variable {P:Pg} {B Bc:bn} {C C' Ci:Ct} {fr:Bool} {n c i j:Nat} {A:Around} {env:Env} {g g' ga:Gh} {V:aY} {J J' J2:Sg} {s s' s2:Shared} {h h':Heap} {t:T} {x:Value} {ms:List (Str×Nat)} {name y:Str} {kd:NameKind} {m:Str->Option Value} {dx a:Addr} {us:List Value} {E:Value->Shared->Prop} {ts:List T} {np apos pos:Pos}
theorem tx {Q:Unit->Shared->Prop}(O:bj P c ms)(hn:name∈bX c)(w:bf P g s.heap J)(z:g.Z a)(ih:dS P s.heap c m dx a)(k:si c m us)(hq:∀h' tk,dS P h' c (fun y=>if y=name then some x else m y) dx a->(∀b o,b≠dx->s.heap.get? b=some o->h'.get? b=some o)->Q () {s with heap:=h',toks:=tk}):wpAny P.M A (setAttr (.ref a) name x) Q E s:=by
 obtain ⟨N,mN,K,g1,g2,g3,g4,g5⟩:=O
 obtain ⟨nm,q,bs',sn,sub,col,dd,k0,k1,k2,k3,k5,hC⟩:=K.obj
 have hxC:a≠P.cls c:=fun q=>(w.Z a z).2 (q▸(w.base _ _ hC).1)
 obtain ⟨o,e,ko,nn,ne⟩:=id ih
 refine store_attr (h:=s.heap) (ns:=bX c) PySem.F.store_object (w.bs _ _ hC) (K.keeps w.bs).ns g3 (g4 name hn).1 (g4 name hn).2 hxC ih.inst (fun h3 tk' I' hk hsame=>?_) (fun y hy=>?_) ?_
 .obtain ⟨oa,z1,z2,z3,z4,z5⟩:=hsame o e
  have hd:=z5 dx ko.dict
  have:oa=o:=by
   have kd:=ko.dict
   obtain ⟨c1,c2,c3,c4⟩:=oa
   obtain ⟨d1,d2,d3,d4⟩:=o
   simp only at z2 z3 z4 hd kd
   rw [z2,z3,z4,hd,kd]
  subst this
  obtain ⟨o',y1,_,_,y4⟩:=I'
  rw [z1] at y1;cases y1
  rcases y4 with ⟨q,_⟩ | ⟨dz,q,_,n'⟩
  .rw [hd] at q;cases q
  .rw [hd] at q;cases q
   refine hq h3 tk' ⟨oa,z1,ko,n',ne⟩ fun b o' nb e'=>?_
   by_cases hba:b=a
   .subst hba;rw [e] at e';cases e';exact z1
   .exact hk b o' hba (fun o0 d0 eb ed=>by rw [e] at eb;cases eb;rw [hd] at ed;cases ed;exact nb) e'
 .by_cases q:y∈bX c
  .exact q
  .exact (hy (k.no y q)).elim
 .unfold bX;split<;>decide
theorem AP (c:Nat):(bX c).Nodup:=by unfold bX;split<;>decide
theorem qK {α Y:Type}{us:List α}{ts:List Y}{x u:α}{t v:Y}{j:Nat}(l:us.length=ts.length)(h1:(us++[x])[j]?=some u)(h2:(ts++[t])[j]?=some v):(us[j]?=some u/\ts[j]?=some v)\/(j=ts.length/\u=x/\v=t):=by
 by_cases q:j < us.length
 .rw [getElem?_append_left q] at h1
  rw [getElem?_append_left (l▸q)] at h2
  exact .inl ⟨h1,h2⟩
 .have q:=bW q
  rw [getElem?_append_right q] at h1
  rw [getElem?_append_right (l▸q)] at h2
  have e:j - us.length=0:=by
   have:=(aj h1).1
   rw [length_singleton] at this;exact lt_one_iff.mp this
  rw [e] at h1;rw [<-l,e] at h2
  cases h1;cases h2
  exact .inr ⟨(le_antisymm (Nat.sub_eq_zero_iff_le.mp e) q).trans l,rfl,rfl⟩
theorem sD {Z':Addr->Prop}{Q:Unit->Shared->Prop}(O:bj P c ms)(hn:(bX c)[i]?=some name)(w:bf P g s.heap J)(es:J.self=some (c,ts))(hl:ts.length=i)(hZ:∀a,g.Z a->Z' a)(hZ':∀a,Z' a->g.Z a\/(s.heap.get? a≠none/\¬g.F a/\¬g.Z a/\¬g.O a))
  (h0:gQ c i=false->Rp P g s.heap t x)(h1:gQ c i=true->∃a,x=.ref a/\Z' a/\¬g.Z a/\hY P g s.heap a t)
  (hq:∀h' tk,(∀b o,¬g.Z b->s.heap.get? b=some o->h'.get? b=some o)->(∀b,h'.get? b=none->s.heap.get? b=none)->bf P {g with Z:=Z'} h' (J.push t)->Q () {s with heap:=h',toks:=tk}):wpAny P.M A (setAttr (.ref g.sa) name x) Q E s:=by
 obtain ⟨dx,m,us,ih,z,z',ne,k,l,sh,ow,nn⟩:=w.self c ts es
 refine tx O (mem_of_getElem? hn) w z ih k fun h' tk ih' kp=>?_
 have ld:h'.get? dx≠none:=let ⟨_,_,_,n,_⟩:=ih';let ⟨_,_,_,e,_⟩:=n;ao e
 have bk:∀b,h'.get? b=none->s.heap.get? b=none:=fun b e=>by
  cases q:s.heap.get? b with
  |none=>rfl
  |some o=>
   by_cases hb:b=dx
   .exact (ld (hb▸e)).elim
   .exact (ao (kp b o hb q) e).elim
 have lv:∀b,s.heap.get? b≠none->h'.get? b≠none:=fun b l e=>l (bk b e)
 have kz:∀b,¬g.Z b->∀o,s.heap.get? b=some o->h'.get? b=some o:=fun b q o e=>kp b o (fun e=>q (e▸z')) e
 have kf:aN g s.heap {g with Z:=Z'} h':=⟨fun b f=>⟨f,kz b fun q=>(w.Z b q).2 f⟩,rfl⟩
 refine hq h' tk (fun b o q e=>kz b q o e) bk ⟨fun b o e=>⟨(w.base b o e).1,(kf.F b (w.base b o e).1).2 o (w.base b o e).2⟩,fun b f=>lv b (w.F b f),fun b q=>(hZ' b q).elim (fun q=>⟨lv b (w.Z b q).1,(w.Z b q).2⟩) fun q=>⟨lv b q.1,q.2.1⟩,fun b q=>⟨lv b (w.O b q).1,(w.O b q).2.1,fun q'=>(hZ' b q').elim (w.O b q).2.2 fun e=>e.2.2.2 q⟩,w.oo,
  ⟨let ⟨t,n,e⟩:=w.spot.1;⟨t,n,kp _ _ (Ne.symm ne.1) e⟩,hZ _ w.spot.2.1,fun q=>?_⟩,fun c' ts' e'=>?_⟩
 .rw [Sg.push,es] at q;cases q
 .rw [Sg.push,es] at e'
  cases e'
  have new:∀a,x=.ref a->hY P g s.heap a t->¬g.Z a->a≠dx/\a≠g.sa/\a≠g.sp:=fun a _ _ q=>⟨fun e=>q (e▸z'),fun e=>q (e▸z),fun e=>q (e▸w.spot.2.1)⟩
  refine ⟨dx,_,us++[x],ih',hZ _ z,hZ _ z',ne,⟨fun y hy=>?_,fun j y u q1 q2=>?_⟩,by rw [List.length_append,List.length_append,l];rfl,fun j u v q1 q2 q3=>?_,fun j u v q1 q2 q3=>?_,fun i' j a q1 q2 q3 q4=>?_⟩
  .rw [if_neg fun e:y=name=>hy (e▸mem_of_getElem? hn)];exact k.no y hy
  .have q:j < us.length\/(j=us.length/\u=x):=by
    by_cases q:j < us.length
    .exact .inl q
    .rw [getElem?_append_right (bW q)] at q1
     have:=(aj q1).1
     rw [length_singleton] at this
     rw [lt_one_iff.mp this] at q1
     exact .inr ⟨le_antisymm (Nat.sub_eq_zero_iff_le.mp (lt_one_iff.mp this)) (bW q),(Option.some.inj q1).symm⟩
   rcases q with q | ⟨q,rfl⟩
   .rewrite [if_neg fun e:y=name=>?_]
    .rw [getElem?_append_left q] at q1;exact k.at_ j y u q1 q2
    .subst e
     have:=(List.getElem?_inj (aj q2).1 (AP c)).mp (q2.trans hn.symm)
     exact Nat.lt_irrefl _ (Nat.lt_of_lt_of_eq q (l.trans (hl.trans this.symm)))
   .rw [q.trans (l.trans hl),hn] at q2
    cases q2;exact if_pos rfl
  .rcases qK l q1 q2 with ⟨q1,q2⟩ | ⟨q,rfl,rfl⟩
   .exact (sh j u v q1 q2 q3).mono kf
   .rw [q,hl] at q3;exact (h0 q3).mono kf
  .rcases qK l q1 q2 with ⟨q1,q2⟩ | ⟨q,rfl,rfl⟩
   .obtain ⟨a,e,za,na,r⟩:=ow j u v q1 q2 q3
    exact ⟨a,e,hZ a za,na,r.mono kf fun o e=>kp a o na.1 e⟩
   .rw [q,hl] at q3
    obtain ⟨a,e,za,na,r⟩:=h1 q3
    have nb:=new a e r na
    exact ⟨a,e,za,nb,r.mono kf fun o e=>kp a o nb.1 e⟩
  .have get:∀{j:Nat} {u:Value},(us++[x])[j]?=some u->∃v,(ts++[t])[j]?=some v:=fun {j u} q=>by
    have:=(aj q).1
    rw [List.length_append,l] at this
    exact ⟨_,getElem?_eq_getElem (l:=ts++[t]) (by rw [List.length_append];exact this)⟩
   obtain ⟨v1,r1⟩:=get q1
   obtain ⟨v2,r2⟩:=get q2
   rcases qK l q1 r1 with ⟨p1,p2⟩ | ⟨p1,p2,p3⟩
   .rcases qK l q2 r2 with ⟨p3,p4⟩ | ⟨p3,p4,p5⟩
    .exact nn i' j a p1 p3 q3 q4
    .rw [p3,hl] at q4
     obtain ⟨b,e,_,nb,_⟩:=h1 q4
     rw [e] at p4;cases p4
     obtain ⟨b',e',zb,_,_⟩:=ow i' _ v1 p1 p2 q3
     cases e';exact (nb zb).elim
   .rcases qK l q2 r2 with ⟨p4,p5⟩ | ⟨p4,p5,p6⟩
    .rw [p1,hl] at q3
     obtain ⟨b,e,_,nb,_⟩:=h1 q3
     rw [e] at p2;cases p2
     obtain ⟨b',e',zb,_,_⟩:=ow j _ v2 p4 p5 q4
     cases e';exact (nb zb).elim
    .rw [p1,p4]
theorem yP (h:Bz c i V J=true):b9 V 0=some .self/\∃ts,J.self=some (c,ts)/\ts.length=i:=by
 obtain ⟨h1,h2⟩:=ah h
 obtain ⟨e0,ts,e1⟩:=pU h1
 rw [e1] at h2
 exact ⟨e0,ts,e1,eq_of_beq_eq_true h2⟩
theorem aL.saG {e:Expr}{pe:PE}{R:RR Value T}(O:bj P c ms)(hn:(bX c)[i]?=some name)(ht:B.tab[0]?=some (some (y,kd)))(hw:∀env,swapsWith e (some (.Attribute (.Name y np) name apos)) pos.line env=pure false)(h:aq P B C e pe R)
  (hR:∀h g h' t x,R h g h' t x->(∀b,g.Z b->True)->∃N:Addr->Prop,(∀a,N a->h.get? a=none/\h'.get? a≠none/\¬g.F a/\¬g.Z a/\¬g.O a)/\(gQ c i=false->Rp P g h' t x)/\(gQ c i=true->∃a,x=.ref a/\N a/\hY P g h' a t)):
  aL P B C fr C (.Assign [.Attribute (.Name y np) name apos] e pos) (sM c i pe):=fun n A env g V J s k Q E X hb hq hr=>by
 refine plainObj_wpAny_Assign_Attribute (h n A env g V J s _ _ E X hb fun x s₁ g₁ t J1 ec pa w1 rb=>?_) (hw env)
 have X1:=X.post pa w1
 have ha:=k6 fun q=>hb (ec.trans q)
 obtain ⟨e0,ts,e2,e3⟩:=yP ha
 obtain ⟨v,va,q⟩:=X1.env.var 0 _ _ ht e0
 cases q.self
 obtain ⟨N,n1,n2,n3⟩:=hR _ _ _ _ _ rb fun _ _=>trivial
 refine bq X1 ht va (sD (Z':=fun b=>g₁.Z b\/N b) O hn w1 e2 e3 (fun _=>.inl) (fun b z=>z.imp_right fun q=>(n1 b q).2) n2 (fun q=>let ⟨a,e,na,r⟩:=n3 q;⟨a,e,.inr na,(n1 a na).2.2.2.1,r⟩) fun h' tk kp bk w'=>?_)
 have pb:aC g s {g₁ with Z:=fun b=>g₁.Z b\/N b} {s₁ with heap:=h',toks:=tk}:=⟨St.trans pa.st ⟨h',tk,rfl⟩,fun b o e z=>kp b o (fun q=>(pa.Zn b q).elim z (ao e)) (pa.keep b o e z),fun b e=>pa.back b (bk b e),pa.F,pa.Fn,fun b z=>z.elim (pa.Zn b) fun q=>.inr (n1 b q).1,pa.o,pa.sp,pa.sa⟩
 exact hq _ _ V _ (ec.trans (by rw [ha])) pb.toS (X.post pb w')
theorem aL.sa {e:Expr}{pe:PE}(O:bj P c ms)(hn:(bX c)[i]?=some name)(ho:gQ c i=false)(ht:B.tab[0]?=some (some (y,kd)))(hw:∀env,swapsWith e (some (.Attribute (.Name y np) name apos)) pos.line env=pure false)(h:aq P B C e pe (RV P)):
  aL P B C fr C (.Assign [.Attribute (.Name y np) name apos] e pos) (sM c i pe):=
 .saG O hn ht hw h fun _ _ _ _ _ r _=>⟨fun _=>False,fun _ q=>q.elim,fun _=>r,fun q=>by rw [ho] at q;cases q⟩
theorem aL.saN {e:Expr}{pe:PE}(O:bj P c ms)(hn:(bX c)[i]?=some name)(ho:gQ c i=true)(ht:B.tab[0]?=some (some (y,kd)))(hw:∀env,swapsWith e (some (.Attribute (.Name y np) name apos)) pos.line env=pure false)(h:aq P B C e pe (RN P)):
  aL P B C fr C (.Assign [.Attribute (.Name y np) name apos] e pos) (sM c i pe):=
 .saG O hn ht hw h fun _ _ _ _ _ r _=>let ⟨a,e,n,f,z,o,r⟩:=r;⟨fun b=>b=a,fun b q=>by rw [q];exact ⟨n,r.live,f,z,o⟩,(fun q=>by rw [ho] at q;cases q),fun _=>⟨a,e,rfl,r⟩⟩
theorem n5.own (hh:A.handled=none){I l:Addr}{vs:Array Value}{m:Nat}:n5 P A I ts [I] [l] (fun i g h=>h.IsListIter I l i/\h.get? l=some (aX vs m)/\aO P g h ts vs.toList) where
 self i g s Q E st:=wpAny_pyIter_listiter st.1
 stay i g h g' h' st k ki:=by
  obtain ⟨⟨o,e,r⟩,e',q⟩:=st
  exact ⟨⟨o,ki I mem_cons_self o e,r⟩,ki l (mem_cons_of_mem _ mem_cons_self) _ e',q.mono k⟩
 here i g h st a ha:=by
  obtain ⟨⟨o,e,_⟩,e',_⟩:=st
  rcases an ha with rfl |ha
  .exact ao e
  .rw [aa ha];exact ao e'
 item i t g s Q E hi st hF hq:=by
  obtain ⟨it,e',q⟩:=st
  obtain ⟨u,hu,r⟩:=q.get hi
  have nl:l≠I:=fun q=>by
   obtain ⟨o,e,r,_⟩:=it
   rw [<-q,e'] at e;cases e;exact absurd (Value.type.inj r) (by decide)
  refine wpAny_pyNext_list_item it ⟨_,e',rfl,m,rfl⟩ (by rw [<-Array.getElem?_toList];exact hu) fun h' it' hs=>?_
  have kf:=sY hs.2 (hF I (ay rfl))
  exact hq u h' s.toks (gS hs.2) (r.mono kf) ⟨it',(hs.2 l nl).trans e',q.mono kf⟩
 done g s Q E st hq:=by
  obtain ⟨it,e',q⟩:=st
  exact wpAny_pyNext_list_end hh it ⟨_,e',rfl,m,rfl⟩ (Array.getElem?_eq_none (le_of_eq q.size)) fun h' hs=>hq h' s.toks fun b o e hb=>hs b o (fun q=>hb (ay q)) e
theorem aq.compF {elt target:Expr}{scope:Scope}{xc:Option Str}{pe:PE}(O:bj P c ms)(hn:(bX c)[j]?=some name)(ht:B.tab[0]?=some (some (y,kd)))(K:dq B Bc scope i xc)(hi:C.U.any (Nat.beq i)=true)(hc:ch C i false Ci=true)(hb:jS P (vW P Bc C Ci target (bz i) (j1 xc)))(hel:aq P Bc Ci elt pe (RV P))(hs:∀env x,foldedSetIterable (.Attribute (.Name y np) name apos) env x=pure x):
  aq P B C (.ListComp elt [⟨target,.Attribute (.Name y np) name apos,[],0⟩] scope pos) (pG c j (bz i) pe) (RN P):=fun n A env g V J s k Q E X hbad hq=>by
 unfold pG at hbad hq
 cases e0:o1 (ej c j V J) fG with
 |none=>rw [e0] at hbad;exact absurd rfl hbad
 |some xs=>
  rw [e0] at hbad hq
  obtain ⟨t,e1,e2⟩:=ax e0
  cases fg e2
  show wpAny P.M A (eval _ env) Q E s
  rw [eval_ListComp]
  refine ni (pi:=fun _ _ J k=>k xs J) (g:=g.bor) (J:=⟨J.spot,Option.none⟩) (k:=fun v J'=>k v ⟨J'.spot,J.self⟩) K (iu hi) (dF hc).1 (fun k' Q' E' Xb _ hq'=>?_) dD.nil .all trivial hel.j hs X.bor hbad fun D L s' g' ys J' m e p w n1 n2 ac hL nL hDL hn=>⟨m,hn,fun h' hsb=>?_⟩
  .refine mL O hn ht X e1 fun a of=>?_
   obtain ⟨vs,n',ea,la,ra⟩:=of.o
   refine wpAny_pyIter_list (s:={s with toks:=s.toks+1}) ⟨_,ea,rfl,n',rfl⟩ ?_
   obtain ⟨p',w',v⟩:=sT (X:=vq "list_iterator" a) (tk:=s.toks+1) (s₁:={s with toks:=s.toks+1}) Xb.g (.toks g.bor s _)
   obtain ⟨_,_,_,_,za,na,_,_,_⟩:=of
   exact hq' _ g.bor xs _ _ _ [a] _ rfl p' w' (hb.make (n5.own X.room.2.2)) ⟨⟨_,bD _,rfl,rfl⟩,bM s _ _ _ ea,(ra.mono (Bv g _)).mono ((aC.push (vq "list_iterator" a) 0).k Xb.g)⟩ v (fun b hb=>by rw [aa hb];exact ⟨(X.g.Z a za).2,na,fun q=>(X.g.O a q).2.2 za,fun q=>(X.env.own a q).2.2.1 za⟩) la
  .obtain ⟨p',w'⟩:=rQ X.g p w
   have nz:∀{b},s.heap.get? b=Option.none->¬g.Z b:=fun e z=>(X.g.Z _ z).1 e
   obtain ⟨w'',kf⟩:=w'.scrap ⟨nL.1,nz hL,nL.2.2⟩ hsb.2
   exact hq _ _ _ _ ⟨J'.spot,J.self⟩ e (p'.scrap hL hsb.2) w'' (AX.scrap (g:={g' with Z:=g.Z}) ⟨D,rfl,n1,n2.1,nz n1,n2.2.2,hY.mono (t:=.lst ys) (g:=g') (h:=s'.heap) (g':={g' with Z:=g.Z}) ⟨fun _ f=>⟨f,fun _ e=>e⟩,rfl⟩ (fun _ e=>e) ac⟩ kf hDL hsb.2)
theorem BV (w:bf P g h J):hY P g h g.sp (.lst [.int J.spot]):=let ⟨t,n,e⟩:=w.spot.1;⟨_,n,e,(show 1<=lim by decide),_,_,rfl,⟨t,rfl⟩,rfl⟩
theorem oN (h:pT V i=true):b9 V i=some .spot:=by
 unfold pT at h
 cases e:b9 V i with
 |none=>rw [e] at h;cases h
 |some t=>
  rw [e] at h
  cases t<;>first |rfl |cases h
theorem aq.spot {kk:Nat}{cp:Pos}(hv:j0 C i=true)(ht:B.tab[i]?=some (some (y,kd))):aq P B C (.Subscript (.Name y np) (.Constant (.int 0) kk cp) pos) (oG i) (RV P):=fun n A env g V J s k Q E X hb hq=>by
 have h1:=k6 hb
 obtain ⟨u,va,q⟩:=X.env.var i _ _ ht (oN h1)
 obtain rfl:u=.ref g.sp:=je hv q
 refine Subscript_ (bq X ht va (wpAny_Constant_int (xh (fun _ _=>rfl) A env g J _ _ _ (.lst [.int J.spot]) (.int 0) (.int J.spot) Q E X.rm X.g (.inr ⟨_,rfl,BV X.g⟩) (.inl ⟨_,rfl⟩) rfl fun x s' g' p w r=>hq x s' g' _ J (by unfold oG;rw [h1]) ((aC.toks g s _).trans p) w r)))
theorem wC {prog:Program}{w:World}{l:Addr}{x v:Value}{t:Tok}{k:Int}(hk:k=0){Q:Unit->Shared->Prop}(hl:IsL s.heap l #[x] n)(hQ:Q () {s with heap:=s.heap.update l (Obj.mapSeq (·.setIfInBounds 0 v))}):wpAny (model prog w) A (setItem (.ref l) (.int k t) v) Q E s:=by
 have hT:s.TypeIs (.ref l) "list":=⟨_,hl,rfl⟩
 unfold setItem
 try with_reducible refine wpAny_holding ?_
 first |refine wpAny_bind (wpAny_pure ?_) |skip
 refine wpAny_bind (wpAny_sequenceKey hT (by decide) ?_)
 refine wpAny_bind (wpAny_callSpecial?_slot (name:=ofString "__setitem__") hT slot_list_setitem (wpAny_call_entry slot_list_setitem hT entry_list_setitem ?_ (args_list_setitem _ _ _)))
 show wpAny _ _ (Builtin.List.listSubscript? (.int k t) >>=_) _ _ s
 refine wpAny_bind (wpAny_listSubscript_int (fitsIndex_of (Int.le_of_eq hk.symm) (hk▸by decide)) ?_)
 subst hk
 show wpAny _ _ ((seqItemAt l 0 >>=fun r=>pure (r.map (0,·))) >>=_) _ _ s
 refine wpAny_bind (wpAny_bind (wpAny_seqItemAt hl rfl (wpAny_pure ?_)))
 show wpAny _ _ (setSeqItemAt l 0 v >>=_) _ _ s
 refine wpAny_bind (wpAny_setSeqItemAt hl rfl ?_)
 first
  |exact wpAny_bind (wpAny_pure (wpAny_pure ⟨.none,rfl,wpAny_pure hQ⟩))
  |exact wpAny_pure ⟨.none,rfl,wpAny_pure hQ⟩
theorem wB {v:Int}(w:bf P g s.heap J)(hs:∀b,b≠g.sp->h'.get? b=s.heap.get? b){t:Tok}{n:Nat}(e:IsL h' g.sp #[.int v t] n)(tk:Nat):aC g s g {s with heap:=h',toks:=tk}/\bf P g h' ⟨v,J.self⟩:=by
 have zs:=w.spot.2.1
 have kf:aN g s.heap g h':=⟨fun b f=>⟨f,fun o e=>(hs b fun q=>(w.Z _ zs).2 (q▸f)).trans e⟩,rfl⟩
 have lv:∀b,s.heap.get? b≠none->h'.get? b≠none:=fun b l=>by
  by_cases q:b=g.sp
  .exact q▸ao e
  .rw [hs b q];exact l
 refine ⟨⟨⟨h',tk,rfl⟩,fun b o e z=>(hs b fun q=>z (q▸zs)).trans e,fun b e=>?_,fun _ f=>f,fun _ f=>.inl f,fun _ f=>.inl f,rfl,rfl,rfl⟩,fun b o e=>⟨(w.base b o e).1,(kf.F b (w.base b o e).1).2 o (w.base b o e).2⟩,fun b f=>lv b (w.F b f),fun b z=>⟨lv b (w.Z b z).1,(w.Z b z).2⟩,fun b z=>⟨lv b (w.O b z).1,(w.O b z).2⟩,w.oo,⟨⟨t,n,e⟩,w.spot.2⟩,
  fun c ts e=>(w.self c ts e).mono' kf (fun b n z=>⟨z,fun o e=>(hs b n).trans e⟩) rfl⟩
 by_cases q:s.heap.get? b=none
 .exact q
 .exact (lv b q e).elim
theorem aL.spot {e:Expr}{kk:Nat}{cp ps:Pos}{pe:PE}(hv:j0 C i=true)(ht:B.tab[i]?=some (some (y,kd)))(hw:∀env,swapsWith e (some (.Subscript (.Name y np) (.Constant (.int 0) kk cp) ps)) pos.line env=pure false)(h:aq P B C e pe (RV P)):aL P B C fr C (.Assign [.Subscript (.Name y np) (.Constant (.int 0) kk cp) ps] e pos) (ju i pe):=fun n A env g V J s k Q E X hb hq hr=>by
 refine wpAny_Assign_Subscript (h n A env g V J s _ _ E X hb fun z s₁ g₁ v J1 ec pa w1 rb=>?_) (hw env)
 have X1:=X.post pa w1
 have hb1:=fun q=>hb (ec.trans q)
 have h1:=k6 hb1
 obtain ⟨u,va,q⟩:=X1.env.var i _ _ ht (oN h1)
 obtain rfl:u=.ref g₁.sp:=je hv q
 cases ev:iG v with
 |none=>simp only [h1,ev,cond_true] at hb1;exact (hb1 trivial).elim
 |some m=>
  cases nU ev
  obtain ⟨t,rfl⟩:=rb
  obtain ⟨t',n',sp⟩:=w1.spot.1
  refine bq X1 ht va (wpAny_Constant_int (wC rfl sp ?_))
  obtain ⟨pS,wS⟩:=wB (s:=s₁) w1 (Heap.SameBut.update s₁.heap g₁.sp (Obj.mapSeq (·.setIfInBounds 0 (.int m t)))).2 (IsL.update sp _) _
  exact hq _ _ V _ (ec.trans (by rw [h1];rfl)) (pa.trans pS).toS (X1.post pS wS)
end
section
variable {P:Pg} {B:bn} {C:Ct}
theorem y9 {M:Model}{A:Around}{E:Value->Shared->Prop}{s:Shared}{env:Env}{l m r:Expr}{o1 o2:CmpOp}{pos:Pos}{Q:Value->Shared->Prop}(hm:markedEach [o1,o2] [m,r] (evalEach [m,r] env)=[eval m env,eval r env])
  (h:wpAny M A (eval l env) (fun a s₁=>wpAny M A (eval m env) (fun b s2=>wpAny M A (compareOp o1 a b) (fun c s3=>∃t:Bool,c=.bool t/\(t=true->wpAny M A (eval r env) (fun d s4=>wpAny M A (compareOp o2 b d) Q E s4) E s3)/\(t=false->Q (.bool false) s3)) E s2) E s₁) E s):
  wpAny M A (eval (.Compare l [o1,o2] [m,r] pos) env) Q E s:=by
 rw [arm_eval_Compare,hm]
 refine wpAny_bind (wpAny_mono h (fun a s₁ hc=>?_) fun _ _ q=>q)
 show wpAny M A (do
  let rv <-holding [a] (eval m env)
  standAt pos
  let c <-holding [a,rv] (compareOp o1 a rv)
  release [a,rv] [c]
  if <-holding [c,rv] (truthy c) then compareChain pos rv [o2] [eval r env] else pure c) Q E s₁
 refine wpAny_bind (wpAny_holding (wpAny_mono hc (fun b s2 hd=>wpAny_bind (wpAny_standAt (wpAny_bind (wpAny_holding (wpAny_mono hd (fun c s3 he=>?_) fun _ _ q=>q))))) fun _ _ q=>q))
 obtain ⟨t,rfl,h4,h5⟩:=he
 refine wpAny_bind (wpAny_release (wpAny_bind (wpAny_holding (wpAny_truthy_bool ?_))))
 cases t with
 |true=>
  rw [if_pos rfl]
  show wpAny M A (do
   let rv <-holding [b] (eval r env)
   standAt pos
   operate [b,rv] (compareOp o2 b rv)) Q E s3
  exact wpAny_bind (wpAny_holding (wpAny_mono (h4 rfl) (fun d s4 h6=>wpAny_bind (wpAny_standAt (wpAny_operate' h6))) fun _ _ q=>q))
 |false=>rw [if_neg (by simp)];exact wpAny_pure (h5 rfl)
theorem lq {M:Model}{A:Around}{E:Value->Shared->Prop}{s:Shared}{env:Env}{l m r:Expr}{o1 o2:CmpOp}{pos:Pos}{whole:Sem Value}{Q:Bool->Shared->Prop}(hm:markedEach [o1,o2] [m,r] (evalEach [m,r] env)=[eval m env,eval r env])
  (h:wpAny M A (eval l env) (fun a s₁=>wpAny M A (eval m env) (fun b s2=>wpAny M A (compareOp o1 a b) (fun c s3=>∃t:Bool,c=.bool t/\(t=true->wpAny M A (eval r env) (fun d s4=>wpAny M A (compareOp o2 b d) (fun c s5=>wpAny M A (truthy c) Q E s5) E s4) E s3)/\(t=false->Q false s3)) E s2) E s₁) E s):
  wpAny M A (isTrue (.Compare l [o1,o2] [m,r] pos) env whole) Q E s:=by
 show wpAny M A (do testChain pos (<-eval l env) [o1,o2] (markedEach [o1,o2] [m,r] (evalEach [m,r] env))) Q E s
 rw [hm]
 refine wpAny_bind (wpAny_mono h (fun a s₁ hc=>?_) fun _ _ q=>q)
 show wpAny M A (do
  let rv <-holding [a] (eval m env)
  standAt pos
  let c <-holding [a,rv] (compareOp o1 a rv)
  release [a,rv] [c]
  if <-holding [c,rv] (truthy c) then testChain pos rv [o2] [eval r env] else pure false) Q E s₁
 refine wpAny_bind (wpAny_holding (wpAny_mono hc (fun b s2 hd=>wpAny_bind (wpAny_standAt (wpAny_bind (wpAny_holding (wpAny_mono hd (fun c s3 he=>?_) fun _ _ q=>q))))) fun _ _ q=>q))
 obtain ⟨t,rfl,h4,h5⟩:=he
 refine wpAny_bind (wpAny_release (wpAny_bind (wpAny_holding (wpAny_truthy_bool ?_))))
 cases t with
 |true=>
  rw [if_pos rfl]
  show wpAny M A (do
   let rv <-holding [b] (eval r env)
   standAt pos
   let c <-operate [b,rv] (compareOp o2 b rv)
   holding [c] (truthy c)) Q E s3
  exact wpAny_bind (wpAny_holding (wpAny_mono (h4 rfl) (fun d s4 h6=>wpAny_bind (wpAny_standAt (wpAny_bind (wpAny_operate' (wpAny_mono h6 (fun c s5 h7=>wpAny_holding h7) fun _ _ q=>q))))) fun _ _ q=>q))
 |false=>rw [if_neg (by simp)];exact wpAny_pure (h5 rfl)
noncomputable abbrev Dl (P:Pg)(l m r:Expr)(o1 o2:CmpOp):WP Bool:=fun A env Q E s=>wpAny P.M A (eval l env) (fun a s₁=>wpAny P.M A (eval m env) (fun b s2=>wpAny P.M A (compareOp o1 a b) (fun c s3=>∃t:Bool,c=.bool t/\(t=true->wpAny P.M A (eval r env) (fun d s4=>wpAny P.M A (compareOp o2 b d) (fun v s5=>∃u:Bool,v=.bool u/\Q u s5) E s4) E s3)/\(t=false->Q false s3)) E s2) E s₁) E s
theorem chain {l m r:Expr}{o1 o2:CmpOp}{pl pm pr:PE}{F G:T->T->Option Bool}(k1:jV P o1 F)(k2:jV P o2 G)(hl:aq P B C l pl (RX P))(hm:aq P B C m pm (RX P))(hr:aq P B C r pr (RX P)):cB P B C (Dl P l m r o1 o2) (mj F G pl pm pr) RQ:=
 hl.bind (N:=fun A env a Q E s₁=>wpAny P.M A (eval m env) (fun b s2=>wpAny P.M A (compareOp o1 a b) (fun c s3=>∃t:Bool,c=.bool t/\(t=true->wpAny P.M A (eval r env) (fun d s4=>wpAny P.M A (compareOp o2 b d) (fun v s5=>∃u:Bool,v=.bool u/\Q u s5) E s4) E s3)/\(t=false->Q false s3)) E s2) E s₁)
  (F:=fun c V k a J=>pm c V J fun b J=>match F a b with |some true=>pr c V J fun x J=>up (G b x) J k |some false=>k false J |none=>.bad) DG fun n A env g g₁ V J s s₁ x t k Q E p X r1 hb hq=>hm n A env g₁ V J s₁ _ _ E X hb fun y s2 ga u J2 ec p2 wb r2=>by
  have hb2:=fun q=>hb (ec.trans q)
  have rx:=ly.post X.g p2 r1
  cases ht:F t u with
  |none=>simp only [ht] at hb2;exact (hb2 trivial).elim
  |some c=>
   refine k1 A ga J2 s2 x y t u c _ _ X.rm wb rx.y (ly.y r2) ht fun tk=>⟨c,rfl,fun q=>?_,fun q=>?_⟩
   .subst q
    simp only [ht] at hb2 ec
    have pt:=aC.toks ga s2 tk
    refine hr n A env ga V J2 {s2 with toks:=tk} _ _ E ((X.post p2 wb).post pt wb) hb2 fun z s3 g3 v J3 ed p3 w3 r3=>?_
    obtain ⟨b,e'⟩:=cf fun q=>hb2 (ed.trans q)
    exact k2 A g3 J3 s3 y z u v b _ _ X.rm w3 (ly.post (s:={s2 with toks:=tk}) wb p3 r2).y (ly.y r3) e' fun tk'=>⟨b,rfl,hq b _ g3 b J3 (ec.trans (ed.trans (by rw [e'];rfl))) ((p2.trans pt).trans (p3.trans (.toks _ _ _))) w3 rfl⟩
   .subst q
    simp only [ht] at ec
    exact hq false _ ga false J2 ec (p2.trans (.toks _ _ _)) wb rfl
theorem bI.cmp2 {l m r:Expr}{o1 o2:CmpOp}{pos:Pos}{pl pm pr:PE}{F G:T->T->Option Bool}(k1:jV P o1 F)(k2:jV P o2 G)(hM:∀env,markedEach [o1,o2] [m,r] (evalEach [m,r] env)=[eval m env,eval r env])(hl:aq P B C l pl (RX P))(hm:aq P B C m pm (RX P))(hr:aq P B C r pr (RX P)):bI P B C (.Compare l [o1,o2] [m,r] pos) (mj F G pl pm pr):=
 (chain k1 k2 hl hm hr).map fun A env Q E s h=>lq (hM env) (wpAny_mono h (fun a s₁ h=>wpAny_mono h (fun b s2 h=>wpAny_mono h (fun c s3 ⟨t,e,h1,h2⟩=>⟨t,e,fun q=>wpAny_mono (h1 q) (fun d s4 h=>wpAny_mono h (fun v s5 ⟨u,e,h⟩=>by rw [e];exact wpAny_truthy_bool h) fun _ _ q=>q) fun _ _ q=>q,h2⟩) fun _ _ q=>q) fun _ _ q=>q) fun _ _ q=>q)
theorem aq.cmp2 {l m r:Expr}{o1 o2:CmpOp}{pos:Pos}{pl pm pr:PE}{F G:T->T->Option Bool}(k1:jV P o1 F)(k2:jV P o2 G)(hM:∀env,markedEach [o1,o2] [m,r] (evalEach [m,r] env)=[eval m env,eval r env])(hl:aq P B C l pl (RX P))(hm:aq P B C m pm (RX P))(hr:aq P B C r pr (RX P)):aq P B C (.Compare l [o1,o2] [m,r] pos) (pB (mj F G pl pm pr)) (RV P):=
 ((chain k1 k2 hl hm hr).bind (N:=fun A env b Q E s=>Q (.bool b) s) (F:=fun _ _ k b J=>k (.bool b) J) kH fun n A env g g₁ V J s s₁ x t k Q E p X r hb hq=>hq _ s₁ g₁ _ J rfl (.refl _ _) X.g (by cases r;rfl)).map fun A env Q E s h=>y9 (hM env) (wpAny_mono h (fun a s₁ h=>wpAny_mono h (fun b s2 h=>wpAny_mono h (fun c s3 ⟨t,e,h1,h2⟩=>⟨t,e,fun q=>wpAny_mono (h1 q) (fun d s4 h=>wpAny_mono h (fun v s5 ⟨u,e,h⟩=>by rw [e];exact h) fun _ _ q=>q) fun _ _ q=>q,h2⟩) fun _ _ q=>q) fun _ _ q=>q) fun _ _ q=>q)
end
structure iw where
 i:Nat
 x:Str
 k:NameKind
 p:Pos
noncomputable def iw.e (z:iw):Expr:=.Name z.x z.p
def Ba (B:bn)(C:Ct)(zs:List iw):Bool:=zs.all fun z=>(B.tab[z.i]?==some (some (z.x,z.k)))&&((z.k==.local||z.k==.cell)&&ch C z.i false C)
structure iw.ok (B:bn) (C:Ct) (z:iw):Prop where
 t:B.tab[z.i]?=some (some (z.x,z.k))
 k:z.k=.local\/z.k=.cell
 s:ch C z.i false C=true
theorem Ck {B:bn}{C:Ct}{zs:List iw}(h:Ba B C zs=true)(z:iw)(hz:z∈zs):z.ok B C:=by
 obtain ⟨h1,h2⟩:=ah (aB h z hz)
 obtain ⟨h2,h3⟩:=ah h2
 exact ⟨eq_of_beq h1,(Bool.or_eq_true_iff.mp h2).imp eq_of_beq eq_of_beq,h3⟩
theorem fF (env:Env):∀zs:List iw,(assignEach (zs.map iw.e) env).map (·.2)=zs.map (fun z=>assign z.e env)/\(assignEach (zs.map iw.e) env).length=zs.length/\(assignEach (zs.map iw.e) env).findIdx? (·.1)=none
 | []=>⟨rfl,rfl,rfl⟩
 |z::zs=>by
  obtain ⟨h1,h2,h3⟩:=fF env zs
  have e:assignEach ((z::zs).map iw.e) env=(false,assign z.e env)::assignEach (zs.map iw.e) env:=rfl
  rw [e]
  refine ⟨by rw [map_cons,map_cons,h1],by rw [length_cons,h2];rfl,?_⟩
  rw [findIdx?_cons,h3];rfl
theorem kY:∀{is:List Nat} {ts:List T} {V ρ':aY},c5 is ts V=some ρ'->is.length=ts.length
 | [],[],_,_,_=>rfl
 | [],_::_,_,_,e=>by cases e
 |_::_,[],_,_,e=>by cases e
 |_::is,_::ts,_,_,e=>congrArg (·+1) (kY (is:=is) (ts:=ts) e)
section
variable {P:Pg} {B:bn} {C C':Ct} {fr:Bool} {n:Nat} {A:Around} {env:Env} {g g':Gh} {V ρ':aY} {J:Sg} {s s':Shared} {h h':Heap} {E:Value->Shared->Prop}
theorem jN {Q:Unit->Shared->Prop}:∀(zs:List iw) (ts:List T) (us:List Value) (V:aY) (s:Shared),c5 (zs.map (·.i)) ts V=some ρ'->(∀z∈zs,z.ok B C)->At P B C n A env g V J s->aO P g s.heap ts us->(∀s',bC [] (own env) g s g s'->At P B C n A env g ρ' J s'->Q () s')->wpAny P.M A (assignInOrder (zs.map (fun z=>assign z.e env)) us) Q E s
 | [],[],us,V,s,e,hz,X,r,h=>by
  cases r;cases e
  exact assignInOrder_nil (h s (aC.refl g s).toE X)
 | [],_::_,us,V,s,e,hz,X,r,h=>by cases e
 |z::zs,[],us,V,s,e,hz,X,r,h=>by cases e
 |z::zs,t::ts,us,V,s,e,hz,X,r,h=>by
  obtain ⟨v,vs,rfl,r,rs⟩:=r
  have o:=hz z mem_cons_self
  refine assignInOrder_cons (wpAny_assign_Name (ib X o.s o.t o.k r fun s' p X'=>?_))
  have p:bC [] (own env) g s g s':=p.weak (fun _ h=>h) cY
  exact jN zs ts vs (V.set z.i (some t)) s' e (fun w hw=>hz w (mem_cons_of_mem _ hw)) X' (rs.mono (p.toS.k X.g fun a ha=>(X.env.own a ha).2.1)) fun s'' p' X''=>h s'' (p.trans p') X''
theorem i5 {Q:Unit->Shared->Prop}{zs:List iw}{ts:List T}{us:Array Value}{a:Addr}{m kt:Nat}{pt:Pos}(hz:Ba B C zs=true)(e:c5 (zs.map (·.i)) ts V=some ρ')(X:At P B C n A env g V J s)(ea:s.heap.get? a=some (gn us m))(rs:aO P g s.heap ts us.toList)
  (h:∀s',bC [] (own env) g s g s'->At P B C n A env g ρ' J s'->Q () s'):wpAny P.M A (assign (.Tuple (zs.map iw.e) kt pt) env (.ref a)) Q E s:=by
 obtain ⟨h1,h2,h3⟩:=fF env zs
 refine wpAny_assign_Tuple X.room.2.2 ⟨_,ea,rfl,m,rfl⟩ (by rw [h2,<-length_map (f:=(·.i)),kY e,<-rs.length];rfl) h3 fun h' hk=>?_
 have k:∀b o,s.heap.get? b=some o->h'.get? b=some o:=fun b o e=>hk b o (fun q=>ao e (q▸aD _)) e
 have pa:aC g s g {s with heap:=h',toks:=s.toks}:=.grow s.toks k g.F (fun _ f=>f) fun _ f=>.inl f
 rw [h1]
 exact jN zs ts _ V _ e (Ck hz) (X.post pa (X.g.grow k g.F (fun _ f=>f) fun _ f=>.inl f)) (rs.mono (pa.k X.g)) fun s' p' X'=>h s' (pa.toE.trans p') X'
theorem oR:∀(xs:List T) (k i:Nat),(k8 k xs)[i]?=(xs[i]?).map fun v=>T.tup [.int ((k+i:Nat):Int),v]
 | [],_,_=>rfl
 |x::xs,k,0=>rfl
 |x::xs,k,i+1=>by
  have:=oR xs (k+1) i
  rw [Nat.add_right_comm] at this
  exact this
theorem fZ:∀(xs:List T) (k:Nat),(k8 k xs).length=xs.length
 | [],_=>rfl
 |_::xs,k=>congrArg (·+1) (fZ xs (k+1))
def y8 (P:Pg)(ts:List T)(e it l:Addr)(vs:Array Value)(m k:Nat)(g:Gh)(h:Heap):Prop:=(∃old,IsEnum h e it k old)/\h.IsListIter it l k/\g.F l/\h.get? l=some (aX vs m)/\aO P g h ts vs.toList
theorem y8.stay {ts:List T}{e it l:Addr}{vs:Array Value}{m k:Nat}(st:y8 P ts e it l vs m k g h)(kf:aN g h g' h')(ki:∀a∈[e,it],∀o,h.get? a=some o->h'.get? a=some o):y8 P ts e it l vs m k g' h':=by
 obtain ⟨⟨old,h1⟩,⟨o,h2,h3⟩,f,e',q⟩:=st
 exact ⟨⟨old,ki e mem_cons_self _ h1⟩,⟨o,ki it (mem_cons_of_mem _ mem_cons_self) o h2,h3⟩,(kf.F l f).1,(kf.F l f).2 _ e',q.mono kf⟩
theorem jP.enum (hh:A.handled=none){e it l:Addr}{vs:Array Value}{m:Nat}{ts:List T}{z1 z2:iw}{kt:Nat}{pt:Pos}(hz:Ba B C [z1,z2]=true)(hei:e≠it):
  jP P A B C C (.Tuple [z1.e,z2.e] kt pt) (zm z1.i z2.i) own e (k8 0 ts) [e,it] [] (y8 P ts e it l vs m) where
 sub:=fun _ _ h=>h
 stay:=fun k g h g' h' st kf ki=>st.stay kf ki
 here:=fun k g h st b hb=>by
  obtain ⟨⟨old,g1⟩,⟨o,g2,_⟩,_⟩:=st
  rcases an hb with rfl |hb
  .exact ao g1
  .rw [aa hb];exact ao g2
 self:=fun k g s Q E st h=>by
  obtain ⟨⟨old,g1⟩,_⟩:=st
  exact wpAny_pyIter_enum g1 h
 item:=fun k v n env g V ρ' J s Q E hj X hv st hρ hq=>by
  obtain ⟨⟨old,g1⟩,g2,f,b1,b2⟩:=id st
  rw [oR] at hj
  obtain ⟨x,hx,rfl⟩:=ar hj
  obtain ⟨u,hu,r⟩:=b2.get hx
  refine wpAny_pyNext_enum_item g1 g2 ⟨_,b1,rfl,m,rfl⟩ (by rw [<-Array.getElem?_toList];exact hu) hei fun h' ho hit' ht hsz hk=>?_
  refine wpAny_letOwnedTupleGo_enum ho fun hd he2 hs2=>?_
  have hel:s.heap.objs.size≠e:=fun q=>ao g1 (q▸aD _)
  have hk2:∀b o,s.heap.get? b=some o->b∉[e,it]->hd.get? b=some o:=fun b o e' hb=>(hs2.2 b fun q=>hb (q▸mem_cons_self)).trans (hk b o (fun q=>hb (q▸mem_cons_self)) (fun q=>hb (q▸mem_cons_of_mem _ mem_cons_self)) e')
  obtain ⟨pV,X1⟩:=cW X hv hk2 (s.toks+1)
  have lve:hd.get? e≠none:=ao he2
  have lvi:hd.IsListIter it l (k+1):=let ⟨o,w1,w2⟩:=hit';⟨o,(hs2.2 it (Ne.symm hei)).trans w1,w2⟩
  have kf:aN g s.heap g hd:=⟨fun b f=>⟨f,fun o e=>hk2 b o e fun q=>(hv b q).1 f⟩,rfl⟩
  have pV:=eh pV fun b hb=>by
   rcases an hb with rfl |hb
   .exact lve
   .rw [aa hb];exact let ⟨_,e,_⟩:=lvi;ao e
  have st':y8 P ts e it l vs m (k+1) g hd:=⟨⟨_,he2⟩,lvi,f,(kf.F l f).2 _ b1,b2.mono kf⟩
  refine i5 (zs:=[z1,z2]) (ts:=[.int ((0+k:Nat):Int),x]) hz hρ X1 ((hs2.2 _ hel).trans ht) ⟨_,_,rfl,⟨s.toks,by rw [zero_add]⟩,_,_,rfl,r.mono kf,rfl⟩ fun s' p' X'=>?_
  exact hq s' ((pV.weak (fun _ h=>h) fun a=>mem_append_left _).trans (p'.weak (fun _ h=>h) fun a=>mem_append_right _)) X' (st'.stay (p'.toS.k X1.g fun a ha=>(X1.env.own a ha).2.1) fun a ha o e=>p'.keep a o e (hv a ha).2.1 (hv a ha).2.2.2)
 done:=fun n env g V J s Q E X hv st hq=>by
  obtain ⟨⟨old,g1⟩,g2,f,b1,b2⟩:=id st
  rw [fZ] at g1 g2
  refine wpAny_pyNext_enum_end hh g1 g2 ⟨_,b1,rfl,m,rfl⟩ (Array.getElem?_eq_none (le_of_eq b2.size)) fun h' hk=>?_
  obtain ⟨pV,X1⟩:=cW (h':=h') X hv (fun b o e' hb=>hk b o (fun q=>hb (q▸mem_cons_of_mem _ mem_cons_self)) e') s.toks
  exact hq _ pV X1
theorem fI.enum {x:Expr}{d:PE}{z1 z2:iw}{kt:Nat}{pt p pos:Pos}(hz:Ba B C [z1,z2]=true)(hx:B.sc.names.lookup (ofString "enumerate")=some .globalImplicit)(hn:∀env,starEach [x] env=[(false,eval x env)])(h:aq P B C x d (RV P)):
  fI P B C (.Call (.Name (ofString "enumerate") p) [x] [] pos) (vW P B C C (.Tuple [z1.e,z2.e] kt pt) (zm z1.i z2.i) own) (rt d):=fun n A env g V J s k Q E X hb hq=>by
 refine Call_Name rfl (X.blt hx (by decide) (by decide) (v:=.type "enumerate") (by decide) (bG (fun _ q=>by cases q) (bc (by rw [hn env];exact fun q hq=>by cases hq with |head=>rfl |tail _ h=>cases h)) (wpAny_items_cons (h n A env g V J s _ _ E X hb fun x s₁ g₁ t J1 eb pa wa r1=>wpAny_items_nil ?_) (hn env))))
 obtain ⟨ts',e'⟩:=cf fun q=>hb (eb.trans q)
 obtain ⟨ts,e2,e3⟩:=ax e'
 cases fg e2
 obtain ⟨l,rfl,f,vs,m,b1,b3,b2⟩:=r1
 refine call_enumerate_1 b1 fun h' ge gi _ hk=>wpAny_pyIter_enum ge ?_
 have hne:s₁.heap.get? (s₁.heap.objs.size+1)=none:=Heap.get?_none_of_le (le_succ _)
 have p2:aC g₁ s₁ g₁ {s₁ with heap:=h',toks:=s₁.toks}:=.grow s₁.toks hk g₁.F (fun _ f=>f) fun _ f=>.inl f
 cases e3
 refine hq _ g₁ _ J1 _ [_,s₁.heap.objs.size] [] _ (eb.trans (by rw [e'];rfl)) (pa.trans p2) (wa.grow hk g₁.F (fun _ f=>f) fun _ f=>.inl f) (jP.enum (l:=l) X.room.2.2 hz (Nat.ne_of_gt (lt_succ_self _))) ⟨⟨_,ge⟩,gi,f,hk _ _ b1,b2.mono (p2.k wa)⟩ (fun b hb=>?_) (fun _ q=>nomatch q) (by rw [fZ];exact b3)
 have:s₁.heap.get? b=none:=by
  rcases an hb with rfl |hb
  .exact hne
  .rw [aa hb];exact aD _
 exact ⟨pa.back b this,fun q=>wa.F b q this,fun q=>(wa.Z b q).1 this⟩
theorem n5.str (hh:A.handled=none){I:Addr}{x:Str}{t:Tok}(ha:x.cps.all (· < 128)=true):n5 P A I (x.cps.toList.map fun c=>T.str ⟨#[c]⟩) [I] [] (fun i _ h=>h.IsStrIter I "str_ascii_iterator" x t i) where
 self i g s Q E st:=wpAny_pyIter_striter_ascii st
 stay i g h g' h' st k ki:=let ⟨o,e,r⟩:=st;⟨o,ki I (ay rfl) o e,r⟩
 here i g h st a ha:=by
  obtain ⟨o,e,_⟩:=st
  rw [aa ha];exact ao e
 item i t g s Q E hi st hF hq:=by
  rw [getElem?_map] at hi
  obtain ⟨c,hc',rfl⟩:=ar hi
  have hcx:x.cps[i]?=some c:=by rw [<-Array.getElem?_toList];exact hc'
  refine wpAny_pyNext_ascii_item st hcx fun h' hit hs=>?_
  refine hq _ h' _ (gS hs.2) ⟨⟨?_,(show 1<=lim by decide)⟩,_,rfl⟩ hit
  have hlt:c < 128:=by
   have:=Array.all_eq_true_iff_forall_mem.mp ha c (Array.mem_of_getElem? hcx)
   simpa using this
  simp [PyData.strOk]
  lia -abstractProof
 done g s Q E st hq:=wpAny_pyNext_ascii_end hh st (by rw [length_map];exact Array.getElem?_eq_none (le_refl _)) fun h' hs=>hq h' s.toks fun b o e hb=>hs b o (fun q=>hb (ay q)) e
theorem fI.str {e:Expr}{p:PE}{mk:Around->Addr->List T->List Addr->List Addr->(Nat->Gh->Heap->Prop)->Prop}(hb:jS P mk)(h:aq P B C e p (RV P)):fI P B C e mk (p1 AI p):=fun n A env g V J s k Q E X hbad hq=>
 h n A env g V J s (fun t J=>up (AI t) J k) _ E X hbad fun x s₁ g₁ t J1 e p w r=>by
  obtain ⟨ts,e'⟩:=cf fun q=>hbad (e.trans q)
  obtain ⟨y,e1,e2⟩:=ax e'
  obtain ⟨ha,e2⟩:=dj e2
  obtain ⟨⟨_,l⟩,u,rfl⟩:=eU.s (.inl r) e1
  refine wpAny_pyIter_ascii ha ?_
  obtain ⟨p',w',v⟩:=sT (X:={cls:=.type "str_ascii_iterator",data:=.fields #[.str y u,.int 0 0]}) (tk:=s₁.toks) w p
  exact hq _ g₁ ts J1 _ _ [] _ (e.trans (by rw [e'];rfl)) p' w' (e2▸hb.make (n5.str X.room.2.2 ha)) ⟨_,bD _,rfl,rfl⟩ v (fun _ q=>nomatch q) (by rw [<-e2,length_map];exact l)
theorem C5:jV P .In Ew:=fun A g J s x x' t t' b Q E rm w q q' e k=>by
 obtain ⟨y,z,e1,e2,e3⟩:=bp e
 cases e3
 obtain ⟨_,u,rfl⟩:=q.s e1
 obtain ⟨_,v,rfl⟩:=q'.s e2
 exact PySem.P.in_str (k s.toks)
end
end
end Mine
namespace Mine
noncomputable section
open PySem PySem.W PyProof.Rows PySem.SeqAt
theorem gf:entryFor table "dict.update.loop"=some Builtin.«dict.update.loop»:=entryFor_of_tree (by kernel_rfl)
theorem cL:plainId "dict.update.loop"=true:=by decide+kernel
theorem vh:typeLookup (.type "list") "keys"=pure none:=by rw [typeLookup_type,builtinLookup_eq_fast];kernel_rfl
section
variable {prog:Program} {w:World} {A:Around} {E:Value->Shared->Prop} {s:Shared}
set_option maxRecDepth 100000 in
theorem vm {a:Addr}{xs:Array Value}{k:Nat}{Q:Option Value->Shared->Prop}(hx:s.heap.get? a=some {cls:=.type "list",dict:=none,data:=.seq xs k,slots:=#[]})(hA:A.handled=none)
  (h:∀h' tk,(∀b o,s.heap.get? b=some o->h'.get? b=some o)->Q none {s with heap:=h',toks:=tk}):wpAny (model prog w) A (getAttr? (.ref a) "keys") Q E s:=by
 obtain ⟨hp,g,d,tk,os⟩:=s
 have hT:∀tk',(⟨hp,g,d,tk',os⟩:Shared).TypeIs (.ref a) "list":=fun _=>⟨_,hx,rfl⟩
 have f1:=sub_AttributeError
 have f3:=F.slot_list_getattribute.lookup
 have f4:=F.slot_list_getattribute.bind (.ref a)
 have f5:=am_list_getattr_none
 unfold getAttr? getAttrBy? getAttrBy
 repeat (any_goals (first |assumption |exact hT _ | ((with_reducible show wpAny _ _ (call (Value.builtin "list.__getattribute__") _ _) _ _ _);refine call_meets F.slot_list_getattribute (hT _) am_entry_list_getattribute (F.args_list_getattribute_2 _ _) (meets_getattribute_miss_list a xs k #[] "keys" _ vh (by decide) (by size_fits)) ⟨hx,hA,fun h' tk' e hx'=>?_⟩) |wp_step))
 obtain ⟨t',u',he⟩:=hx'.there
 show wpAny _ _ (getattributeRaised _ _ _ _ _ _ _) _ _ _
 unfold getattributeRaised
 repeat (any_goals (first |assumption |wp_step))
 exact h _ _ hx'.keeps
theorem sL {a:Addr}{vs:Array Value}{n:Nat}{Q:List Value->Shared->Prop}(hx:s.heap.get? a=some {cls:=.type "tuple",dict:=none,data:=.seq vs n,slots:=#[]})(h:Q vs.toList s):wpAny (model prog w) A (Builtin.Dict.pairItems (.ref a)) Q E s:=by
 have hT:s.TypeIs (.ref a) "tuple":=⟨_,hx,rfl⟩
 unfold Builtin.Dict.pairItems
 refine wpAny_bind (wpAny_typeOf hT ?_)
 rw [if_pos (by decide)]
 refine wpAny_bind (wpAny_seqItems hx rfl (wpAny_pure ?_))
 exact h
end
noncomputable abbrev m5 (es:List i9)(xs:List i9):List i9:=es.foldl (fun xs e=>storedH xs e.1 e.2.1 e.2.2) xs
section
variable {prog:Program} {w:World} {A:Around} {s:Shared} {knd:HeapKind prog w Ky}
theorem qJ (xs:List i9)(H:Ky)(a:Addr)(v:Value):(storedH xs H a v).length<=xs.length+1:=by
 unfold storedH;split
 .rw [length_map];lia -abstractProof
 .rw [List.length_append];exact le_refl _
theorem um {h h':Heap}{H:Ky}{a:Addr}(k:∀b o,h.get? b=some o->h'.get? b=some o)(i:(bL prog w).is h H a):(bL prog w).is h' H a:=let ⟨d,e,x⟩:=i;⟨d,e,cC.keeps (fun _ _ _ e=>k _ _ e) d 6 _ x⟩
theorem sC {xs:List i9}{e x:i9}{p:Ky->Addr->Prop}(h:∀x∈xs,p x.1 x.2.1)(he:p e.1 e.2.1)(hx:x∈storedH xs e.1 e.2.1 e.2.2):p x.1 x.2.1:=by
 unfold storedH at hx
 split at hx
 .obtain ⟨y,hy,rfl⟩:=aG hx
  unfold putAt;split<;>exact h y hy
 .rcases ag hx with hx |hx
  .exact h x hx
  .rw [aa hx];exact he
theorem A2 {n i k:Nat}(h:n - i=k+1):n - (i+1)=k:=by rw [Nat.sub_add_eq,h];rfl
inductive Gv (prog:Program) (w:World) (h:Heap) (o:Option i9) (v:Value):Prop
 |mk (a:Addr) (e:i9) (us:Array Value) (m:Nat) (hv:v=.ref a) (he:o=some e) (hg:h.get? a=some ⟨.type "tuple",none,.seq us m,#[]⟩) (hu:us.toList=[.ref e.2.1,e.2.2]) (hk:(bL prog w).is h e.1 e.2.1)
theorem vJ {R:Result->Shared->Prop}{I:Addr}{fp wr:List Addr}{G:Array GenState->Array GenState->Prop}{n:Nat}{Pp:Nat->Value->Prop}{St:Nat->Shared->Prop}(hu:A.units+50 < cLine)(W:WalksS prog w A.in1 I fp wr G n Pp St)(S:Addr)(hSf:S∉fp)(h₀:Heap)(es:List i9)(hn:es.length=n)(hnl:n<=lim)
  (hval:∀i v,Pp i v->Gv prog w h₀ es[i]? v)(hS0:h₀.get? S=none)(hw0:∀b∈wr,h₀.get? b=none):
  ∀(k i:Nat) (s:Shared) (xs:List i9),n - i=k->i<=n->xs.length<=i->St i s->s.heap.DictOfH (bL prog w) S xs->(∀x∈xs,(bL prog w).is h₀ x.1 x.2.1)->(∀b o,h₀.get? b=some o->s.heap.get? b=some o)->
   (∀s',Moved (S::wr) G s s'->s'.heap.DictOfH (bL prog w) S (m5 (es.drop i) xs)->R (.ok (.ret .none)) s')->
   codeAny (model prog w) A (.builtin "dict.update.loop" ⟨[.ref S,.ref I,rawInt i,.none],[]⟩) R s:=by
 have hSw:S∉wr:=fun h=>hSf (W.sub _ h)
 have hsub:∀b∈wr,b∈S::wr:=fun b hb=>mem_cons_of_mem _ hb
 have kp:∀{s s':Shared},Moved wr G s s'->(∀b o,h₀.get? b=some o->s.heap.get? b=some o)->∀b o,h₀.get? b=some o->s'.heap.get? b=some o:=fun hm hkp b o e=>hm.heap b o (fun hb=>by rw [hw0 b hb] at e;cases e) (hkp b o e)
 have dm:∀{xs:List i9} {s s':Shared},Moved wr G s s'->(∀b o,h₀.get? b=some o->s.heap.get? b=some o)->(∀x∈xs,(bL prog w).is h₀ x.1 x.2.1)->s.heap.DictOfH (bL prog w) S xs->s'.heap.DictOfH (bL prog w) S xs:=fun hm hkp hx d=>by
  obtain ⟨o,es,ep,h1,h2,h3,h4,h5,h6⟩:=d
  exact ⟨o,es,ep,hm.heap S _ hSw h1,h2,h3,h4,fun x hx'=>um (kp hm hkp) (hx x hx'),h6⟩
 intro k
 induction k with
 |zero=>
  intro i s xs hk hi hxl hst hS hxs hkp hR
  obtain rfl:i=n:=le_antisymm hi (Nat.le_of_sub_eq_zero hk)
  rw [List.drop_of_length_le (by lia -abstractProof)] at hR
  refine codeAny_builtin gf ?_
  rw [Around.under_plainId cL _]
  show wpAny _ A.in1 (pyNext (.ref I) >>=_) _ _ s
  refine wpAny_bind (W.done s _ _ hst fun s' hm=>?_)
  show wpAny _ A.in1 (Builtin.Dict.addKeywords S [] >>=fun _=>ret Value.none) _ _ s'
  refine wpAny_bind (wpAny_pure ?_)
  exact wpAny_pure (hR s' (hm.mono hsub) (dm hm hkp hxs hS))
 |succ k ih=>
  intro i s xs hk hi hxl hst hS hxs hkp hR
  have hlt:i < n:=Nat.lt_of_sub_eq_succ hk
  refine codeAny_builtin gf ?_
  rw [Around.under_plainId cL _]
  show wpAny _ A.in1 (pyNext (.ref I) >>=_) _ _ s
  refine wpAny_bind (W.item i s _ _ hlt hst fun v s' hP hst' hm=>?_)
  obtain ⟨a,e,vs,m,rfl,hes,ha,hv,his⟩:=hval i v hP
  have hkp':=kp hm hkp
  have hS':=dm hm hkp hxs hS
  have hdrop:es.drop i=e::es.drop (i+1):=by
   obtain ⟨h1,h2⟩:=aj hes
   rw [List.drop_eq_getElem_cons h1,h2]
  rw [hdrop] at hR
  show wpAny _ A.in1 (holding [Value.ref a] _ >>=_) _ _ s'
  refine wpAny_bind (wpAny_holding (wpAny_bind (wpAny_tryCatch (sL (hkp' a _ ha) ?_))))
  rw [hv]
  have hl:lim<=sizeLine:=by decide
  refine wpAny_holding (wpAny_dictSet_heap (show A.in1.units+6 < cLine by rw [Around.in1_units];lia) (um hkp' his) hS' (fun h' hS2 hsb=>?_) (by lia -abstractProof))
  refine wpAny_pure ⟨plainId_quiet cL _,?_⟩
  have e1:((i:Int)+1)=((i+1:Nat):Int):=rfl
  show codeAny _ A (.builtin "dict.update.loop" ⟨[.ref S,.ref I,rawInt ((i:Int)+1),.none],[]⟩) R _
  rw [e1]
  refine ih (i+1) _ (storedH xs e.1 e.2.1 e.2.2) (A2 hk) hlt (le_trans (qJ _ _ _ _) (by lia -abstractProof)) ?_ hS2 (fun x hx=>sC (p:=fun H a=>(bL prog w).is h₀ H a) hxs his hx) (fun b o e=>?_) fun s'' hm'' hS''=>?_
  .refine W.frame _ s' _ _ hst' (le_add_right _ _) fun b hb o e=>?_
   rw [hsb.2 b (fun h:b=S=>hSf (by rw [<-h];exact hb))];exact e
  .rw [hsb.2 b (fun h:b=S=>by rw [h,hS0] at e;cases e)];exact hkp' b o e
  .refine hR s'' (Moved.trans W.gtrans ((hm.mono hsub).then_heap (le_add_right _ _) fun b o hb e=>?_) hm'') hS''
   rw [hsb.2 b (fun h:b=S=>hb (by rw [h];exact mem_cons_self))];exact e
set_option maxRecDepth 100000 in
theorem gg {E:Value->Shared->Prop}{l:Addr}{items:Array Value}{m:Nat}{es:List i9}{Q:Value->Shared->Prop}(hu:A.units+100 < cLine)(hh:A.handled=none)(hl:s.heap.get? l=some {cls:=.type "list",dict:=none,data:=.seq items m,slots:=#[]})(hn:es.length=items.size)(hnl:items.size<=lim)
  (hval:∀(i:Nat) v,items[i]?=some v->Gv prog w s.heap es[i]? v)
  (h:∀(h':Heap) (tk:Nat),h'.DictOfH (bL prog w) s.heap.objs.size (m5 es [])->(∀b o,s.heap.get? b=some o->h'.get? b=some o)->Q (.ref s.heap.objs.size) {s with heap:=h',toks:=tk}):
  wpAny (model prog w) A (call (.type "dict") [.ref l]) Q E s:=by
 refine callType_codes (Q₁:=fun obj s₁=>obj=.ref s.heap.objs.size/\s₁={s with heap:=s.heap.push {cls:=.type "dict",data:=.dict #[]}}) F.kt_called_dict (F.kt_typeCall_dict_1 _) F.entry_dict_init (kt_code_dict_new _ ⟨rfl,rfl⟩) ?_
 rintro obj s₁ ⟨rfl,rfl⟩
 have hnew:(s.heap.push {cls:=.type "dict",data:=.dict #[]}).DictOfH (bL prog w) s.heap.objs.size []:=Heap.DictOfH.new s.heap
 have hl':(s.heap.push {cls:=.type "dict",data:=.dict #[]}).get? l=some {cls:=.type "list",dict:=none,data:=.seq items m,slots:=#[]}:=Heap.get?_push_of_some _ hl
 have hlT:Shared.TypeIs {s with heap:=s.heap.push {cls:=.type "dict",data:=.dict #[]}} (.ref l) "list":=⟨_,hl',rfl⟩
 refine ⟨hnew.typeIs,F.args_dict_init_2 _ _,?_⟩
 unfold Builtin.«dict.__init__»
 refine wpAny_bind ?_
 unfold Builtin.Dict.selfAndRest
 refine wpAny_bind (wpAny_notOrdered_dict hnew.typeIs ?_)
 show wpAny _ _ (pure (s.heap.objs.size,[Value.ref l])) _ _ _
 refine wpAny_pure ?_
 show wpAny _ _ (Builtin.Dict.updateFrom "dict.__init__" s.heap.objs.size (.ref l) [] .none) _ _ _
 unfold Builtin.Dict.updateFrom
 refine wpAny_bind (wpAny_typeOf hlT ?_)
 rw [if_pos (by decide)]
 refine wpAny_bind (vm hl' (by simp [hh]) fun h1 tk1 hk1=>?_)
 simp only [Option.isNone_none,if_true]
 refine wpAny_bind (wpAny_rule ?_)
 have hl1:h1.get? l=some {cls:=.type "list",dict:=none,data:=.seq items m,slots:=#[]}:=hk1 _ _ hl'
 have isl:Heap.IsList h1 l items:=⟨_,hl1,rfl,m,rfl⟩
 refine wpAny_bind (wpAny_pyIter_list isl ?_)
 refine wpAny_pure ⟨plainId_quiet cL _,?_⟩
 have hlS:l < s.heap.objs.size:=Heap.lt_size hl
 have hD1:h1.get? s.heap.objs.size≠none:=by
  obtain ⟨o,_,_,e,_⟩:=hnew
  rw [hk1 _ _ e];exact fun q=>by cases q
 have hSs:s.heap.objs.size < h1.objs.size:=by
  cases e:h1.get? s.heap.objs.size with
  |none=>exact absurd e hD1
  |some o=>exact Heap.lt_size e
 have hS0:s.heap.get? s.heap.objs.size=none:=aD _
 have k1:∀b o,s.heap.get? b=some o->h1.get? b=some o:=fun b o e=>hk1 b o (Heap.get?_push_of_some _ e)
 have hI0:s.heap.get? h1.objs.size=none:=by
  cases q:s.heap.get? h1.objs.size with
  |none=>rfl
  |some o=>have:=k1 _ _ q;rw [aD] at this;cases this
 have hd1:h1.DictOfH (bL prog w) s.heap.objs.size []:=by
  obtain ⟨o,es,ep,g1,g2,g3,g4,g5,g6⟩:=hnew
  exact ⟨o,es,ep,hk1 _ _ g1,g2,g3,g4,fun x hx=>(by cases hx),g6⟩
 refine vJ (by show A.units+1+50 < cLine;lia) ((Walks.list (by simp [hh]) _ l (Nat.ne_of_lt (lt_trans hlS hSs)) items).toS) s.heap.objs.size ?_ s.heap es hn hnl hval hS0 (fun b hb=>by rw [aa hb];exact hI0) (items.size - 0) 0 _ [] (by lia -abstractProof) (zero_le _) (zero_le _) ?_ ?_ (fun x hx=>by cases hx) (fun b o e=>Heap.get?_push_of_some _ (k1 b o e)) fun s' hm hS'=>?_
 .simp only [mem_cons,List.not_mem_nil,or_false,not_or]
  exact ⟨Nat.ne_of_lt hSs,Nat.ne_of_gt hlS⟩
 .exact ⟨⟨_,Heap.get?_push_size _ rfl,rfl,rfl⟩,(isl.push _)⟩
 .obtain ⟨o,es,ep,g1,g2,g3,g4,g5,g6⟩:=hd1
  exact ⟨o,es,ep,Heap.get?_push_of_some _ g1,g2,g3,g4,fun x hx=>(by cases hx),g6⟩
 .obtain ⟨h',g',d',tk',os'⟩:=s'
  have eg:g'=s.gens:=hm.gens
  have ed:d'=s.drawn:=hm.drawn
  have eo:os'=s.os:=hm.os
  subst eg;subst ed;subst eo
  refine ⟨rfl,h h' tk' (by simpa using hS') fun b o e=>?_⟩
  refine hm.heap b o (fun hb=>?_) (Heap.get?_push_of_some _ (k1 b o e))
  rcases an hb with rfl |hb
  .rw [hS0] at e;cases e
  .rw [aa hb,hI0] at e;cases e
end
section
variable {P:Pg} {B:bn} {C:Ct} {g:Gh} {h:Heap}
theorem o4 {xs:List i9}{H:Ky}{a:Addr}{v:Value}(nd:(xs.map (·.1)).Nodup):((storedH xs H a v).map (·.1)).Nodup:=by
 unfold storedH
 split
 .rw [keys_map_putAt];exact nd
 .rename_i hn
  rw [map_append,nodup_append]
  refine ⟨nd,by simp,fun x hx y hy e=>hn ?_⟩
  rw [List.map_singleton,mem_singleton] at hy
  subst hy;subst e
  rw [nQ]
  cases q:pQ (xs.map (·.1)) x with
  |none=>
   have:=List.findIdx?_eq_none_iff.mp q x hx
   rw [decide_eq_true rfl] at this;cases this
  |some i=>
   have:=uh q
   rw [getElem?_map] at this
   cases hx':xs[i]? with
   |none=>rw [hx'] at this;cases this
   |some z=>rw [bind_some,hx'];rfl
theorem zH {α:Type}{i:Option Nat}{k v:α}{ks vs:List α}:(ma i k v ks vs).1.length<=ks.length+1:=by
 cases i with
 |none=>rw [ma,List.length_append];exact le_refl _
 |some j=>exact le_succ _
structure EF (P:Pg) (g:Gh) (h:Heap) (nv:Nat) (xs:List Value) (nk:Nat) (zs:List i9) (p:List T×List T) (es:List i9):Prop where
 len:es.length=nv
 at_:∀(i:Nat) v,xs[i]?=some v->Gv P.prog P.w h es[i]? v
 ky:fy p.1=some ((m5 es zs).map (·.1))
 rk:aO P g h p.1 ((m5 es zs).map fun y=>Value.ref y.2.1)
 rv:aO P g h p.2 ((m5 es zs).map (·.2.2))
 le:p.1.length<=nk+nv
theorem oS:∀(vs:List T) (xs:List Value) (ks ws:List T) (zs:List i9) (p:List T×List T),aO P g h vs xs->mZ vs ks ws=some p->fy ks=some (zs.map (·.1))->(zs.map (·.1)).Nodup->aO P g h ks (zs.map fun y=>Value.ref y.2.1)->aO P g h ws (zs.map (·.2.2))->
  ∃es:List i9,EF P g h vs.length xs ks.length zs p es
 | [],xs,ks,ws,zs,p,r,e,hk,nd,rk,rw'=>by
  cases r;cases e
  exact ⟨[],rfl,fun i v q=>(by cases q),hk,rk,rw',le_refl _⟩
 |x::vs,_,ks,ws,zs,p,⟨v0,xs,e0,q,r⟩,e,hk,nd,rk,rw'=>by
  subst e0
  obtain ⟨ps,e1,e2⟩:=ax (show o1 (lN x) _=some p from e)
  cases kP e1
  match ps,e2,q with
  | [k,v],e2,q=>
   obtain ⟨i,hd,e3⟩:=ax (show o1 (kA ks k) _=some p from e2)
   obtain ⟨H,hky⟩:=kx hd
   obtain ⟨t,rfl,_,us,m,g1,_,u1,l1,hus,q1,u2,l2,e4,q2,e5⟩:=q
   cases e5;subst e4
   obtain ⟨ad,rfl,his,_⟩:=mw hky (.inl q1)
   obtain ⟨p1,p2,p3⟩:=kX (v:=v) (z:=u2) hk nd hd hky rk rw' q1 q2
   obtain ⟨es,h1,h2,h3,h4,h5,h6⟩:=oS vs _ _ _ (storedH zs H ad u2) p r e3 p1 (o4 nd) p2 p3
   refine ⟨(H,ad,u2)::es,congrArg (·+1) h1,fun j w hw=>?_,h3,h4,h5,?_⟩
   .cases j with
    |zero=>cases hw;exact ⟨t,_,us,m,rfl,rfl,g1,hus,his⟩
    |succ j=>exact h2 j w hw
   .rw [length_cons,add_comm vs.length,<-add_assoc];exact le_trans h6 (add_le_add_right zH _)
theorem aq.dictOf {e:Expr}{p:PE}{np pos:Pos}(hx:B.sc.names.lookup (ofString "dict")=some .globalImplicit)(hn:∀env,starEach [e] env=[(false,eval e env)])(h:aq P B C e p (RX P)):aq P B C (.Call (.Name (ofString "dict") np) [e] [] pos) (p1 rE p) (RN P):=fun n A env g V J s k Q E X hb hq=>
 aq.b1 EK (fun A env g J s x t y Q E rm w q e hq=>by
  obtain ⟨xs,e1,e2⟩:=ax e
  obtain ⟨p,e3,e4⟩:=ax e2
  cases e4
  obtain ⟨l,rfl,vs,n,a1,a3,a2⟩:=q.ls e1
  obtain ⟨es,h1,h2,h3,h4,h5,h6⟩:=oS xs vs.toList [] [] [] p a2 e3 rfl .nil rfl rfl
  have hz:=a2.size
  have hsn:=o6 X.good w
  refine gg (es:=es) (lt_of_le_of_lt (add_le_add_left (by decide) _) rm.units) rm.handled a1 (by rw [h1];exact hz.symm) (by rw [hz];exact a3) (fun i v hv=>h2 i v (by rw [Array.getElem?_toList];exact hv)) fun h' tk dd hk=>?_
  obtain ⟨n1,n2,n3⟩:=cZ w
  have pa:aC g s g {s with heap:=h',toks:=tk}:=.grow tk hk g.F (fun _ f=>f) fun _ f=>.inl f
  exact hq _ _ g pa (w.grow hk g.F (fun _ f=>f) fun _ f=>.inl f) ⟨_,rfl,aD _,n1,n2,n3,Fk.back hsn dd h3 (h4.mono (pa.k w)) (h5.mono (pa.k w)) (le_trans h6 (le_trans (le_of_eq (zero_add _)) a3))⟩)
  (fun _ q=>by cases q) hx (by decide) (by decide) (by decide) hn h n A env g V J s k Q E X hb hq
end
end
end Mine
namespace Mine
noncomputable section
open PySem PySem.W PyProof.Rows
structure Gr (h:Heap) (mg:Str->Option Value) (nm:Str) (sc:Scope) (bd:List Stmt) (ps:List Str) (a:Addr) (fd:FuncData):Prop where
 ns:mg nm=some (.ref a)
 obj:∃o,h.get? a=some o/\o.data=.func fd
 code:h.CodeRec fd.code fd.qualname
 name:fd.name=nm
 sc:fd.scope=sc
 bd:fd.body=.stmts bd
 cl:fd.closure=[]
 gl:fd.globals=mainGlobals
 bt:fd.builtins=builtinsNs
 bind:∀vals:List Value,vals.length=ps.length->bindArgs fd ⟨vals,[]⟩=pure (ps.zip vals)
def uw (q:Program)(nm:Str):Option (Scope×List Stmt×Arguments):=((recsOf q).find? fun d=>d.name==nm).map fun d=>(d.scope,d.body,d.params)
theorem Au {q:Program}{loose:List Str}{mean:ExcName->Option Value}{mg mb:Str->Option Value}{h:Heap}(T:Top q loose mean mg mb h){nm:Str}{sc:Scope}{bd:List Stmt}{pa:Arguments}(ps:List Str)(hr:uw q nm=some (sc,bd,pa))
  (hb:∀(pm cd doc:Value) (vals:List Value),vals.length=ps.length->bindArgs (Calls.docDef nm pa bd sc pm cd doc) ⟨vals,[]⟩=pure (ps.zip vals)):∃a fd,Gr h mg nm sc bd ps a fd:=by
 unfold uw at hr
 obtain ⟨d,hd,e⟩:=ar hr
 have hn:d.name=nm:=beq_iff_eq.mp (find?_some (p:=fun d:DefRec=>d.name==nm) hd)
 obtain ⟨a,o,pm,cd,doc,h1,h2,h3,h4⟩:=T.fn d (List.mem_of_find?_eq_some hd)
 simp only [Prod.mk.injEq] at e
 obtain ⟨rfl,rfl,rfl⟩:=e
 subst hn
 exact ⟨a,_,h1,⟨o,h2,h3⟩,h4,rfl,rfl,rfl,rfl,rfl,rfl,hb pm cd doc⟩
def uu (q:Program)(loose:List Str)(x:Str):Bool:=!startupNames.contains x&&!loose.contains x&&!((recsOf q).map (·.name)).contains x&&!((litsOf q).map (·.1)).contains x&&!((clssOf q loose).map (·.name)).contains x
theorem Aq {q:Program}{loose:List Str}{mean:ExcName->Option Value}{mg mb:Str->Option Value}{h:Heap}(T:Top q loose mean mg mb h){x:Str}(hx:uu q loose x=true):mg x=none:=by
 simp only [uu,and_eq_true,not_eq_true',List.contains_eq_mem,decide_eq_false_iff_not] at hx
 obtain ⟨⟨⟨⟨h1,h2⟩,h3⟩,h4⟩,h5⟩:=hx
 exact T.free x h1 h2 h3 h4 h5
theorem yk {c:ClaimW}{cl:Str->Option Addr}{mean:ExcName->Option Value}{args:List WData}{s₁:Shared}{h:Heap}{tk:Nat}(hr:∀cls,c.raises args cls=false)(hp:c.post args (.bool true) args=true)(hb:AllBare s₁.gens)
  (hk:∀a o,s₁.heap.get? a=some o->h.get? a=some o):GoodWG c cl mean args s₁ (.ok (.ret (.bool true))) {s₁ with heap:=h,toks:=tk}:=
 ⟨.inl ⟨_,_,[],rfl,hr,ReadsW.bool true,hp,fun _=>⟨List.nodup_nil,fun _ hm=>(nomatch hm)⟩⟩,.of_keep hk,rfl,hb⟩
theorem BZ {j:Nat->Option eP}{p:Nat->Addr->FuncData->Prop}(h:∀f F,j f=some F->∃a d,p f a d){f₀:Nat}{F0:eP}(h₀:j f₀=some F0):∃(A:Nat->Addr) (D:Nat->FuncData),∀f F,j f=some F->p f (A f) (D f):=by
 obtain ⟨a0,d0,_⟩:=h f₀ F0 h₀
 have h':∀f,∃x:Addr×FuncData,∀F,j f=some F->p f x.1 x.2:=fun f=>by
  cases e:j f with
  |none=>exact ⟨(a0,d0),fun F q=>by cases q⟩
  |some F=>
   obtain ⟨a,d,k⟩:=h f F e
   exact ⟨(a,d),fun _ _=>k⟩
 exact ⟨fun f=>(Classical.choose (h' f)).1,fun f=>(Classical.choose (h' f)).2,fun f=>Classical.choose_spec (h' f)⟩
structure oy (h:Heap) (mg mN:Str->Option Value) (gl:Bool) (nm:Str) (sc:Scope) (bd:List Stmt) (ps:List Str) (a:Addr) (fd:FuncData):Prop where
 ns:gl=true->mg nm=some (.ref a)
 me:gl=false->mN nm=some (.ref a)
 obj:∃o,h.get? a=some o/\o.data=.func fd/\(gl=false->o.cls=.type "function")
 code:h.CodeRec fd.code fd.qualname
 name:fd.name=nm
 sc:fd.scope=sc
 bd:fd.body=.stmts bd
 cl:fd.closure=[]
 gs:fd.globals=mainGlobals
 bt:fd.builtins=builtinsNs
 bind:∀vals:List Value,vals.length=ps.length->bindArgs fd ⟨vals,[]⟩=pure (ps.zip vals)
theorem oy.asMeth {h:Heap}{mg mN:Str->Option Value}{gl:Bool}{nm:Str}{sc:Scope}{bd:List Stmt}{ps:List Str}{a:Addr}{fd:FuncData}(x:oy h mg mN gl nm sc bd ps a fd)(hg:gl=false):(∃o,h.get? a=some o/\o.cls=.type "function")/\mN nm=some (.ref a):=by
 obtain ⟨o,h1,_,h3⟩:=x.obj
 exact ⟨⟨o,h1,h3 hg⟩,x.me hg⟩
theorem Av {q:Program}{loose:List Str}{mean:ExcName->Option Value}{mg mb mN:Str->Option Value}{h:Heap}(T:Top q loose mean mg mb h){nm:Str}{sc:Scope}{bd:List Stmt}{pa:Arguments}(ps:List Str)(hr:uw q nm=some (sc,bd,pa))
  (hb:∀(pm cd doc:Value) (vals:List Value),vals.length=ps.length->bindArgs (Calls.docDef nm pa bd sc pm cd doc) ⟨vals,[]⟩=pure (ps.zip vals)):∃a fd,oy h mg mN true nm sc bd ps a fd:=by
 obtain ⟨a,fd,x⟩:=Au T ps hr hb
 obtain ⟨o,h1,h2⟩:=x.obj
 exact ⟨a,fd,(fun _=>x.ns),(fun e=>nomatch e),⟨o,h1,h2,(fun e=>nomatch e)⟩,x.code,x.name,x.sc,x.bd,x.cl,x.gl,x.bt,x.bind⟩
def nq (q:Program)(loose:List Str)(x:Str):Option ClsRec:=(plainsOf q loose).find? fun c=>c.name==x
noncomputable def xC (c:ClsRec)(nm:Str):Option (Scope×List Stmt×Arguments):=(c.meths.find? fun m=>m.name==nm).map fun m=>(m.scope,m.body,m.params)
theorem zT {h:Heap}{c:ClsRec}{C N:Addr}{mg mN:Str->Option Value}(A:PlainAt h c.withCmp C N mN){nm:Str}{sc:Scope}{bd:List Stmt}{pa:Arguments}(ps:List Str)(hr:xC c nm=some (sc,bd,pa))
  (hb:∀(qual:Str) (pm cd doc:Value) (vals:List Value),vals.length=ps.length->bindArgs (methDef nm qual pa bd sc pm cd doc) ⟨vals,[]⟩=pure (ps.zip vals)):∃a fd,oy h mg mN false nm sc bd ps a fd:=by
 unfold xC at hr
 obtain ⟨m,hm,e⟩:=ar hr
 have hn:m.name=nm:=beq_iff_eq.mp (find?_some (p:=fun m:MethRec=>m.name==nm) hm)
 obtain ⟨f,o,pm,cd,doc,h1,h2,h3,h4,h5⟩:=A.meths m (List.mem_of_find?_eq_some hm)
 simp only [Prod.mk.injEq] at e
 obtain ⟨rfl,rfl,rfl⟩:=e
 subst hn
 exact ⟨f,_,(fun e=>by cases e),(fun _=>h1),⟨o,h2,h4,fun _=>h3⟩,h5,rfl,rfl,rfl,rfl,rfl,rfl,hb _ pm cd doc⟩
theorem C6 {q:Program}{loose:List Str}{mg:Str->Option Value}{h:Heap}{x:Str}(T:TopE q loose mg h)(hx:(nq q loose x).isSome=true):∃c C N mN,nq q loose x=some c/\mg x=some (.ref C)/\PlainAt h c.withCmp C N mN:=by
 obtain ⟨c,hc⟩:=aE hx
 have hn:c.name=x:=beq_iff_eq.mp (find?_some (p:=fun c:ClsRec=>c.name==x) hc)
 obtain ⟨C,N,mN,h1,h2⟩:=T c (List.mem_of_find?_eq_some hc)
 exact ⟨c,C,N,mN,hc,hn▸h1,h2⟩
theorem vc {P:Pg}{c:ClsRec}{C N:Addr}{mN:Str->Option Value}{k:Nat}{ms:List (Str×Nat)}(A:PlainAt P.h₀ c.withCmp C N mN)(hC:P.cls k=C)(ha:(bX k).all (c.statics.contains ·)=true)(ho:∀x∈bX k,typeLookup (.type "object") x=pure none)
  (hm:∀p∈ms,(∃o,P.h₀.get? (P.fnA p.2)=some o/\o.cls=.type "function")/\mN p.1=some (.ref (P.fnA p.2)))(hy:∀p∈ms,∃y,typeLookup (.type "object") p.1=pure y):bj P k ms:=
 ⟨N,mN,hC▸A.cls,A.quiet _ (mem_append_left _ (.tail _ (.head _))),A.quiet _ (mem_append_left _ (.tail _ (.tail _ (.head _)))),A.quiet _ (mem_append_left _ (.head _)),fun x hx=>⟨A.quiet _ (mem_append_right _ (mem_append_left _ (List.contains_iff_mem.mp (aB ha x hx)))),ho x hx⟩,fun p hp=>⟨(hm p hp).2,hy p hp,(hm p hp).1⟩⟩
theorem Ao {q:Program}{loose:List Str}{mean:ExcName->Option Value}{P:Pg}(T:Top q loose mean P.mg P.mb P.h₀)(hn:g9.all (uu q loose)=true)
  (hf:∀f F,P.Ψ f=some F->∃mN nm sc bd ps,oy P.h₀ P.mg mN (P.gl f) nm sc bd ps (P.fnA f) (P.fd f)):fJ P where
 g:=T.g
 b:=T.b
 nolimit:=T.nolimit
 fn:=fun f F h=>by
  obtain ⟨mN,nm,sc,bd,ps,x⟩:=hf f F h
  obtain ⟨o,e,d,_⟩:=x.obj
  exact ⟨o,e,d,fun g=>by rw [x.name];exact x.ns g,x.code,x.cl,x.gs,x.bt⟩
 blt:=fun x hx=>⟨Aq T (aB hn x hx),T.builtins x fun q=>by rw [q] at hx;revert hx;decide⟩
def EA (sc:Scope)(tab:List (Option (Str×NameKind)))(ps:List Str)(U:List Nat)(np:Nat):Bool:=
 bn.ok ⟨sc,tab⟩&&((List.range ps.length).all (fun i=>match ps[i]?,tab[i]? with
  |some x,some (some (y,k))=>x==y&&(k==.local||k==.cell)
  |_,_=>false)&&(tab.all (fun e=>match e with |some (_,k)=>!(k==.free) |none=>true)&&(decide (((cellsFrom 0 sc.names []).map (·.1)).Nodup)&&(!sc.isCoroutine&&(!sc.isGenerator&&(Nat.beq ps.length np&&U.all (Nat.ble np)))))))
theorem yp {P:Pg}{f np:Nat}{mN:Str->Option Value}{gl:Bool}{nm:Str}{sc:Scope}{bd:List Stmt}{ps:List Str}{tab:List (Option (Str×NameKind))}{U:List Nat}(x:oy P.h₀ P.mg mN gl nm sc bd ps (P.fnA f) (P.fd f))(h:EA sc tab ps U np=true):wf P f np tab ps bd U:=by
 obtain ⟨h1,h⟩:=ah h
 obtain ⟨h2,h⟩:=ah h
 obtain ⟨h3,h⟩:=ah h
 obtain ⟨h4,h⟩:=ah h
 obtain ⟨h5,h⟩:=ah h
 obtain ⟨h6,h⟩:=ah h
 obtain ⟨h7,h8⟩:=ah h
 have h7:=eq_of_beq_eq_true h7
 have hs:=x.sc
 refine ⟨x.bd,hs▸h1,h7,fun i y hy=>?_,fun i y ht=>?_,fun vals hv=>x.bind vals (by rw [h7];exact hv),hs▸of_decide_eq_true h4,⟨hs▸(not_eq_true' _).mp h5,hs▸(not_eq_true' _).mp h6⟩,fun i hi=>le_of_ble_eq_true (aB h8 i hi)⟩
 .have:=aB h2 i (bQ (aj hy).1)
  rw [hy] at this
  cases ht:tab[i]? with
  |none=>rw [ht] at this;cases this
  |some e=>
   rw [ht] at this
   cases e with
   |none=>cases this
   |some p=>
    obtain ⟨z,k⟩:=p
    simp only [and_eq_true,or_eq_true,beq_iff_eq] at this
    obtain ⟨rfl,hk⟩:=this
    exact ⟨k,rfl,hk⟩
 .have:=aB h3 _ (mem_of_getElem? ht)
  cases this
theorem As {P:Pg}{f:Nat}{F:eP}{mN:Str->Option Value}{gl:Bool}{nm:Str}{sc:Scope}{bd:List Stmt}{ps:List Str}{tab:List (Option (Str×NameKind))}{U:List Nat}{C':Ct}(x:oy P.h₀ P.mg mN gl nm sc bd ps (P.fnA f) (P.fd f))(h:EA sc tab ps U F.np=true)(sim:fH P ⟨sc,tab⟩ ⟨[],U,oK f⟩ (lC f) C' bd F.body):vZ P f F:=
 ⟨tab,ps,bd,U,C',yp x h,(fun q=>nomatch q),by rw [x.sc];exact sim⟩
theorem iq {q:Program}{loose:List Str}{mean:ExcName->Option Value}{mg mb:Str->Option Value}{h:Heap}{x:Str}{n:Int}{P:Pg}(T:Top q loose mean mg mb h)(hs:valOf q x=some (.int n)):∃u,mg x=some u/\∀g h,Rp P g h (.int n) u:=by
 obtain ⟨v,h1,h2⟩:=T.const x _ hs
 refine ⟨v,h1,fun g h=>?_⟩
 cases h2 h
 exact ⟨_,rfl⟩
theorem vL {q:Program}{loose:List Str}{mean:ExcName->Option Value}{mg mb:Str->Option Value}{h:Heap}{x:Str}{n:Str}{P:Pg}(T:Top q loose mean mg mb h)(hs:valOf q x=some (.str n))(hn:n.length<=lim/\PyData.strOk n=true):∃u,mg x=some u/\∀g h,Rp P g h (.str n) u:=by
 obtain ⟨v,h1,h2⟩:=T.const x _ hs
 refine ⟨v,h1,fun g h=>?_⟩
 cases h2 h
 exact ⟨⟨hn.2,hn.1⟩,_,rfl⟩
theorem ye:∀{vs:List Value} {ns:List Int},IntsAre vs ns->oZ ns vs
 |_,_,.nil=>rfl
 |_,_,.cons n t r=>⟨t,_,rfl,ye r⟩
noncomputable abbrev g0 (h:Heap):Gh:=⟨fun a=>h.get? a≠none,fun _=>False,fun _=>none,0,0⟩
noncomputable abbrev g1 (h:Heap)(a:Addr):Gh:=⟨fun a=>h.get? a≠none,fun b=>b=a,fun _=>none,a,0⟩
theorem BW {P:Pg}{h he:Heap}{s0:Int}{tk:Nat}(hs:P.h₀=h)(keep:∀a o,h.get? a=some o->he.get? a=some o)(w2:∀a o,he.get? a=some o->(he.push (aX #[.int s0 tk] 0)).get? a=some o):bf P (g1 h he.objs.size) (he.push (aX #[.int s0 tk] 0)) ⟨s0,none⟩:=
 have bk:=bw keep
 have pS:=bD (h:=he) (aX #[.int s0 tk] 0)
 ⟨fun a o e=>have e:h.get? a=some o:=hs▸e;⟨ao e,w2 a o (keep a o e)⟩,fun a f e=>f (bk a (bw w2 a e)),fun a z=>by rw [show a=_ from z];exact ⟨ao pS,fun f=>f (bk _ (aD _))⟩,(fun a q=>let ⟨_,q⟩:=q;nomatch q),(fun _ _ _ q=>nomatch q),⟨⟨tk,0,pS⟩,rfl,fun _ _ z=>z⟩,fun _ _ q=>nomatch q⟩
theorem BX {P:Pg}{B:bn}{U:List Nat}{env:Env}{h he hh:Heap}{ns:List Int}{m:Nat}(w2:∀a o,he.get? a=some o->hh.get? a=some o)(E1:bb P B ⟨[],U,false⟩ env (g0 h) (frame [.scr ns] m) he):bb P B ⟨[],U,false⟩ env (g1 h he.objs.size) (frame [.scr ns] m) hh:=
 {E1 with
  ns:=let ⟨m,n⟩:=E1.ns;⟨m,n.at (w2 _)⟩
  cell:=fun i y k ht hk=>let ⟨c,u,h1,o,e,d⟩:=E1.cell i y k ht hk;⟨c,u,h1,o,w2 _ _ e,d⟩
  own:=fun a ha=>⟨fun e=>(E1.own a ha).1 (bw w2 a e),(E1.own a ha).2.1,fun z=>(E1.own a ha).1 (by rw [show a=_ from z];exact aD _),fun ⟨_,q⟩=>nomatch q⟩
  var:=fun i y t ht hv=>by
   obtain ⟨u,v,q⟩:=E1.var i y t ht hv
   refine ⟨u,v.move fun a _=>w2 a,?_⟩
   cases i with
   |zero=>cases dy hv;exact .inl (q.elim (fun r=>r) fun r=>nomatch r.1)
   |succ i=>cases dy hv}
def A8 (Q:Value->Shared->Prop)(r:Result)(s':Shared):Prop:=match r with |.ok (.ret v)=>Q v s' |_=>False
theorem wR {Q:Value->Shared->Prop}:∀{r:Result} {s':Shared},A8 Q r s'->match r with |.ok (.ret x)=>Q x s' |.ok _=>False |.error _=>False
 |.ok (.ret _),_,q=>q
 |.ok .next,_,q=>q
 |.ok .brk,_,q=>q
 |.ok .cont,_,q=>q
 |.error _,_,q=>q
end
end Mine
namespace Mine
noncomputable section
open PySem PyProof.Rows PySem.SeqAt
section
variable {P:Pg} {B Bc:bn} {C Ci:Ct} {fr:Bool} {c i:Nat} {y name:Str} {k:NameKind} {np apos cpos pos p:Pos} {e:Expr} {pe:PE} {ms:List (Str×Nat)}
theorem bindL (hc:ch C i false Ci=true)(ht:Bc.tab[i]?=some (some (y,.local))):jS P (vW P Bc C Ci (.Name y p) (bz i) (j1 none)):=jS.one hc ht (.inl rfl)
theorem bindC (hc:ch C i false Ci=true)(ht:Bc.tab[i]?=some (some (y,.cell))):jS P (vW P Bc C Ci (.Name y p) (bz i) (j1 (some y))):=jS.one hc ht (.inr rfl)
theorem aL.app (hv:br C i=true)(ht:B.tab[i]?=some (some (y,k)))(hline:(apos.endLine==cpos.line)=true)(hbase:∀env,attributeBase (.Name y np) (ofString "append") env (eval (.Name y np) env)=eval (.Name y np) env)(htrees:∀env,backTo cpos (starEach [e] env)=[(false,eval e env)])
  (hw:∀env,swapsWith (.Call (.Attribute (.Name y np) (ofString "append") apos) [e] [] cpos) none pos.line env=pure false)(h:aq P B C e pe (RV P)):aL P B C fr C (.Expr (.Call (.Attribute (.Name y np) (ofString "append") apos) [e] [] cpos) pos) (jb i dC pe):=
 aL.mut (R:=RV P) mD hv ht (fun _ _ _ _ _ r=>r) kQ hbase hline htrees hw h
theorem aL.ext (hv:br C i=true)(ht:B.tab[i]?=some (some (y,k)))(hline:(apos.endLine==cpos.line)=true)(hbase:∀env,attributeBase (.Name y np) (ofString "extend") env (eval (.Name y np) env)=eval (.Name y np) env)(htrees:∀env,backTo cpos (starEach [e] env)=[(false,eval e env)])
  (hw:∀env,swapsWith (.Call (.Attribute (.Name y np) (ofString "extend") apos) [e] [] cpos) none pos.line env=pure false)(h:aq P B C e pe (RX P)):aL P B C fr C (.Expr (.Call (.Attribute (.Name y np) (ofString "extend") apos) [e] [] cpos) pos) (jb i jH pe):=
 aL.mut (R:=RX P) yj hv ht (fun _ _ _ _ _ r=>r) vE hbase hline htrees hw h
theorem aq.lenF (O:bj P c ms)(hn:(bX c)[i]?=some name)(ht:B.tab[0]?=some (some (y,k)))(hx:B.sc.names.lookup (ofString "len")=some .globalImplicit)(hn':∀env,starEach [.Attribute (.Name y np) name apos] env=[(false,eval (.Attribute (.Name y np) name apos) env)]):aq P B C (.Call (.Name (ofString "len") p) [.Attribute (.Name y np) name apos] [] pos) (p1 bJ (pE c i)) (RV P):=
 aq.b1Y kH xL (fun _ q=>by cases q) hx (by decide) (by decide) (by decide) hn' (aq.fld O hn ht)
end
section
variable {P:Pg} {B:bn} {C C':Ct} {fr:Bool} {n i j:Nat} {A:Around} {env:Env} {g g':Gh} {V:aY} {J:Sg} {s s':Shared} {h h':Heap} {y y':Str} {k k':NameKind} {np apos cpos pos:Pos}
theorem yi:y5 .list (ofString "pop") "list.pop":=⟨F.slot_list_pop,F.type_list_pop⟩
inductive Gq (P:Pg) (g:Gh) (h:Heap) (xs:List T) (vs:Array Value) (t:T):Prop
 |mk (u:Value) (e:vs[vs.size - 1]?=some u) (r:Rp P g h t u) (rs:aO P g h xs.dropLast (vs.eraseIdxIfInBounds (vs.size - 1)).toList) (l:xs.dropLast.length<=xs.length)
theorem u6 {xs:List T}{vs:Array Value}{t:T}(r:aO P g h xs vs.toList)(e:xs.getLast?=some t):Gq P g h xs vs t:=by
 have hz:=r.size
 rw [List.getLast?_eq_getElem?,<-hz] at e
 obtain ⟨u,hu,q⟩:=r.get e
 rw [Array.getElem?_toList] at hu
 have h1:vs.size - 1 < vs.size:=by rw [hz];have:=(aj e).1;lia
 refine ⟨u,hu,q,?_,by rw [List.length_dropLast];lia⟩
 have e1:vs.eraseIdxIfInBounds (vs.size - 1)=vs.eraseIdx (vs.size - 1) h1:=by rw [Array.eraseIdxIfInBounds,dif_pos h1]
 rw [e1,Array.toList_eraseIdx,List.eraseIdx_eq_take_drop_succ,List.dropLast_eq_take,hz,List.drop_of_length_le (by rw [Array.length_toList,hz];lia -abstractProof),append_nil]
 exact r.take _
theorem aL.pop {zs:List iw}{kt:Nat}{pt:Pos}(hz:Ba B C zs=true)(hv:br C j=true)(ht:B.tab[j]?=some (some (y,k)))(hs:∀env,swapsWithSole [.Tuple (zs.map iw.e) kt pt] (.Call (.Attribute (.Name y np) (ofString "pop") apos) [] [] cpos) pos.line env=pure false)(hw:∀env,swappedStores [.Tuple (zs.map iw.e) kt pt] (.Call (.Attribute (.Name y np) (ofString "pop") apos) [] [] cpos) env=pure none)
  (hbase:∀env,attributeBase (.Name y np) (ofString "pop") env (eval (.Name y np) env)=eval (.Name y np) env)(hline:(apos.endLine==cpos.line)=true):aL P B C fr C (.Assign [.Tuple (zs.map iw.e) kt pt] (.Call (.Attribute (.Name y np) (ofString "pop") apos) [] [] cpos) pos) (wY j (zs.map (·.i))):=fun n A env g V J s kk Q E X hb hq hr=>by
 obtain ⟨ρ',e⟩:=cf hb
 obtain ⟨x,e0,e1⟩:=ax e
 obtain ⟨xs,e2,e3⟩:=ax e1
 obtain ⟨t,e4,e5⟩:=ax e3
 obtain ⟨ts,e6,e7⟩:=ax e5
 cases fg e2
 cases kP e6
 obtain ⟨u,va,q⟩:=X.env.var j _ _ ht e0
 unfold bA at q
 rw [hv] at q
 obtain ⟨a,rfl,oi,vs,m,a1,a3,a2⟩:=q
 obtain ⟨u,hu,ru,rs,l⟩:=u6 a2 e4
 refine Assign_Tuple (wpAny_Call_method0_late (hbase env) hline (bq X ht va ⟨_,_,MK.plain .list,yi.slot,yi.ty,⟨_,a1,rfl⟩,fun b e=>⟨_,Value.ref.inj e▸a1,rfl⟩,PySem.P.pop_list a1 hu ?_ (ba (by rw [a2.size];exact a3))⟩)) (hs env) (hw env)
 obtain ⟨pS,X'⟩:=lA (y:=.lst xs.dropLast) X hv (by rw [e0];exact fun q=>by cases q) oi va (Heap.SameBut.update s.heap a (Obj.mapSeq fun v=>v.eraseIdxIfInBounds (vs.size - 1))).2 (fun kf=>⟨_,_,IsL.update a1 (fun v=>v.eraseIdxIfInBounds (vs.size - 1)),le_trans l a3,rs.mono kf⟩) s.toks
 have kf:aN g s.heap g (s.heap.update a (Obj.mapSeq fun v=>v.eraseIdxIfInBounds (vs.size - 1))):=pS.k X.g fun b hb=>(X.env.own b hb).2.1
 obtain ⟨b,rfl,f,us,m',b1,_,rb⟩:=Rp.mono kf ru
 exact i5 hz e7 X' b1 rb fun s' p' X''=>hq s' g ρ' J (by unfold wY;rw [e];rfl) (pS.trans p'.toS) X''
theorem aL.pop0 {px cp:Pos}{kk:Nat}(hv:br C j=true)(ht:B.tab[j]?=some (some (y,k)))(hc:ch C i false C=true)(ht':B.tab[i]?=some (some (y',k')))(hk:k'=.local\/k'=.cell)(hw:v6 (.Call (.Attribute (.Name y np) (ofString "pop") apos) [.Constant (.int 0) kk cp] [] cpos) y' px pos.line B.sc=false)
  (hbase:∀env,attributeBase (.Name y np) (ofString "pop") env (eval (.Name y np) env)=eval (.Name y np) env)(hline:(apos.endLine==cpos.line)=true)(htrees:∀env,backTo cpos (starEach [.Constant (.int 0) kk cp] env)=[(false,eval (.Constant (.int 0) kk cp) env)]):
  aL P B C fr C (.Assign [.Name y' px] (.Call (.Attribute (.Name y np) (ofString "pop") apos) [.Constant (.int 0) kk cp] [] cpos) pos) (oE j i):=fun n A env g V J s kk Q E X hb hq hr=>by
 obtain ⟨ρ',e⟩:=cf hb
 obtain ⟨x,e0,e1⟩:=ax e
 obtain ⟨xs,e2,e3⟩:=ax e1
 obtain ⟨t,e4,e5⟩:=ax e3
 cases fg e2
 cases e5
 obtain ⟨u,va,q⟩:=X.env.var j _ _ ht e0
 unfold bA at q
 rw [hv] at q
 obtain ⟨a,rfl,oi,vs,m,a1,a3,a2⟩:=q
 cases xs with
 |nil=>cases e4
 |cons x xs=>
  cases e4
  obtain ⟨z,us,hus,rz,ru⟩:=id a2
  have h0:0 < vs.size:=by rw [a2.size];exact Nat.zero_lt_succ _
  have hz0:vs[0]?=some z:=by rw [<-Array.getElem?_toList,hus];rfl
  have hup:(vs.eraseIdxIfInBounds 0).toList=us:=by
   have e1:vs.eraseIdxIfInBounds 0=vs.eraseIdx 0 h0:=by rw [Array.eraseIdxIfInBounds,dif_pos h0]
   rw [e1,Array.toList_eraseIdx,hus];rfl
  refine wpAny_Assign_Name (iY yi hbase hline htrees (bq X ht va ⟨mz (K:=.list) a1 rfl rfl,wpAny_Constant_int (call_meets F.slot_list_pop ⟨_,a1,rfl⟩ F.entry_list_pop (F.args_list_pop_2 _ _) (PySem.MeetsSeq.list_pop_at a vs m 0 _ 0 z (by decide) ?_ hz0 (ba (by rw [a2.size];exact a3))) ⟨a1,?_⟩)⟩)) (by rw [gx X.env.sc,hw])
  .have h1:(0:Int) < vs.size:=bP h0
   show (if (decide ((0:Int)<=0)&&decide ((0:Int) < vs.size))=true then some (0:Int).toNat else none)=some 0
   rw [decide_eq_true h1];rfl
  .obtain ⟨pS,X'⟩:=lA (y:=.lst xs) X hv (by rw [e0];exact fun q=>by cases q) oi va (Heap.SameBut.update s.heap a (Obj.mapSeq fun v=>v.eraseIdxIfInBounds 0)).2 (fun kf=>⟨_,_,IsL.update a1 (fun v=>v.eraseIdxIfInBounds 0),Nat.le_of_succ_le a3,by rw [hup];exact ru.mono kf⟩) (s.toks+1)
   have kf:aN g s.heap g (s.heap.update a (Obj.mapSeq fun v=>v.eraseIdxIfInBounds 0)):=pS.k X.g fun b hb=>(X.env.own b hb).2.1
   exact ib X' hc ht' hk (Rp.mono kf rz) fun s' p' X''=>hq s' g _ J (by unfold oE;rw [e];rfl) (pS.trans (p'.toS.weak cY)) X''
theorem aO.rep {xs:List T}{vs:List Value}(r:aO P g h xs vs):∀k:Nat,aO P g h (replicate k xs).flatten (replicate k vs).flatten
 | 0=>rfl
 |k+1=>by
  rw [List.replicate_succ,List.replicate_succ,flatten_cons,flatten_cons]
  exact aO.append (aO.rep r k) r
theorem Ee:qw P (AT P (binaryOp .Mult)) uX (RN P):=fun A env g J s x x' t t' y Q E rm w q q' e hq=>by
 unfold uX at e
 obtain ⟨xs,k,e1,e2,e3⟩:=bp e
 obtain ⟨c,rfl⟩:=dj e3
 obtain ⟨c1,c23⟩:=ah c
 obtain ⟨c2,c3⟩:=ah c23
 have h0:=of_decide_eq_true c1
 have h1:=of_decide_eq_true c2
 have h2:=le_of_ble_eq_true c3
 obtain ⟨l,rfl,vs,n,a1,a3,a2⟩:=q.ls e1
 obtain ⟨u,rfl⟩:=q'.i e2
 have hz:=a2.size
 have q1:k.toNat<=1000:=by lia -abstractProof
 have hz':vs.size * k.toNat<=1000000:=Nat.mul_le_mul (hz▸h2) q1
 refine wpAny_binaryOp_repeat_ref (T:="list") (U:="int") (by decide) ⟨_,a1,rfl⟩ (fun s'=>typeIs_int s' k u) noFill_list_mul F.fills_int_mul F.slot_int_rmul repeat_list F.slot_int_index.lookup
  (call_meets F.slot_int_rmul (typeIs_int s k u) F.entry_int_rmul (F.args_int_rmul_2 _ _) (lm_int_rmul_list_any k u l vs n _ _)
   ⟨a1,rfl,⟨_,a1,rfl⟩,call_meets F.slot_list_mul ⟨_,a1,rfl⟩ F.entry_list_mul (F.args_list_mul_2 _ _)
    (lm_list_mul_any l vs n _ _ k u (by simp [Builtin.List.listFitsIndex];lia -abstractProof) (by lia) (by simp [Builtin.List.listTooLong,sizeLine];lia))
    ⟨a1,?_⟩⟩)
 rw [listMul_foldl_if]
 refine uf w (a2.rep k.toNat) ?_ hq
 rw [<-(a2.rep k.toNat).length,List.length_flatten,List.map_replicate,List.sum_replicate_nat,Array.length_toList,Nat.mul_comm]
 exact hz'
end
noncomputable def tZ {α:Type}(lo hi st:Option Int)(xs:List α):List α:=
 (sliceRange (sliceBounds lo hi st xs.length).1 (sliceBounds lo hi st xs.length).2.1 (sliceBounds lo hi st xs.length).2.2).filterMap (xs[·]?)
section
variable {P:Pg} {B:bn} {C:Ct} {A:Around} {g:Gh} {h:Heap}
theorem u9 (items:Array Value)(lo hi st:Option Int):slicePick items lo hi st=(tZ lo hi st items.toList).toArray:=by
 simp [slicePick,tZ]
theorem qM {α:Type}(xs:List α):∀m,m<=xs.length->(List.range m).filterMap (fun k=>xs[xs.length - 1 - k]?)=xs.reverse.take m
 | 0,_=>rfl
 |m+1,h=>by
  rw [List.range_succ,List.filterMap_append,qM xs m (Nat.le_of_succ_le h),List.take_add_one,List.getElem?_reverse (by lia -abstractProof)]
  have:∀f:Nat->Option α,List.filterMap f [m]=(f m).toList:=fun f=>by rw [List.filterMap_cons];cases f m<;>rfl
  rw [this]
theorem w0 {α:Type}(xs:List α):tZ none none (some (-1)) xs=xs.reverse:=by
 unfold tZ
 have e:sliceRange (sliceBounds none none (some (-1)) xs.length).1 (sliceBounds none none (some (-1)) xs.length).2.1 (sliceBounds none none (some (-1)) xs.length).2.2=(List.range xs.length).map fun k=>xs.length - 1 - k:=by
  show sliceRange ((xs.length:Int) - 1) (-1) (-1)=_
  unfold sliceRange
  rw [if_neg (by decide)]
  have:((if (xs.length:Int) - 1 > -1 then ((xs.length:Int) - 1 - -1 - -1 - 1) / -(-1) else 0)).toNat=xs.length:=by
   rw [show -(-1:Int)=1 from rfl,Int.ediv_one,show (xs.length:Int) - 1 - -1 - -1 - 1=xs.length by lia]
   rcases Nat.eq_zero_or_pos xs.length with q |q
   .rw [q];rfl
   .rw [if_pos (show (xs.length:Int) - 1 > -1 by lia)];rfl
  simp only [this]
  refine map_congr_left fun k hk=>?_
  have:=bY hk
  lia -abstractProof
 rw [e,List.filterMap_map]
 exact (qM xs xs.length (le_refl _)).trans (by rw [<-length_reverse,take_length])
theorem aO.reverse {ts:List T}{vs:List Value}(r:aO P g h ts vs):aO P g h ts.reverse vs.reverse:=aO.of (by rw [length_reverse,length_reverse];exact r.length) fun i v t h1 h2=>by
 have l2:=(aj h2).1
 rw [length_reverse] at l2
 rw [List.getElem?_reverse (r.length.symm▸l2),r.length] at h1
 rw [List.getElem?_reverse l2] at h2
 obtain ⟨v',e,q⟩:=r.get h2
 rw [h1] at e;cases e;exact q
theorem aq.rev {a:Expr}{pa:PE}{kc:Nat}{pc pu ps pos:Pos}(ha:aq P B C a pa (RX P)):aq P B C (.Subscript a (.Slice Option.none Option.none (some (.UnaryOp .USub (.Constant (.int 1) kc pc) pu)) ps) pos) (p1 sF pa) (RV P):=
 (ha.bind (N:=fun A env x Q E s=>wpAny P.M A (eval (.Slice Option.none Option.none (some (.UnaryOp .USub (.Constant (.int 1) kc pc) pu)) ps) env) (fun y s2=>wpAny P.M A (subscriptTail a (.Slice Option.none Option.none (some (.UnaryOp .USub (.Constant (.int 1) kc pc) pu)) ps) x y) Q E s2) E s) (F:=fun _ _ k t J=>up (sF t) J k) (R':=RV P) kH
  fun n A env g g₁ V J s s₁ x t k Q E p X r hb hq=>by
   obtain ⟨u,e⟩:=cf hb
   obtain ⟨xs,e1,e2⟩:=ax e
   cases e2
   rw [arm_eval_Slice]
   refine wpAny_bind (wpAny_pure (wpAny_bind (wpAny_holding (wpAny_pure (wpAny_bind (wpAny_holding ?_))))))
   refine aq.neg (cB.vx aq.int) n A env g₁ V J s₁ (fun t J=>.ret t J) _ _ X (fun q=>by cases q) fun v s2 g2 t2 J2 ea p2 w2 r2=>?_
   cases ea
   obtain ⟨tk,rfl⟩:=r2
   refine wpAny_newObj_type ?_ (by show (3:Nat)<=sizeLine+2;decide)
   have p3:aC g2 s2 g2 {s2 with heap:=s2.heap.push {cls:=.type "slice",data:=.fields #[.none,.none,.int (-1) tk]},toks:=s2.toks}:=.push _ _
   obtain ⟨l,rfl,vs,m,b1,b3,b2⟩:=(ly.post w2 p3 (ly.post X.g p2 r)).y.ls e1
   refine tail_any ⟨_,b1,rfl⟩ slot_list_getitem.lookup (wpAny_getItem_list_slice (lo:=Option.none) (hi:=Option.none) (st:=some (-1)) ⟨_,b1,rfl,m,rfl⟩ (Heap.IsSliceOf.new s2.heap _ _ _) .none .none (.int _ _) (by decide) ?_ (ba (b2.size▸b3))) rfl
   rw [u9,w0]
   exact jC (tk:=s2.toks) (s:={s2 with heap:=s2.heap.push {cls:=.type "slice",data:=.fields #[.none,.none,.int (-1) tk]},toks:=s2.toks}) (w2.push _) b2.reverse (by rw [length_reverse];exact b3) fun u s' g' p w r=>hq u s' g' _ J (by rw [e];rfl) ((p2.trans p3).trans p) w r).map fun _ _ _ _ _=>Subscript_
def GT (P:Pg)(scope:Scope)(x1 x2:Str)(elt:Expr)(f:Bool->Bool->Bool):Prop:=
 ∀(A:Around) (env:Env) s m b c (Q:Value->Shared->Prop) (E:Value->Shared->Prop),env.scope.kind=.function->env.kindOf x1=some .local->env.kindOf x2=some .local->s.heap.Ns env.locals m->m x1=some (.bool b)->m x2=some (.bool c)->Q (.bool (f b c)) s->wpAny P.M A (eval elt env) Q E s
inductive GQ (P:Pg) (h:Heap) (f:Bool->Bool->Bool) (t:T) (u v:Value):Prop
 |mk (l1 l2:Addr) (vs ws:Array Value) (nv nw:Nat) (bs cs:List Bool) (h0:u=.ref l1) (h1:v=.ref l2) (h2:h.get? l1=some (aX vs nv)) (h3:h.get? l2=some (aX ws nw)) (h4:vs=(bs.map Value.bool).toArray) (h5:ws=(cs.map Value.bool).toArray) (h6:bs.length<=lim) (h7:t=.lst ((List.zipWith f bs cs).map T.bool))
noncomputable def Hv (scope:Scope)(x1 x2:Str):Bool:=scope.kind==.function&&(scope.names.all (fun x=>!(x.2==.local)||scope.names.lookup x.1==some .local)&&(scope.names.all (fun x=>!(x.2==.cell)&&!(x.2==.free))&&((scope.names.lookup x1==some .local)&&((scope.names.lookup x2==some .local)&&!(x1==x2)))))
end
end
end Mine
namespace Mine
noncomputable section
open PySem PySem.W PyProof.Rows PySem.SeqAt
noncomputable def oQ {α Z:Type}(f:α->Z->Option Z):List α->Z->Option Z
 | [],b=>some b
 |x::r,b=>o1 (f x b) (oQ f r)
def FL (ks:List T)(kn o:T)(ds:List (List T)):Option (List (List T)):=o1 (kA ks o) fun i=>o1 i fun j=>o1 ds[j]? fun l=>bif cq (l.length+1) then some (ds.set j (l++[kn])) else none
theorem oM (ks:List T)(kn:T):∀(os:List T) (ds:List (List T)),ku ks kn os ds=oQ (FL ks kn) os ds
 | [],_=>rfl
 |o::os,ds=>by
  show o1 (kA ks o) _=o1 (o1 (kA ks o) _) _
  cases kA ks o with
  |none=>rfl
  |some i=>cases i with
   |none=>rfl
   |some j=>
    show o1 ds[j]? _=o1 (o1 ds[j]? _) _
    cases ds[j]? with
    |none=>rfl
    |some l=>
     show (bif cq (l.length+1) then _ else _)=o1 (bif cq (l.length+1) then _ else _) _
     cases cq (l.length+1) with
     |false=>rfl
     |true=>exact oM ks kn os _
def GC (ks:List T)(th kn:T)(ds:List (List T)):Option (List (List T)):=o1 (idxD th kn) fun l=>o1 (fG l) fun os=>ku ks kn os ds
theorem oL (ks:List T)(th:T):∀(ns:List T) (ds:List (List T)),rj ks th ns ds=oQ (GC ks th) ns ds
 | [],_=>rfl
 |n::ns,ds=>by
  show o1 (idxD th n) _=o1 (o1 (idxD th n) _) _
  cases idxD th n with
  |none=>rfl
  |some l=>
   show o1 (fG l) _=o1 (o1 (fG l) _) _
   cases fG l with
   |none=>rfl
   |some os=>
    show o1 (ku ks n os ds) _=o1 (ku ks n os ds) _
    cases ku ks n os ds with
    |none=>rfl
    |some d=>exact oL ks th ns d
inductive vX (P:Pg) (env:Env) (g:Gh) (h:Heap) (a:Addr) (as:List Addr) (ks:List T) (ds:List (List T)):Prop
 |mk (q:(a==sysModules)=false) (o:Obj) (es:List DictEntry) (e:h.get? a=some o) (d:GU P.w ks o es) (r:aO P g h ks (es.map (·.key))) (v:es.map (·.val)=as.map Value.ref)
  (nd:as.Nodup) (na:a∉as) (lm:jU g env (a::as)) (l:as.length=ds.length) (c:∀(i:Nat) (x:Addr) (ts:List T),as[i]?=some x->ds[i]?=some ts->hY P g h x (.lst ts))
section
variable {P:Pg} {B:bn} {C:Ct} {n i:Nat} {A:Around} {env:Env} {g g':Gh} {V:aY} {J:Sg} {s s':Shared} {h h':Heap} {a:Addr} {as:List Addr} {ks:List T} {ds:List (List T)} {y:Str} {k:NameKind}
theorem vX.keep (L:vX P env g h a as ks ds)(kf:aN g h g' h')(kv:∀b∈a::as,∀o,h.get? b=some o->h'.get? b=some o)(lm:jU g' env (a::as)):vX P env g' h' a as ks ds:=by
 obtain ⟨q,o,es,e,d,r,v,nd,na,_,l,c⟩:=L
 exact ⟨q,o,es,kv a mem_cons_self _ e,d,r.mono kf,v,nd,na,lm,l,fun i x ts h1 h2=>(c i x ts h1 h2).mono kf (kv x (mem_cons_of_mem _ (mem_of_getElem? h1)))⟩
theorem vX.vol (L:vX P env g h a as ks ds):jU g env (a::as):=let ⟨_,_,_,_,_,_,_,_,_,lm,_,_⟩:=L;lm
theorem vX.live (L:vX P env g h a as ks ds):∀b∈a::as,h.get? b≠none:=fun b hb=>by
 obtain ⟨q,o,es,e,d,r,v,nd,na,lm,l,c⟩:=L
 rcases an hb with rfl |hb
 .exact ao e
 .obtain ⟨i,hi⟩:=List.getElem?_of_mem hb
  have:i < ds.length:=l▸(aj hi).1
  exact (c i b _ hi (getElem?_eq_getElem this)).live
structure cV (P:Pg) (B:bn) (C:Ct) (n:Nat) (A:Around) (env:Env) (J:Sg) (a:Addr) (as:List Addr) (ks:List T) (g:Gh) (V:aY) (s:Shared) (ds:List (List T)):Prop where
 X:At P B C n A env g V J s
 va:bH B env s.heap 1 (.ref a)
 L:vX P env g s.heap a as ks ds
theorem cV.post (Y:cV P B C n A env J a as ks g V s ds)(p:aC g s g' s')(w:bf P g' s'.heap J):cV P B C n A env J a as ks g' V s' ds:=
 have v:=Y.L.vol.p Y.L.live p
 ⟨Y.X.post p w,Y.va.move fun b hb o e=>p.keep b o e (Y.X.env.own b hb).2.2.1,Y.L.keep (p.k Y.X.g) v.2 v.1⟩
theorem FD {W vol:List Addr}(v:jU g env vol)(l:∀a∈vol,s.heap.get? a≠none)(hW:∀a∈vol,a∉W)(p:aQ [] W g s g' s'):jU g' env vol/\∀a∈vol,∀o,s.heap.get? a=some o->s'.heap.get? a=some o:=
 ⟨fun a ha=>let ⟨f,z,o,w⟩:=v a ha;⟨fun q=>(p.Fn a q).elim f fun q=>q.elim o (l a ha),fun q=>(p.Zn a q).elim z (l a ha),fun q=>(p.On a q).elim o (l a ha),w⟩,fun a ha o e=>let ⟨_,z,q,_⟩:=v a ha;p.keep a o e z q (hW a ha)⟩
theorem cV.turn {I:Addr}(Y:cV P B C n A env J a as ks g V s ds)(hv:jU g env [I])(hI:I∉a::as)(hkp:∀b o,s.heap.get? b=some o->b∉[I]->h'.get? b=some o)(tk:Nat):bC [I] [I] g s g {s with heap:=h',toks:=tk}/\cV P B C n A env J a as ks g V {s with heap:=h',toks:=tk} ds:=by
 obtain ⟨pV,X'⟩:=cW Y.X hv hkp tk
 have iv:=hv I (ay rfl)
 exact ⟨pV,X',Y.va.move fun b hb o e=>hkp b o e fun q=>iv.2.2.2 (aa q▸hb),Y.L.keep (pV.toS.k Y.X.g fun b hb=>(hv b hb).1) (fun b hb o e=>hkp b o e fun q=>hI (aa q▸hb)) Y.L.vol⟩
theorem cV.store {t:T}{u:Value}{Q:Unit->Shared->Prop}{E:Value->Shared->Prop}(Y:cV P B C n A env J a as ks g V s ds)(hc:ch C i false C=true)(ht:B.tab[i]?=some (some (y,k)))(hk:k=.local\/k=.cell)(h1:1≠i)(r:Rp P g s.heap t u)
  (hq:∀s',bC [] (own env) g s g s'->cV P B C n A env J a as ks g (V.set i (some t)) s' ds->Q () s'):wpAny P.M A (storeName env y u) Q E s:=by
 obtain ⟨hs,ho⟩:=dF hc
 have X2:At P B C n A env g (V.set i none) J s:=⟨Y.X.good,Y.X.call,Y.X.room,Y.X.env.forget hs (.refl g i) fun a ha=>(Y.X.env.own a ha).2.2.2,Y.X.g⟩
 refine jk X2 hs.nu ht hk (by unfold bA;rw [ho];exact .inl r) fun s' p X' hot=>?_
 have p:bC [] (own env) g s g s':=p.weak (fun _ h=>h) cY
 rw [set_set] at X'
 have v:=Y.L.vol.post Y.L.live p.toS
 exact hq s' p ⟨X',hot 1 _ h1 Y.va,Y.L.keep (p.toS.k Y.X.g fun a ha=>(Y.X.env.own a ha).2.1) v.2 v.1⟩
theorem aQ.mono {VVV W W':List Addr}(p:aQ VVV W g s g' s')(hw:∀a∈W,a∈W'):aQ VVV W' g s g' s':={p with keep:=fun a o e z q n=>p.keep a o e z q fun x=>n (hw a x)}
theorem CQ {body:List Stmt}{p:Pos}{f:T->List (List T)->Option (List (List T))}{K:aY->Prop}{I l:Addr}{ts:List T}{vs:Array Value}{m:Nat}{R:Result->Shared->Prop}(hc:ch C i false C=true)(ht:B.tab[i]?=some (some (y,k)))(hk:k=.local\/k=.cell)(h1:1≠i)(hK:∀V t,K V->K (V.set i (some t))/\b9 (V.set i (some t)) i=some t)
  (hb:∀t g V s ds ds1 (Q:Flow->Shared->Prop) (E:Value->Shared->Prop),f t ds=some ds1->cV P B C n A env J a as ks g V s ds->K V->b9 V i=some t->(∀s' g' ρ',aQ [] (as++own env) g s g' s'->cV P B C n A env J a as ks g' ρ' s' ds1->K ρ'->Q .next s')->wpAny P.M A (execs body env) Q E s)(hI:I∉a::as):
  ∀(rest:List T) (j:Nat) (g:Gh) (V:aY) (s:Shared) (ds ds':List (List T)),j<=ts.length->ts.drop j=rest->cV P B C n A env J a as ks g V s ds->K V->jU g env [I]->(s.heap.IsListIter I l j/\g.F l/\s.heap.get? l=some (aX vs m)/\aO P g s.heap ts vs.toList)->oQ f rest ds=some ds'->
   (∀s' g' ρ',aQ [I] (I::(as++own env)) g s g' s'->cV P B C n A env J a as ks g' ρ' s' ds'->K ρ'->R (.ok .next) s')->codeAny P.M A (.forLoop (.Name y p) (.ref I) body [] env) R s:=by
 intro rest
 induction rest with
 |nil=>
  intro j g V s ds ds' hle hd Y kr hv st e hq
  cases e
  obtain rfl:j=ts.length:=le_antisymm hle (List.drop_eq_nil_iff.mp hd)
  refine jG ((n5.list (P:=P) Y.X.room.2.2).done g s _ _ st fun h' tk hkp=>?_)
  obtain ⟨pV,Y'⟩:=Y.turn hv hI hkp tk
  exact hq _ g V (pV.toS.mono fun b hb=>mem_cons.mpr (.inl (aa hb))) Y' kr
 |cons t rest ih=>
  intro j g V s ds ds' hle hd Y kr hv st e hq
  obtain ⟨ds1,e1,e2⟩:=ax (show o1 (f t ds) (oQ f rest)=some ds' from e)
  have hiv:ts[j]?=some t:=by rw [<-head?_drop,hd];rfl
  have hj:j < ts.length:=(aj hiv).1
  have hd':ts.drop (j+1)=rest:=by rw [<-tail_drop,hd];rfl
  refine jG ((n5.list (P:=P) Y.X.room.2.2).item j t g s _ _ hiv st (fun b hb=>(hv b hb).1) fun u h' tk hkp r st'=>?_)
  obtain ⟨pV,Y'⟩:=Y.turn hv hI hkp tk
  have lI:∀b∈[I],h'.get? b≠none:=fun b hb=>by rw [aa hb];exact let ⟨_,e,_⟩:=st'.1;ao e
  have pV:=eh pV lI
  refine wpAny_pure (wpAny_assign_Name (Y'.store hc ht hk h1 r fun s3 p3 Y3=>hb t g _ s3 ds ds1 _ _ e1 Y3 (hK V t kr).1 (hK V t kr).2 fun s4 g4 V4 p4 Y4 k4=>?_))
  have st3:=(n5.list (P:=P) Y.X.room.2.2).stay _ _ _ _ _ st' (p3.toS.k Y'.X.g fun a ha=>(Y'.X.env.own a ha).2.1) (hv.post (s:={s with heap:=h',toks:=tk}) lI p3.toS).2
  have lI3:∀b∈[I],s3.heap.get? b≠none:=fun b hb=>by rw [aa hb];exact let ⟨_,e,_⟩:=st3.1;ao e
  have iv:=hv I (ay rfl)
  obtain ⟨hv4,kp4⟩:=FD hv lI3 (fun b hb q=>by
   rw [aa hb] at q
   exact (ag q).elim (fun q=>hI (mem_cons_of_mem _ q)) iv.2.2.2) p4
  have st4:=(n5.list (P:=P) Y.X.room.2.2).stay _ _ _ _ _ st3 (p4.k Y3.X.g fun b hb=>(ag hb).elim (fun q=>(Y3.L.vol b (mem_cons_of_mem _ q)).1) fun q=>(Y3.X.env.own b q).2.1) kp4
  have p04:aQ [] (I::(as++own env)) g s g4 s4:=(pV.toS.mono fun b hb=>mem_cons.mpr (.inl (aa hb))).trans ((p3.toS.mono fun b hb=>mem_cons_of_mem _ (mem_append_right _ hb)).trans (p4.mono fun b hb=>mem_cons_of_mem _ hb))
  exact ih (j+1) g4 V4 s4 ds1 ds' hj hd' Y4 k4 hv4 st4 e2 fun s' g' ρ' p' Y' k'=>hq s' g' ρ' (p04.trans p') Y' k'
end
section
variable {P:Pg} {B:bn} {C:Ct} {n i:Nat} {A:Around} {env:Env} {g g' g₁:Gh} {V:aY} {J:Sg} {s s' s₁:Shared} {h h':Heap} {a:Addr} {as:List Addr} {ks:List T} {ds ds1:List (List T)} {ms:List (Str×Nat)}
theorem pH {v:Option T}:∀{V:aY} {i j:Nat},j≠i->b9 (V.set i v) j=b9 V j
 | [],_,_,_=>rfl
 |_::_,0,0,h=>(h rfl).elim
 |_::_,0,_+1,_=>rfl
 |_::_,_+1,0,_=>rfl
 |_::V,i+1,j+1,h=>pH (V:=V) fun e=>h (congrArg (·+1) e)
theorem sQ {v:Option T}:∀{V:aY} {i:Nat},i < V.length->b9 (V.set i v) i=v
 | [],_,h=>(Nat.not_lt_zero _ h).elim
 |_::_,0,_=>rfl
 |_::V,i+1,h=>sQ (V:=V) (Nat.lt_of_succ_lt_succ h)
theorem aQ.drop {I:Addr}{W:List Addr}(p:aC g s g₁ s₁)(hI:s.heap.get? I=none)(q:aQ [I] (I::W) g₁ s₁ g' s'):aQ [] W g s g' s' where
 st:=St.trans p.st q.st
 keep a o e z o' w:=q.keep a o (p.keep a o e z) (fun x=>(p.Zn a x).elim z (ao e)) (fun ⟨i,x⟩=>o' ⟨i,p.o▸x⟩) fun x=>(an x).elim (fun x=>ao e (x▸hI)) w
 back a _ e:=by
  by_cases x:a=I
  .exact x▸hI
  .exact p.back a (q.back a (fun y=>x (aa y)) e)
 F a f:=q.F a (p.F a f)
 Fn a f:=(q.Fn a f).elim (fun f=>(p.Fn a f).imp_right .inr) fun x=>.inr (x.imp (fun ⟨i,x⟩=>⟨i,p.o▸x⟩) (p.back a))
 Zn a f:=(q.Zn a f).elim (p.Zn a) fun x=>.inr (p.back a x)
 On a f:=(q.On a f).imp (fun ⟨i,x⟩=>⟨i,p.o▸x⟩) (p.back a)
 sp:=q.sp.trans p.sp
 sa:=q.sa.trans p.sa
theorem xN {fo ot kn':Str}{k1 k2 k3:NameKind}{p1 p2 p3 sp ap cp pos:Pos}{kn o:T}{Q:Flow->Shared->Prop}{E:Value->Shared->Prop}(ht1:B.tab[1]?=some (some (fo,k1)))(ht2:B.tab[2]?=some (some (kn',k2)))(ht3:B.tab[3]?=some (some (ot,k3)))(hv2:j0 C 2=true)(hv3:j0 C 3=true)
  (hbase:∀env,attributeBase (.Subscript (.Name fo p1) (.Name ot p2) sp) (ofString "append") env (eval (.Subscript (.Name fo p1) (.Name ot p2) sp) env)=eval (.Subscript (.Name fo p1) (.Name ot p2) sp) env)(hline:(ap.endLine==cp.line)=true)(htrees:∀env,backTo cp (starEach [.Name kn' p3] env)=[(false,eval (.Name kn' p3) env)])
  (hw:∀env,swapsWith (.Call (.Attribute (.Subscript (.Name fo p1) (.Name ot p2) sp) (ofString "append") ap) [.Name kn' p3] [] cp) none pos.line env=pure false)
  (Y:cV P B C n A env J a as ks g V s ds)(e2:b9 V 2=some kn)(e3:b9 V 3=some o)(est:FL ks kn o ds=some ds1)(hq:∀s',aQ [] (as++own env) g s g s'->cV P B C n A env J a as ks g V s' ds1->Q .next s'):
  wpAny P.M A (exec (.Expr (.Call (.Attribute (.Subscript (.Name fo p1) (.Name ot p2) sp) (ofString "append") ap) [.Name kn' p3] [] cp) pos) env) Q E s:=by
 obtain ⟨i,f1,f2⟩:=ax est
 obtain ⟨j,rfl,f3⟩:=ax f2
 obtain ⟨l,f4,f5⟩:=ax f3
 obtain ⟨hf,rfl⟩:=dj f5
 have X:=Y.X
 obtain ⟨u3,v3,q3⟩:=X.env.var 3 _ o ht3 e3
 obtain ⟨u2,v2,q2⟩:=X.env.var 2 _ kn ht2 e2
 have r3:=je hv3 q3
 have r2:=je hv2 q2
 obtain ⟨H,hk⟩:=kx f1
 obtain ⟨ad,rfl,hi,_⟩:=mw hk (.inl r3)
 obtain ⟨q,ob,es,e,d,r,v,nd,na,lm,ll,c⟩:=id Y.L
 obtain ⟨κs,c1,c2,c3⟩:=d.k
 obtain ⟨ep,dd⟩:=d.d
 obtain ⟨xs,g1,g2,g3⟩:=uy es ks κs r c1 c2
 have dh:s.heap.DictOfH (bL P.prog P.w) a xs:=⟨ob,_,ep,e,d.x,dd,g1,g3,by rw [g2];exact c3⟩
 have ff:=jM (by rw [g2];exact c1) f1 hk
 obtain ⟨z,hz,hz'⟩:=lM ff
 rw [g1,map_map] at v
 have vj:(as.map Value.ref)[j]?=some z.2.2:=by rw [<-v,getElem?_map,hz];rfl
 rw [getElem?_map] at vj
 obtain ⟨x,hx,hxv⟩:=ar vj
 have cl:=c j x l hx f4
 have xm:x∈as:=mem_of_getElem? hx
 rw [exec_Expr env _ pos (by simp [interactive,X.fn]) (hw env)]
 refine wpAny_bind (wpAny_standAt (wpAny_bind (iY mD hbase hline htrees (Subscript_ (bq X ht1 Y.va (bq X ht3 v3 (tail_any dh.typeIs slot_dict_getitem.lookup (wpAny_getItem_heap (tV X.rm.units) hi dh (p:=z.2) (by rw [nQ,ff,bind_some,hz];rfl) ?_) rfl)))))))
 rw [<-hxv]
 refine ⟨uj (t:=.lst l) (.inr ⟨x,rfl,cl⟩) rfl,bq (X.post (.toks g s _) X.g:At P B C n A env g V J {s with toks:=s.toks+(bL P.prog P.w).draws H}) ht2 v2 ?_⟩
 refine kQ A g J _ x u2 (.lst l) kn (.lst (l++[kn])) _ _ X.rm X.g cl r2 (by show (bif cq (l.length+1) then some _ else Option.none)=_;rw [hf];rfl) fun h' tk hs hy=>wpAny_dropValue ?_
 have vx:jU g env [x]:=fun b hb=>aa hb▸lm x (mem_cons_of_mem _ xm)
 have kk:∀b o,s.heap.get? b=some o->b∉[x]->h'.get? b=some o:=fun b o e hb=>(hs b fun q=>hb (ay q)).trans e
 obtain ⟨pV,X'⟩:=cW X vx kk tk
 have kf:aN g s.heap g h':=pV.toS.k X.g fun b hb=>(vx b hb).1
 have rx:=hy kf
 have pV:=eh pV fun b hb=>by rw [aa hb];exact rx.live
 refine hq _ (pV.toS.mono fun b hb=>mem_append_left _ (aa hb▸xm)) ⟨X',Y.va.move fun b hb o e=>kk b o e fun q=>(lm x (mem_cons_of_mem _ xm)).2.2.2 (aa q▸hb),q,ob,es,kk a ob e fun q=>na (aa q▸xm),d,r.mono kf,by rw [g1,map_map];exact v,nd,na,lm,by rw [length_set];exact ll,fun i b ts h1 h2=>?_⟩
 by_cases ij:i=j
 .subst ij
  rw [hx] at h1;cases h1
  rw [List.getElem?_set_self (aj f4).1] at h2;cases h2
  exact rx
 .rw [List.getElem?_set_ne (Ne.symm ij)] at h2
  refine (c i b ts h1 h2).mono kf fun o e=>kk b o e fun q=>ij ?_
  rw [aa q] at h1
  exact (List.getElem?_inj (aj h1).1 nd).mp (h1.trans hx.symm)
theorem ug {iter:Expr}{pi:PE}{body:List Stmt}{y:Str}{k:NameKind}{tp pos:Pos}{f:T->List (List T)->Option (List (List T))}{K:aY->Prop}{ts:List T}{Q:Flow->Shared->Prop}{E:Value->Shared->Prop}(hfs:∀env x,foldedSetIterable iter env x=pure x)(hi:aq P B C iter pi (RV P))(hc:ch C i false C=true)(ht:B.tab[i]?=some (some (y,k)))(hk:k=.local\/k=.cell)(h1:1≠i)(hK:∀V t,K V->K (V.set i (some t))/\b9 (V.set i (some t)) i=some t)
  (hb:∀t g V s ds ds1 (Q:Flow->Shared->Prop) (E:Value->Shared->Prop),f t ds=some ds1->cV P B C n A env J a as ks g V s ds->K V->b9 V i=some t->(∀s' g' ρ',aQ [] (as++own env) g s g' s'->cV P B C n A env J a as ks g' ρ' s' ds1->K ρ'->Q .next s')->wpAny P.M A (execs body env) Q E s)
  (Y:cV P B C n A env J a as ks g V s ds)(kr:K V)(hp:pi (P.cx n) V J (fun t J=>.ret t J)=.ret (.lst ts) J)(e:oQ f ts ds=some ds1)(hq:∀s' g' ρ',aQ [] (as++own env) g s g' s'->cV P B C n A env J a as ks g' ρ' s' ds1->K ρ'->Q .next s'):
  wpAny P.M A (exec (.For (.Name y tp) iter body [] pos) env) Q E s:=by
 refine wpAny_For (hi n A env g V J s (fun t J=>.ret t J) _ _ Y.X (by rw [hp];exact fun q=>by cases q) fun x s₁ g₁ t J1 e1 p w r=>?_) (hfs env)
 rw [hp] at e1;cases e1
 obtain ⟨l,rfl,fl,vs,m,b1,b3,b2⟩:=r
 refine wpAny_pyIter_list ⟨_,b1,rfl,m,rfl⟩ ?_
 obtain ⟨p',w',v⟩:=sT (X:=vq "list_iterator" l) (tk:=s₁.toks) w p
 have Y1:=Y.post p w
 have pp:aC g₁ s₁ g₁ {s₁ with heap:=s₁.heap.push (vq "list_iterator" l),toks:=s₁.toks}:=.push _ _
 have Y2:=Y1.post pp w'
 have hI:=v s₁.heap.objs.size (ay rfl)
 refine CQ hc ht hk h1 hK hb (fun q=>Y1.L.live _ q (aD _)) ts 0 g₁ V _ ds ds1 (zero_le _) rfl Y2 kr (fun b hb=>?_) ⟨⟨_,bD _,rfl,rfl⟩,fl,bM s₁ _ _ _ b1,b2.mono (pp.k w)⟩ e fun s' g' ρ' q Y' k'=>hq s' g' ρ' (aQ.drop p' hI.1 q) Y' k'
 rw [aa hb]
 exact ⟨hI.2.1,hI.2.2,fun ⟨j,q⟩=>(Y.X.g.O _ ⟨j,p.o▸q⟩).1 hI.1,fun q=>(Y.X.env.own _ q).1 hI.1⟩
end
structure zj (h₀ h:Heap) (items:Array Value) (ps:List (Addr×Addr)):Prop where
 nw:∀p∈ps,h₀.get? p.1=none/\h₀.get? p.2=none
 nd:(ps.map (·.2)).Nodup
 at_:∀(i:Nat) (p:Addr×Addr),ps[i]?=some p->∃v m,items[i]?=some v/\h.get? p.1=some (gn #[v,.ref p.2] m)/\h.get? p.2=some (aX #[] 0)
theorem zj.keep {h₀ h h':Heap}{items:Array Value}{ps:List (Addr×Addr)}(q:zj h₀ h items ps)(k:∀p∈ps,(∀o,h.get? p.1=some o->h'.get? p.1=some o)/\∀o,h.get? p.2=some o->h'.get? p.2=some o):zj h₀ h' items ps:=
 ⟨q.nw,q.nd,fun i p e=>let ⟨v,m,h1,h2,h3⟩:=q.at_ i p e;⟨v,m,h1,(k p (mem_of_getElem? e)).1 _ h2,(k p (mem_of_getElem? e)).2 _ h3⟩⟩
theorem zj.live {h₀ h:Heap}{items:Array Value}{ps:List (Addr×Addr)}(q:zj h₀ h items ps):∀p∈ps,(∃m v,h.get? p.1=some (gn v m))/\h.get? p.2=some (aX #[] 0):=fun p hp=>by
 obtain ⟨i,hi⟩:=List.getElem?_of_mem hp
 obtain ⟨v,m,_,h2,h3⟩:=q.at_ i p hi
 exact ⟨⟨m,_,h2⟩,h3⟩
section
variable {P:Pg} {A:Around}
theorem Ae {I D l:Addr}{c:Nat}{cenv:Env}{x:Str}{px p1 p2 pt pos:Pos}{kt:Nat}{iter:Expr}{scope:Scope}{items:Array Value}{h₀:Heap}(hh:A.handled=none)(hkd:cenv.scope.kind=.function)(hkn:cenv.kindOf x=some .local)(hd:(x==("__debug__":Str))=false)(hz:items.size<=lim)
  (lI:h₀.get? I≠none)(lD:h₀.get? D≠none)(lL:h₀.get? cenv.locals≠none)(nID:I≠D)(nIL:I≠cenv.locals)(nDL:D≠cenv.locals)(hl:h₀.get? l=some (aX items c))(nl:l≠I/\l≠D/\l≠cenv.locals):
  ∀(k i:Nat) (s:Shared) (acc:Array Value) (cnt:Nat) (m:Str->Option Value) (ps:List (Addr×Addr)) (R:Result->Shared->Prop),items.size - i=k->i<=items.size->(∀b o,b≠I->b≠D->b≠cenv.locals->h₀.get? b=some o->s.heap.get? b=some o)->s.heap.IsListIter I l i->s.heap.Ns cenv.locals m->s.heap.get? D=some (aX acc cnt)->acc.toList=ps.map (fun p=>Value.ref p.1)->ps.length=i->zj h₀ s.heap items ps->
   (∀h' tk acc' cnt' m' ps',(∀b o,b≠I->b≠D->b≠cenv.locals->h₀.get? b=some o->h'.get? b=some o)->h'.Ns cenv.locals m'->h'.get? D=some (aX acc' cnt')->acc'.toList=ps'.map (fun p=>Value.ref p.1)->ps'.length=items.size->zj h₀ h' items ps'->R (.ok .next) {s with heap:=h',toks:=tk})->
   codeAny P.M A (.compLoop (.ListComp (.Tuple [.Name x p1,.List [] p2] kt pt) [⟨.Name x px,iter,[],0⟩] scope pos) 0 (.ref I) (.ref D) cenv) R s:=by
 have hp:(cenv.scope.kind==.class||(cenv.scope.kind==.module&&cenv.locals !=cenv.globals))=false:=by rw [hkd];rfl
 have out:∀{b:Addr},h₀.get? b=none->b≠I/\b≠D/\b≠cenv.locals:=fun e=>⟨fun q=>lI (q▸e),fun q=>lD (q▸e),fun q=>lL (q▸e)⟩
 intro k
 induction k with
 |zero=>
  intro i s acc cnt m ps R hk hi kp it hn hD' ea el pr hR
  obtain rfl:i=items.size:=le_antisymm hi (Nat.le_of_sub_eq_zero hk)
  refine d9 (wpAny_pyNext_list_end hh it ⟨_,kp _ _ nl.1 nl.2.1 nl.2.2 hl,rfl,c,rfl⟩ (Array.getElem?_eq_none (le_refl _)) fun h' hs=>?_)
  exact hR h' s.toks acc cnt m ps (fun b o n1 n2 n3 e=>hs b o n1 (kp b o n1 n2 n3 e)) (hn.at fun o e=>hs _ o (Ne.symm nIL) e) (hs D _ (Ne.symm nID) hD') ea el (pr.keep fun p hp=>⟨fun o e=>hs _ o (out (pr.nw p hp).1).1 e,fun o e=>hs _ o (out (pr.nw p hp).2).1 e⟩)
 |succ k ih=>
  intro i s acc cnt m ps R hk hi kp it hn hD' ea el pr hR
  have hlt:i < items.size:=Nat.lt_of_sub_eq_succ hk
  refine d9 (wpAny_pyNext_list_item it ⟨_,kp _ _ nl.1 nl.2.1 nl.2.2 hl,rfl,c,rfl⟩ (Array.getElem?_eq_getElem hlt) fun ha it1 hs1=>?_)
  have hn1:ha.Ns cenv.locals m:=hn.at fun o e=>(hs1.2 _ (Ne.symm nIL)).trans e
  refine wpAny_pure (wpAny_assign_Name (wpAny_storeName_local hkn hn1 (fun hc hn2 hs2=>wpAny_tests_nil ?_) hp))
  rw [if_pos rfl]
  refine (wpAny_Tuple (wpAny_items_cons (wpAny_Name (wpAny_loadName_local hkd hkn hn2 (if_pos rfl) (wpAny_items_cons (wpAny_List (wpAny_items_nil ⟨zero_le _,wpAny_items_nil ⟨(show 2<=sizeLine by decide),?_⟩⟩)) rfl)) hd) rfl))
  have k2:∀b o,b≠I->b≠cenv.locals->s.heap.get? b=some o->hc.get? b=some o:=fun b o n1 n2 e=>(hs2.2 b n2).trans ((hs1.2 b n1).trans e)
  have k4:∀b o,hc.get? b=some o->((hc.push (aX #[] 0)).push (gn #[items[i],.ref hc.objs.size] 0)).get? b=some o:=fun b o e=>Heap.get?_push_of_some _ (Heap.get?_push_of_some _ e)
  have n2:hc.get? hc.objs.size=none:=aD _
  have n3:(hc.push (aX #[] 0)).get? (hc.push (aX #[] 0)).objs.size=none:=aD _
  have d2:∀{b:Addr},hc.get? b=none->h₀.get? b=none:=fun {b} e=>by
   cases q:h₀.get? b with
   |none=>rfl
   |some o=>
    by_cases b1:b=I
    .exact (let ⟨_,z,_⟩:=it1;ao ((hs2.2 I nIL).trans z) (b1▸e)).elim
    .by_cases b2:b=cenv.locals
     .exact (let ⟨_,_,_,z,_⟩:=hn2;ao z (b2▸e)).elim
     .by_cases b3:b=D
      .exact (ao (k2 D _ (Ne.symm nID) nDL hD') (b3▸e)).elim
      .exact (ao (k2 b o b1 b2 (kp b o b1 b3 b2 q)) e).elim
  have d3:hc.get? (hc.push (aX #[] 0)).objs.size=none:=bw (fun b o e=>Heap.get?_push_of_some _ e) _ n3
  have pr2:zj h₀ hc items ps:=pr.keep fun p hp=>⟨fun o e=>k2 _ o (out (pr.nw p hp).1).1 (out (pr.nw p hp).1).2.2 e,fun o e=>k2 _ o (out (pr.nw p hp).2).1 (out (pr.nw p hp).2).2.2 e⟩
  refine d5 (k4 _ _ (k2 D _ (Ne.symm nID) nDL hD')) ?_ (ba (by have:=congrArg List.length ea;rw [length_map,el,Array.length_toList] at this;rw [this];exact le_trans (le_of_lt hlt) hz))
  have hs5:=Heap.SameBut.update ((hc.push (aX #[] 0)).push (gn #[items[i],.ref hc.objs.size] 0)) D (Obj.mapSeq fun a=>a.push (.ref (hc.push (aX #[] 0)).objs.size))
  have t1:((hc.push (aX #[] 0)).push (gn #[items[i],.ref hc.objs.size] 0)).get? (hc.push (aX #[] 0)).objs.size=some (gn #[items[i],.ref hc.objs.size] 0):=bD _
  have t2:((hc.push (aX #[] 0)).push (gn #[items[i],.ref hc.objs.size] 0)).get? hc.objs.size=some (aX #[] 0):=Heap.get?_push_of_some _ (bD _)
  have o1:=out (d2 d3)
  have o2:=out (d2 n2)
  refine ih (i+1) _ _ _ _ (ps++[((hc.push (aX #[] 0)).objs.size,hc.objs.size)]) R (A2 hk) hlt (fun b o n1 n2 n3 e=>(hs5.2 b n2).trans (k4 b o (k2 b o n1 n3 (kp b o n1 n2 n3 e)))) (let ⟨o,z,r⟩:=it1;⟨o,(hs5.2 I nID).trans (k4 I o ((hs2.2 I nIL).trans z)),r⟩) (hn2.at fun o e=>(hs5.2 _ (Ne.symm nDL)).trans (k4 _ o e)) (IsL.update (k4 _ _ (k2 D _ (Ne.symm nID) nDL hD')) _) (by rw [Array.toList_push,ea,map_append];rfl) (by rw [List.length_append,el];rfl) ⟨fun p hp=>?_,?_,fun j p e=>?_⟩ fun h' tk acc' cnt' m' ps'=>hR h' tk acc' cnt' m' ps'
  .rcases ag hp with hp |hp
   .exact pr.nw p hp
   .rw [aa hp];exact ⟨d2 d3,d2 n2⟩
  .rw [map_append,nodup_append]
   refine ⟨pr.nd,pairwise_singleton _ _,fun b hb b' hb' q=>?_⟩
   obtain ⟨p,hp,rfl⟩:=aG hb
   rw [aa (show b'∈[hc.objs.size] from hb')] at q
   have:=(pr2.live p hp).2
   rw [q,n2] at this;cases this
  .by_cases q:j < ps.length
   .rw [getElem?_append_left q] at e
    have hp:=mem_of_getElem? e
    obtain ⟨v,m,h1,h2,h3⟩:=pr2.at_ j p e
    exact ⟨v,m,h1,(hs5.2 _ (out (pr.nw p hp).1).2.1).trans (k4 _ _ h2),(hs5.2 _ (out (pr.nw p hp).2).2.1).trans (k4 _ _ h3)⟩
   .rw [getElem?_append_right (bW q)] at e
    have:=(aj e).1
    rw [length_singleton] at this
    rw [lt_one_iff.mp this] at e
    cases e
    exact ⟨items[i],0,by rw [(le_antisymm (Nat.sub_eq_zero_iff_le.mp (lt_one_iff.mp this)) (bW q)).trans el];exact Array.getElem?_eq_getElem hlt,(hs5.2 _ o1.2.1).trans t1,(hs5.2 _ o2.2.1).trans t2⟩
end
section
variable {P:Pg} {B:bn} {C:Ct} {n i:Nat} {A:Around} {env:Env} {g g' g₁:Gh} {V:aY} {J:Sg} {s s' s₁:Shared} {h h':Heap} {a:Addr} {as:List Addr} {ks:List T} {ds ds1:List (List T)} {ms:List (Str×Nat)}
inductive LA (P:Pg) (h:Heap) (o:Option i9) (a:Addr):Prop
 |mk (e:i9) (us:Array Value) (m:Nat) (he:o=some e) (hg:h.get? a=some (gn us m)) (hu:us.toList=[.ref e.2.1,e.2.2]) (hk:(bL P.prog P.w).is h e.1 e.2.1)
structure LE (P:Pg) (h:Heap) (vs:List Value) (κs:List Ky) (ps:List (Addr×Addr)) (es:List i9):Prop where
 k:es.map (·.1)=κs
 v:es.map (·.2.2)=ps.map (fun p=>Value.ref p.2)
 e:vs=es.map (fun y=>Value.ref y.2.1)
 a:∀(i:Nat) p,ps[i]?=some p->LA P h es[i]? p.1
theorem rh:∀(ks:List T) (vs:List Value) (κs:List Ky) (ps:List (Addr×Addr)),aO P g h ks vs->fy ks=some κs->ps.length=vs.length->(∀(i:Nat) p v,ps[i]?=some p->vs[i]?=some v->∃m,h.get? p.1=some (gn #[v,.ref p.2] m))->
  ∃es:List i9,LE P h vs κs ps es
 | [],vs,κs,ps,r,e,l,_=>by
  cases r;cases e
  cases List.length_eq_zero_iff.mp l
  exact ⟨[],rfl,rfl,rfl,fun i p q=>by cases q⟩
 |t::ks,_,κs,ps,⟨v,vs,e0,q,r⟩,e,l,c=>by
  subst e0
  obtain ⟨H,Hs',e1,e2,e3⟩:=bp (show o2 (xT t) (fy ks) _=some κs from e)
  cases e3
  cases ps with
  |nil=>cases l
  |cons p ps=>
   obtain ⟨ad,rfl,hi,_⟩:=mw e1 (.inl q)
   obtain ⟨m,hm⟩:=c 0 p _ rfl rfl
   obtain ⟨es,h1,h2,h3,h4⟩:=rh ks vs Hs' ps r e2 (Nat.succ.inj l) fun i p v q1 q2=>c (i+1) p v q1 q2
   refine ⟨(H,ad,.ref p.2)::es,by rw [map_cons,h1],by rw [map_cons,h2];rfl,by rw [map_cons,<-h3],fun j p' hj=>?_⟩
   cases j with
   |zero=>cases hj;exact ⟨_,_,m,rfl,hm,rfl,hi⟩
   |succ j=>exact h4 j p' hj
theorem oP:∀{ks us:List T},eH ks us=true->∃κs,fy ks=some κs
 | [],_,_=>⟨[],rfl⟩
 |k::ks,us,e=>by
  rw [mH] at e
  match q:kA us k with
  |some none=>
   rw [q] at e
   obtain ⟨H,hk⟩:=kx q
   obtain ⟨κs,h⟩:=oP (ks:=ks) e
   exact ⟨H::κs,by show o2 (xT k) (fy ks) _=_;rw [hk,h];rfl⟩
  |some (some _)=>rw [q] at e;cases e
  |none=>rw [q] at e;cases e
theorem mY:∀(ks us:List T) (xs es:List i9),eH ks us=true->fy us=some (xs.map (·.1))->fy ks=some (es.map (·.1))->m5 es xs=xs++es
 | [],us,xs,es,_,_,e=>by
  cases es with
  |nil=>rw [append_nil];rfl
  |cons=>cases e
 |k::ks,us,xs,es,hf,hu,e=>by
  obtain ⟨H,κs,e1,e2,e3⟩:=bp (show o2 (xT k) (fy ks) _=some (es.map (·.1)) from e)
  cases es with
  |nil=>cases e3
  |cons x es=>
   have e3:=Option.some.inj e3
   obtain ⟨rfl,e4⟩:=List.cons.inj e3
   rw [mH] at hf
   match q:kA us k with
   |some none=>
    rw [q] at hf
    have at0:atKey xs x.1=none:=by rw [nQ,jM hu q e1];rfl
    have st:storedH xs x.1 x.2.1 x.2.2=xs++[x]:=storedH_new at0 _ _
    have:=mY ks (us++[k]) (xs++[x]) es hf (by rw [map_append];exact s9 hu e1) (by rw [e2,e4])
    show m5 es (storedH xs x.1 x.2.1 x.2.2)=_
    rw [st,this,List.append_assoc];rfl
   |some (some _)=>rw [q] at hf;cases hf
   |none=>rw [q] at hf;cases hf
theorem vX.new {acc items:Array Value}{cnt:Nat}{D:Addr}{ps:List (Addr×Addr)}{Q:Value->Shared->Prop}{E:Value->Shared->Prop}(G:fJ P)(rm:Rm A)(w:bf P g s₁.heap J)(r:aO P g s₁.heap ks items.toList)(hl:ks.length<=lim)(hf:eH ks []=true)(hD:s₁.heap.get? D=some (aX acc cnt))(ea:acc.toList=ps.map fun p=>Value.ref p.1)(el:ps.length=items.size)(pr:zj h s₁.heap items ps)
  (hn:∀p∈ps,¬g.F p.2/\¬g.Z p.2)(ho:∀b,h.get? b=none->¬g.O b/\b∉own env)(hw:∀b∈own env,s₁.heap.get? b≠none)
  (hq:∀S s',aC g s₁ g s'->bf P g s'.heap J->vX P env g s'.heap S (ps.map (·.2)) ks (ks.map fun _=>[])->s₁.heap.get? S=none->Q (.ref S) s'):wpAny P.M A (call (.type "dict") [.ref D]) Q E s₁:=by
 obtain ⟨κs,hk⟩:=oP hf
 obtain ⟨es,h1,h2,h3,h4⟩:=rh ks _ κs ps r hk (by rw [el];rfl) fun i p v q1 q2=>by
  obtain ⟨v',m,z1,z2,_⟩:=pr.at_ i p q1
  rw [Array.getElem?_toList,z1] at q2
  cases q2;exact ⟨m,z2⟩
 have hz:acc.size=ps.length:=by have:=congrArg List.length ea;rw [length_map] at this;exact this
 have le:es.length=ps.length:=by have:=congrArg List.length h2;rw [length_map,length_map] at this;exact this
 have li:=r.length
 refine gg (es:=es) (by have:=rm.units;lia -abstractProof) rm.handled hD (by rw [le,hz]) (by rw [hz,el];rw [Array.length_toList] at li;rw [li];exact hl) (fun i v hv=>?_) fun h' tk dd kp=>?_
 .rw [<-Array.getElem?_toList,ea,getElem?_map] at hv
  obtain ⟨p,hp,rfl⟩:=ar hv
  obtain ⟨e,us,m,z1,z2,z3,z4⟩:=h4 i p hp
  exact ⟨p.1,e,us,m,rfl,z1,z2,z3,z4⟩
 have ef:=mY ks [] [] es hf rfl (by rw [h1];exact hk)
 rw [nil_append] at ef
 rw [ef] at dd
 obtain ⟨o,es',ep,e,x,d,q1,q3,q4⟩:=dd
 have pp:aC g s₁ g {s₁ with heap:=h',toks:=tk}:=.grow tk kp g.F (fun _ f=>f) fun _ f=>.inl f
 have dn:=aD s₁.heap
 have lps:∀b∈ps.map (·.2),s₁.heap.get? b=some (aX #[] 0)/\h.get? b=none/\¬g.F b/\¬g.Z b:=fun b hb=>by
  obtain ⟨p,hp,rfl⟩:=aG hb
  exact ⟨(pr.live p hp).2,(pr.nw p hp).2,hn p hp⟩
 refine hq _ _ pp (w.grow kp g.F (fun _ f=>f) fun _ f=>.inl f) ⟨o6 G w,o,es'.toList,e,⟨x,⟨ep,d⟩,⟨κs,hk,?_,?_⟩,hl⟩,?_,?_,pr.nd,fun q=>?_,fun b hb=>?_,?_,fun i b ts b1 b2=>?_⟩ dn
 .rw [q1,map_map,<-h1,map_map];rfl
 .rw [<-h1];exact q4
 .rw [q1,map_map]
  show aO P g h' ks (es.map fun y=>Value.ref y.2.1)
  rw [<-h3];exact r.mono (pp.k w)
 .rw [q1,map_map,map_map]
  exact h2
 .have:=(lps _ q).1
  rw [dn] at this;cases this
 .rcases an hb with rfl |hb
  .obtain ⟨z1,z2,z3⟩:=cZ w
   exact ⟨z1,z2,z3,fun q=>hw _ q dn⟩
  .obtain ⟨_,z1,z2,z3⟩:=lps b hb
   exact ⟨z2,z3,(ho b z1).1,(ho b z1).2⟩
 .rw [length_map,length_map,el];rw [Array.length_toList] at li;exact li
 .rw [getElem?_map] at b2
  obtain ⟨_,_,rfl⟩:=ar b2
  exact ⟨#[],0,kp _ _ (lps b (mem_of_getElem? b1)).1,zero_le _,rfl⟩
end
noncomputable def GM (scope:Scope)(x:Str):Bool:=scope.kind==.function&&(scope.names.all (fun x=>!(x.2==.local)||scope.names.lookup x.1==some .local)&&(scope.names.all (fun x=>!(x.2==.cell)&&!(x.2==.free))&&((scope.names.lookup x==some .local)&&!(x==("__debug__":Str)))))
section
variable {P:Pg} {B:bn} {C C':Ct} {n i:Nat} {A:Around} {env:Env} {g g' g₁:Gh} {V:aY} {J:Sg} {s s' s₁:Shared} {h h':Heap} {a:Addr} {as:List Addr} {ks:List T} {ds ds1:List (List T)} {ms:List (Str×Nat)}
theorem rY {c j:Nat}{w t:T}(e0:b9 V 0=some w)(hk:nR c j w=some t):p1 (nR c j) (pV 0) (P.cx n) V J (fun t J=>.ret t J)=.ret t J:=by
 show up (b9 V 0) J (fun a J=>up (nR c j a) J fun t J=>.ret t J)=_
 rw [e0]
 show up (nR c j w) J _=_
 rw [hk];rfl
theorem xO {x wn:Str}{k0:NameKind}{px p1 p2 pt ap np pos:Pos}{kt:Nat}{scope:Scope}{w:T}{Q:Value->Shared->Prop}{E:Value->Shared->Prop}(O:bj P 10 ms)(hB:GM scope x=true)(hv0:j0 C 0=true)(ht0:B.tab[0]?=some (some (wn,k0)))(X:At P B C n A env g V J s)(e0:b9 V 0=some w)(hk:nR 10 4 w=some (.lst ks))
  (hq:∀D acc cnt items ps s' g',aC g s g' s'->bf P g' s'.heap J->aO P g' s'.heap ks (items:Array Value).toList->ks.length<=lim->s'.heap.get? D=some (aX acc cnt)->acc.toList=ps.map (fun p:Addr×Addr=>Value.ref p.1)->ps.length=items.size->zj s.heap s'.heap items ps->(∀p∈ps,¬g'.F p.2/\¬g'.Z p.2)->Q (.ref D) s'):
  wpAny P.M A (eval (.ListComp (.Tuple [.Name x p1,.List [] p2] kt pt) [⟨.Name x px,.Attribute (.Name wn np) (ofString "knots") ap,[],0⟩] scope pos) env) Q E s:=by
 obtain ⟨b1,hB⟩:=ah hB
 obtain ⟨b2,hB⟩:=ah hB
 obtain ⟨b3,hB⟩:=ah hB
 obtain ⟨b4,b5⟩:=ah hB
 have b3:=fun y hy=>ah (aB b3 y hy)
 have hkind:scope.kind=.function:=eq_of_beq b1
 have hx:scope.names.lookup x=some .local:=eq_of_beq b4
 rw [eval_ListComp]
 refine wpAny_comprehension_free (use:=none) rfl (fun _=>rfl) (iZ (env:=env) fun y hy=>?_) hkind (fun y hy e=>?_) ?_
 .have:=(b3 _ hy).2;cases this
 .have:=aB b2 y hy
  rw [e] at this;exact eq_of_beq this
 have hp:=rY (P:=P) (n:=n) (J:=J) e0 hk
 refine aq.attr O rfl (fun _=>rfl) (fun _ _=>rfl) (aq.var hv0 ht0) n A env g V J s (fun t J=>.ret t J) _ _ X (by rw [hp];exact fun q=>by cases q) fun u s₁ g₁ t J1 e1 pa w1 r1=>?_
 rw [hp] at e1;cases e1
 obtain ⟨l,rfl,fl,items,c,c1,c3,c2⟩:=r1
 refine wpAny_pyIter_list ⟨_,c1,rfl,c,rfl⟩ (wpAny_newList (wpAny_newFunctionEnv (fun y hy e=>?_) (fun y hy=>by cases hy) (fun h5 hn5 hsb5=>?_) hkind))
 .have:=(b3 y hy).1;rw [e] at this;cases this
 dsimp only at hn5 hsb5 ⊢
 have nI:s₁.heap.get? s₁.heap.objs.size=none:=aD _
 have tI:=bD (h:=s₁.heap) (vq "list_iterator" l)
 have k3:∀b o,s₁.heap.get? b=some o->(s₁.heap.push (vq "list_iterator" l)).get? b=some o:=bM s₁ _
 show codeAny _ _ _ _ _
 generalize s₁.heap.push (vq "list_iterator" l)=h3 at *
 have nD:h3.get? h3.objs.size=none:=aD _
 have tD:=bD (h:=h3) (aX #[] 0)
 have k4:∀b o,h3.get? b=some o->(h3.push (aX #[] 0)).get? b=some o:=fun b o e=>Heap.get?_push_of_some _ e
 have hsb5:Heap.SameBut (h3.push (aX #[] 0)).objs.size ((h3.push (aX #[] 0)).push {cls:=.type "dict",data:=.dict #[]}) h5:=hsb5
 have hn5:h5.Ns (h3.push (aX #[] 0)).objs.size (fun _=>none):=hn5
 have nL:(h3.push (aX #[] 0)).get? (h3.push (aX #[] 0)).objs.size=none:=aD _
 generalize h3.push (aX #[] 0)=h4 at *
 have k5:∀b o,h4.get? b=some o->h5.get? b=some o:=fun b o e=>(hsb5.2 b fun q=>ao e (q▸nL)).trans (Heap.get?_push_of_some _ e)
 generalize h4.objs.size=L at *
 generalize h3.objs.size=D at *
 generalize s₁.heap.objs.size=I at *
 have eI:=k5 _ _ (k4 _ _ tI)
 have eD:=k5 _ _ tD
 have k1:∀b o,s₁.heap.get? b=some o->h5.get? b=some o:=fun b o e=>k5 b o (k4 b o (k3 b o e))
 have nID:I≠D:=fun q=>ao tI (q▸nD)
 have nIL:I≠L:=fun q=>ao (k4 _ _ tI) (q▸nL)
 have nDL:D≠L:=fun q=>ao tD (q▸nL)
 have nD1:s₁.heap.get? D=none:=bw k3 _ nD
 have nL1:s₁.heap.get? L=none:=bw k3 _ (bw k4 _ nL)
 have ne1:∀{b:Addr} {o:Obj},s₁.heap.get? b=some o->b≠I/\b≠D/\b≠L:=fun e=>⟨fun q=>ao e (q▸nI),fun q=>ao e (q▸nD1),fun q=>ao e (q▸nL1)⟩
 have lL:h5.get? L≠none:=let ⟨_,_,_,z,_⟩:=hn5;ao z
 have hkn:(compEnvC scope (dL env scope.names []) L env).kindOf x=some .local:=lookup_relabel_local hx
 have loop:codeAny P.M A (.compLoop (.ListComp (.Tuple [.Name x p1,.List [] p2] kt pt) [⟨.Name x px,.Attribute (.Name wn np) (ofString "knots") ap,[],0⟩] scope pos) 0 (.ref I) (.ref D) (compEnvC scope (dL env scope.names []) L env)) (compPost P.M A E none Q (.ref D) L) {s₁ with heap:=h5,toks:=s₁.toks+([]:List (Str×Value)).length}:=by
  refine Ae (h₀:=h5) X.room.2.2 hkind hkn ((not_eq_true' _).mp b5) (by have:=c2.length;rw [Array.length_toList] at this;rw [this];exact c3) (ao eI) (ao eD) lL nID nIL nDL (k1 _ _ c1) (ne1 c1) _ 0 _ #[] 0 _ [] _ rfl (zero_le _) (fun b o _ _ _ e=>e) ⟨_,eI,rfl,rfl⟩ hn5 eD rfl rfl ⟨(fun p hp=>by cases hp),.nil,fun i p e=>by cases e⟩ fun h' tk acc' cnt' m' ps' kp hn' hD' ea el pr=>⟨m',hn',fun h7 hs7=>?_⟩
  have k7:∀b o,s₁.heap.get? b=some o->h7.get? b=some o:=fun b o e=>(hs7.2 b (ne1 e).2.2).trans (kp b o (ne1 e).1 (ne1 e).2.1 (ne1 e).2.2 (k1 b o e))
  have p7:aC g₁ s₁ g₁ {s₁ with heap:=h7,toks:=tk}:=.grow tk k7 g₁.F (fun _ f=>f) fun _ f=>.inl f
  have d1:∀{b:Addr},h5.get? b=none->s₁.heap.get? b=none:=fun e=>bw k1 _ e
  refine hq D acc' cnt' items ps' _ g₁ (pa.trans p7) (w1.grow k7 g₁.F (fun _ f=>f) fun _ f=>.inl f) (c2.mono (p7.k w1)) c3 ((hs7.2 D nDL).trans hD') ea el ⟨fun p hp=>⟨pa.back _ (d1 (pr.nw p hp).1),pa.back _ (d1 (pr.nw p hp).2)⟩,pr.nd,fun i p e=>?_⟩ fun p hp=>⟨fun f=>w1.F _ f (d1 (pr.nw p hp).2),fun z=>(w1.Z _ z).1 (d1 (pr.nw p hp).2)⟩
  have hp:=mem_of_getElem? e
  obtain ⟨v,m,q1,q2,q3⟩:=pr.at_ i p e
  exact ⟨v,m,q1,(hs7.2 _ fun q=>lL (q▸(pr.nw p hp).1)).trans q2,(hs7.2 _ fun q=>lL (q▸(pr.nw p hp).2)).trans q3⟩
 exact codeAny_compStart_list loop (wpAny_pyIter_listiter ⟨_,eI,rfl,rfl⟩ loop)
theorem At.one {w:T}(X:At P B C n A env g V J s)(e0:b9 V 0=some w)(h0:0∉C.U):At P B C n A env g [some w,none,none,none] J s:=
 have k:∀{i:Nat} {t:T},b9 [some w,none,none,none] i=some t->i=0/\t=w:=fun {i t} e=>by
  match i,e with
  | 0,e=>cases e;exact ⟨rfl,rfl⟩
  | 1,e=>cases e
  | 2,e=>cases e
  | 3,e=>cases e
  |_+4,e=>cases e
 ⟨X.good,X.call,X.room,{X.env with
  var:=fun i y t ht hv=>let ⟨h1,h2⟩:=k hv;X.env.var i y t ht (by rw [h1,h2];exact e0)
  un:=fun i hi=>by
   cases e:b9 [some w,none,none,none] i with
   |none=>rfl
   |some t=>exact (h0 ((k e).1▸hi)).elim},X.g⟩
theorem bf.freezeL {l:List Addr}(w:bf P g h J)(hl:∀b∈l,h.get? b≠none/\¬g.Z b/\¬g.O b):bf P {g with F:=fun y=>g.F y\/y∈l} h J:=by
 have kf:aN g h {g with F:=fun y=>g.F y\/y∈l} h:=⟨fun b f=>⟨.inl f,fun _ e=>e⟩,rfl⟩
 exact ⟨fun b o e=>⟨.inl (w.base b o e).1,(w.base b o e).2⟩,fun b f=>f.elim (w.F b) fun q=>(hl b q).1,fun b q=>⟨(w.Z b q).1,fun f=>f.elim (w.Z b q).2 fun e=>(hl b e).2.1 q⟩,
  fun b q=>⟨(w.O b q).1,fun f=>f.elim (w.O b q).2.1 fun e=>(hl b e).2.2 q,(w.O b q).2.2⟩,w.oo,w.spot,fun c ts e=>(w.self c ts e).mono kf (fun _ q=>⟨q,fun _ e=>e⟩) rfl⟩
theorem vX.rp (L:vX P env g h a as ks ds):Rp P {g with F:=fun y=>g.F y\/y∈a::as} h (.dct ks (ds.map .lst)) (.ref a):=by
 have kf:aN g h {g with F:=fun y=>g.F y\/y∈a::as} h:=⟨fun b f=>⟨.inl f,fun _ e=>e⟩,rfl⟩
 obtain ⟨q,o,es,e,d,r,v,nd,na,lm,l,c⟩:=L
 refine ⟨a,rfl,.inr mem_cons_self,tJ.mk q o es e d (r.mono kf) ?_⟩
 rw [v]
 refine aO.of (by rw [length_map,length_map];exact l) fun i u t h1 h2=>?_
 rw [getElem?_map] at h1 h2
 obtain ⟨x,hx,rfl⟩:=ar h1
 obtain ⟨ts,ht,rfl⟩:=ar h2
 exact ((c i x ts hx ht).mono kf fun _ e=>e).rp (.inr (mem_cons_of_mem _ (mem_of_getElem? hx)))
theorem Cv {wn fo kn' ot x:Str}{k0 k1 k2 k3:NameKind}{q1 q2 q3 q4 px p1 p2 pt ap np cpos tp np2 ap2 fpos tp2 np3 ap3 sp3 kp3 fpos2 f1 f2 f3 fs fa fc fe rp rr:Pos}{kt:Nat}{scope:Scope}(O:bj P 10 ms)(hB:GM scope x=true)(h0:C.U.all (fun i=>Nat.ble 1 i)=true)(hv:(j0 C 0&&(j0 C 2&&j0 C 3))=true)(hc:(ch C 1 false C&&(ch C 2 false C&&ch C 3 false C))=true)
  (ht0:B.tab[0]?=some (some (wn,k0)))(ht1:B.tab[1]?=some (some (fo,k1)))(ht2:B.tab[2]?=some (some (kn',k2)))(ht3:B.tab[3]?=some (some (ot,k3)))(hk1:k1=.local\/k1=.cell)(hk2:k2=.local\/k2=.cell)(hk3:k3=.local\/k3=.cell)
  (hx:B.sc.names.lookup (ofString "dict")=some .globalImplicit)(hw1:v6 (.Call (.Name (ofString "dict") q2) [.ListComp (.Tuple [.Name x p1,.List [] p2] kt pt) [⟨.Name x px,.Attribute (.Name wn np) (ofString "knots") ap,[],0⟩] scope cpos] [] q3) fo q1 q4.line B.sc=false)
  (hbase:∀env,attributeBase (.Subscript (.Name fo f1) (.Name ot f2) fs) (ofString "append") env (eval (.Subscript (.Name fo f1) (.Name ot f2) fs) env)=eval (.Subscript (.Name fo f1) (.Name ot f2) fs) env)(hline:(fa.endLine==fc.line)=true)
  (hw:∀env,swapsWith (.Call (.Attribute (.Subscript (.Name fo f1) (.Name ot f2) fs) (ofString "append") fa) [.Name kn' f3] [] fc) none fe.line env=pure false):
  fH P B C false C' [.Assign [.Name fo q1] (.Call (.Name (ofString "dict") q2) [.ListComp (.Tuple [.Name x p1,.List [] p2] kt pt) [⟨.Name x px,.Attribute (.Name wn np) (ofString "knots") ap,[],0⟩] scope cpos] [] q3) q4,
   .For (.Name kn' tp) (.Attribute (.Name wn np2) (ofString "knots") ap2) [.For (.Name ot tp2) (.Subscript (.Attribute (.Name wn np3) (ofString "threads") ap3) (.Name kn' kp3) sp3) [.Expr (.Call (.Attribute (.Subscript (.Name fo f1) (.Name ot f2) fs) (ofString "append") fa) [.Name kn' f3] [] fc) fe] [] fpos2] [] fpos,
   .Return (some (.Name fo rp)) rr] uI:=fun n A env g V J s k Q E X hb hq hr=>by
 obtain ⟨hv0,hv⟩:=ah hv
 obtain ⟨hv2,hv3⟩:=ah hv
 obtain ⟨hc1,hc⟩:=ah hc
 obtain ⟨hc2,hc3⟩:=ah hc
 unfold uI at hb hr
 cases e0:b9 V 0 with
 |none=>rw [e0] at hb;exact absurd rfl hb
 |some w=>
  cases el:xP w with
  |none=>simp only [e0,el] at hb;exact absurd rfl hb
  |some t=>
   simp only [e0,el] at hr
   obtain ⟨kl,a1,a2⟩:=ax el
   obtain ⟨ks,a3,a4⟩:=ax a2
   obtain ⟨th,a5,a6⟩:=ax a4
   obtain ⟨a7,a8⟩:=qo a6
   obtain ⟨ds,a9,a10⟩:=ax a8
   cases a10
   cases fg a3
   obtain ⟨_,hf⟩:=ah a7
   rw [oL] at a9
   have X:=X.one e0 fun q=>by cases le_of_ble_eq_true (aB h0 0 q)
   refine wpAny_execs_cons (wpAny_Assign_Name (Call_Name rfl (X.blt hx (by decide) (by decide) (v:=.type "dict") (by decide) (bG (fun _ q=>by cases q) (bc fun q hq=>?_) (wpAny_items_cons (xO O hB hv0 ht0 X rfl a1 fun D acc cnt items ps s₁ g₁ pa w1 r1 l1 hD ea eq pr hn=>wpAny_items_nil ?_) rfl)))) (by rw [gx X.env.sc,hw1]))
   .cases hq with
    |head=>rfl
    |tail _ h=>cases h
   refine vX.new (env:=env) X.good X.rm w1 r1 l1 hf hD ea eq pr hn (fun b hb=>⟨fun ⟨i,q⟩=>(X.g.O b ⟨i,pa.o▸q⟩).1 hb,fun q=>(X.env.own b q).1 hb⟩) (fun b hb=>pa.live (X.env.own b hb).1) fun S s2 pb w2 L nS=>?_
   have p02:=pa.trans pb
   refine oC (o:=none) (X.post p02 w2) (dF hc1).1.nu ht1 hk1 (fun _ e=>nomatch e) fun s3 p3 X3 va _=>?_
   have p3:bC [] (own env) g₁ s2 g₁ s3:=p3.weak (fun _ h=>h) cY
   have v3:=L.vol.post L.live p3.toS
   have Y:cV P B C n A env J S (ps.map (·.2)) ks g₁ [some w,none,none,none] s3 (ks.map fun _=>[]):=⟨X3,va,L.keep (p3.toS.k w2 fun b hb=>((X.post p02 w2).env.own b hb).2.1) v3.2 v3.1⟩
   have p03:aQ [] (own env) g s g₁ s3:=p02.toS.trans p3.toS
   refine wpAny_execs_cons (ug (i:=2) (f:=GC ks th) (K:=fun V=>b9 V 0=some w/\V.length=4) (fun _ _=>rfl) (aq.attr O rfl (fun _=>rfl) (fun _ _=>rfl) (aq.var hv0 ht0)) hc2 ht2 hk2 (by decide) (fun V t h=>⟨⟨(pH (by decide)).trans h.1,by rw [length_set];exact h.2⟩,sQ (by rw [h.2];decide)⟩) (fun t g V s ds ds1 Q E e Y kr et hq=>?_) Y ⟨rfl,rfl⟩ (rY rfl a1) a9 fun s5 g5 V5 q Y5 ka=>?_)
   .obtain ⟨lv,f1,f2⟩:=ax e
    obtain ⟨os,f3,f4⟩:=ax f2
    cases fg f3
    rw [oM] at f4
    refine wpAny_execs_cons (ug (i:=3) (f:=FL ks t) (K:=fun V=>(b9 V 0=some w/\V.length=4)/\b9 V 2=some t) (fun _ _=>rfl) (aq.idxD (fun _ _=>rfl) (cB.vx (aq.attr O (i:=6) rfl (fun _=>rfl) (fun _ _=>rfl) (aq.var hv0 ht0))) (cB.vx (aq.var hv2 ht2))) hc3 ht3 hk3 (by decide) (fun V t h=>⟨⟨⟨(pH (by decide)).trans h.1.1,by rw [length_set];exact h.1.2⟩,(pH (by decide)).trans h.2⟩,sQ (by rw [h.1.2];decide)⟩) (fun o g V s ds ds1 Q E e Y kr eo hq=>?_) Y ⟨kr,et⟩ (ts:=os) ?_ f4 fun s' g' ρ' q Y' k'=>wpAny_execs_nil (hq s' g' ρ' q Y' k'.1))
    .exact wpAny_execs_cons (xN ht1 ht2 ht3 hv2 hv3 hbase hline (fun _=>rfl) hw Y kr.2 eo e fun s' q Y'=>wpAny_execs_nil (hq s' g V q Y' kr))
    .show up (b9 V 0) J (fun a J=>up (nR 10 6 a) J fun t J=>up (b9 V 2) J fun b J=>up (idxD t b) J fun t J=>.ret t J)=_
     simp only [kr.1,up,a5,et,f1]
   .have dd:∀b∈S::ps.map (·.2),s.heap.get? b=none:=fun b hb=>by
     rcases an hb with rfl |hb
     .exact pa.back _ nS
     .obtain ⟨p,hp,rfl⟩:=aG hb
      exact (pr.nw p hp).2
    have wF:=Y5.X.g.freezeL (l:=S::ps.map (·.2)) fun b hb=>⟨Y5.L.live b hb,(Y5.L.vol b hb).2.1,(Y5.L.vol b hb).2.2.1⟩
    refine wpAny_execs_cons (wpAny_Return_some (bq Y5.X ht1 Y5.va (hr _ s5 _ _ J rfl ?_ wF ⟨Y5.L.rp,fun _ _ e=>nomatch e⟩)))
    exact ⟨St.trans p03.st q.st,fun b o e z o' w=>q.keep b o (p03.keep b o e z o' w) (fun x=>(p03.Zn b x).elim z (ao e)) (fun x=>(p03.On b x).elim o' (ao e)) fun x=>(ag x).elim (fun x=>ao e (dd b (mem_cons_of_mem _ x))) w,fun b _ e=>p03.b b (q.b b e),fun b f=>.inl (q.F b (p03.F b f)),
     fun b f=>f.elim (fun f=>(q.Fn b f).elim (p03.Fn b) fun x=>.inr (x.elim (p03.On b) fun x=>.inr (p03.b b x))) fun x=>.inr (.inr (dd b x)),fun b f=>(q.Zn b f).elim (p03.Zn b) fun x=>.inr (p03.b b x),fun b f=>(q.On b f).elim (p03.On b) fun x=>.inr (p03.b b x),q.sp.trans p03.sp,q.sa.trans p03.sa⟩
end
end
end Mine
section
set_option tactic.hygienic false
namespace Mine
noncomputable section
open PySem PyProof.Rows
section
variable {P:Pg} {B:bn} {C:Ct} {e:Expr} {p:PE} {np pos:Pos} {g:Gh} {h:Heap}
theorem rA:∀{ts:List T} {vs:List Value} {ns:List Int},aO P g h ts vs->yf ts=some ns->IntsAre vs ns
 | [],_,_,r,e=>by cases e;rw [show _=[] from r];exact .nil
 |t::ts,_,_,⟨v,vs,e',r,rs⟩,e=>by
  obtain ⟨i,is,h1,h2,h3⟩:=bp e
  cases h3
  obtain ⟨k,rfl⟩:=eU.i (P:=P) (g:=g) (h:=h) (.inl r) h1
  rw [e']
  exact .cons i k (rA rs h2)
theorem Cp:wd P (Bf P (.builtin "max")) vg (RV P):=fun A env g J s x t y Q E rm w q e hq=>by
 obtain ⟨ts,e1,e2⟩:=ax e
 obtain ⟨ns,e3,e4⟩:=ax e2
 obtain ⟨l,rfl,vs,n,a1,a3,a2⟩:=q.ls e1
 have hi:=rA a2 e3
 have hne:0 < ns.length:=by
  cases ns with
  |nil=>cases e4
  |cons=>exact succ_pos _
 have ey:y=.int (oj ns):=by
  cases ns with
  |nil=>cases e4
  |cons=>exact (Option.some.inj e4).symm
 obtain ⟨xs,ex⟩:=hi.allInts.items
 have hns:ns=xs.toList.map (·.1):=by rw [<-hi.numsOf,<-nums_intItems,<-ex]
 have hsz:0 < xs.size:=by
  have h3:=hne;rw [hns,length_map,Array.length_toList] at h3;exact h3
 have hl:s.heap.IsList l (intItems xs):=by rw [<-ex,Array.toArray_toList];exact ⟨_,a1,rfl,n,rfl⟩
 refine max_intList rm.handled hl hsz fun v h' tk hv hk=>?_
 obtain ⟨t,rfl⟩:=intItems_at hv
 obtain ⟨h1,h2⟩:=argBest_gt (numAt xs) (xs.size - 1)
 have hm:oj ns=numAt xs (argBest (fun i j=>decide (numAt xs i > numAt xs j)) (xs.size - 1)):=by
  refine zW ?_ fun a ha=>?_
  .rw [hns,numAt_eq];exact getD_mem (by rw [length_map,Array.length_toList];omega)
  .rw [hns] at ha
   obtain ⟨j,hj,rfl⟩:=mem_getD ha
   rw [length_map,Array.length_toList] at hj
   rw [<-numAt_eq];exact h2 j (by omega)
 have ps:aC g s g {s with heap:=h',toks:=tk}:=.grow tk hk g.F (fun _ h=>h) fun _ h=>.inl h
 exact hq _ _ g ps (w.grow hk g.F (fun _ h=>h) fun _ h=>.inl h) (by rw [ey,hm];exact ⟨t,rfl⟩)
theorem uO:wd P (Bf P (.type "tuple")) j2 (RV P):=fun A env g J s x t y Q E rm w q e hq=>by
 obtain ⟨ts,e1,e2⟩:=ax e
 cases e2
 obtain ⟨l,rfl,vs,n,a1,a3,a2⟩:=q.ls e1
 refine call_tuple_list (items:=vs) ⟨_,a1,rfl,n,rfl⟩ (fun h' hk=>?_) (ba (a2.size▸a3))
 have kk:∀b o,s.heap.get? b=some o->(h'.push {cls:=.type "tuple",data:=.seq vs}).get? b=some o:=fun b o e=>Heap.get?_push_of_some _ (hk b o e)
 have ne:s.heap.get? h'.objs.size=none:=by
  cases q:s.heap.get? h'.objs.size with
  |none=>rfl
  |some o=>have:=hk _ _ q;rw [aD] at this;cases this
 have at_:(h'.push {cls:=.type "tuple",data:=.seq vs}).get? h'.objs.size=some (gn vs 0):=Heap.get?_push_size _ rfl
 have ps:aC g s {g with F:=fun y=>g.F y\/y=h'.objs.size} {s with heap:=h'.push {cls:=.type "tuple",data:=.seq vs},toks:=s.toks}:=.grow s.toks kk _ (fun _ h=>.inl h) fun a h=>h.elim .inl fun e=>.inr (e▸ne)
 have w':=w.grow kk (fun y=>g.F y\/y=h'.objs.size) (fun _ h=>.inl h) fun a h=>h.elim .inl fun e=>.inr (e▸⟨ne,ao at_⟩)
 exact hq _ _ _ ps w' ⟨_,rfl,.inr rfl,vs,0,at_,a3,a2.mono (ps.k w)⟩
theorem aq.maxOf (hx:BG B "max")(hn:∀env,starEach [e] env=[(false,eval e env)])(h:aq P B C e p (RX P)):aq P B C (.Call (.Name (ofString "max") np) [e] [] pos) (p1 vg p) (RV P):=aq.b1 kH Cp (fun _ q=>by cases q) hx (by decide) (by decide) (by decide) hn h
theorem aq.tupleOf (hx:BG B "tuple")(hn:∀env,starEach [e] env=[(false,eval e env)])(h:aq P B C e p (RX P)):aq P B C (.Call (.Name (ofString "tuple") np) [e] [] pos) (p1 j2 p) (RV P):=aq.b1 kH uO (fun _ q=>by cases q) hx (by decide) (by decide) (by decide) hn h
end
end
end Mine
end
end
section
namespace Mine
open PySem
noncomputable abbrev Tb:=List (Option (Str×NameKind))
noncomputable abbrev lo (x:String):Option (Str×NameKind):=some (ofString x,.local)
noncomputable abbrev ce (x:String):Option (Str×NameKind):=some (ofString x,.cell)
universe u v w
theorem rf {α:Sort u}{z:Sort v}{f:α->z}(a:α):f a=f a:=rfl
theorem cA.badZ {P:Pg}{B:bn}{C C':Ct}{fr:Bool}{ss:List Stmt}:fH P B C fr C' ss gu:=fun n A env g V J s k Q E X hb hq hr=>absurd rfl hb
end Mine
end
section
set_option tactic.hygienic false
namespace Mine
noncomputable section
open PySem PyProof.Rows
noncomputable abbrev Mo (α:Type):=Nat->Option (α×Nat)
section
variable {α w Z:Type}
noncomputable def mR (a:α):Mo α:=fun s=>some (a,s)
noncomputable def mF:Mo α:=fun _=>none
def mB (x:Mo α)(f:α->Mo w):Mo w:=fun s=>Option.rec none (fun q=>Prod.rec f q) (x s)
noncomputable def mN (f:Nat->Mo α):Mo α:=fun s=>f (s % 100) (s / 100)
noncomputable def jK (b:Bool)(f:b=true->α)(d:α):α:=Bool.rec (motive:=fun b=>(b=true->α)->α) (fun _=>d) (fun f=>f rfl) b f
def mG (b:Bool)(f:b=true->Mo α):Mo α:=jK b f mF
def m2 (a b:Mo α):Mo α:=mN fun d=>bif Nat.beq d 0 then a else b
def mU {S:w->Prop}(x:Mo {p:w // S p})(f:∀p,S p->Mo α):Mo α:=mB x fun a=>Subtype.rec f a
noncomputable def dH {α:List Z->Type}(l:List Z)(n:Mo (α []))(f:∀x r,Mo (α (x::r))):Mo (α l):=List.rec (motive:=fun l=>Mo (α l)) n (fun x r _=>f x r) l
def gk {α:List Z->Type}(l:List Z)(n:Mo (α [])):Mo (α l):=dH l n fun _ _=>mF
def n7 {α:List Z->Type}(l:List Z)(f:∀x,Mo (α [x])):Mo (α l):=dH l mF fun x r=>gk (α:=fun r=>α (x::r)) r (f x)
def FF {α:List Z->Type}(l:List Z)(f:∀x y,Mo (α [x,y])):Mo (α l):=dH l mF fun x r=>n7 (α:=fun r=>α (x::r)) r (f x)
end
theorem v9 {b:Bool}(h:(!b)=true):b=false:=(not_eq_true' b).mp h
theorem sb {Z:Type} [BEq Z] [LawfulBEq Z] {α:Z->Prop}{y z:Z}(h:(y==z)=true)(a:α z):α y:=(eq_of_beq h)▸a
noncomputable def vy (k:Nat)(e:Expr):Bool:=Nat.beq e.ctorIdx k
def jr (e:Expr):Bool:=!vy 22 e&&(!vy 26 e&&!vy 7 e)
def Gz (e:Expr):Bool:=!vy 0 e&&(!vy 3 e&&(!vy 5 e&&!vy 15 e))
structure Pl (e:Expr):Prop where
 star:∀es env,starEach (e::es) env=(false,eval e env)::starEach es env
 subs:∀x y,subscripted e false x y=operate [x,y] (getItem x y)
 fold:∀env x,foldedSetIterable e env x=pure x
 beh:∀op,behindInMarks op e=false
 base:vy 16 e=false->∀name env,attributeBase e name env (eval e env)=eval e env
 tv:Gz e=true->∀env whole,isTrue e env whole=(do let v <-whole;standAt e.pos;holding [v] (truthy v))
 sws:∀a i p l env,swapsWith e (some (.Subscript a i p)) l env=pure false
 swa:∀a x p l env,swapsWith e (some (.Attribute a x p)) l env=pure false
theorem pl {e:Expr}(h:jr e=true):Pl e:=by
 cases e<;>first |exact ⟨fun _ _=>rfl,fun _ _=>rfl,fun _ _=>rfl,fun _=>rfl,fun _ _ _=>rfl,fun _ _ _=>rfl,fun _ _ _ _ _=>rfl,fun _ _ _ _ _=>rfl⟩ |exact ⟨fun _ _=>rfl,fun _ _=>rfl,fun _ _=>rfl,fun _=>rfl,fun _ _ _=>rfl,(fun h=>nomatch h),fun _ _ _ _ _=>rfl,fun _ _ _ _ _=>rfl⟩ |exact ⟨fun _ _=>rfl,fun _ _=>rfl,fun _ _=>rfl,fun _=>rfl,(fun h=>nomatch h),fun _ _ _=>rfl,fun _ _ _ _ _=>rfl,fun _ _ _ _ _=>rfl⟩ |cases h
theorem bt {e:Expr}(h:jr e=true)(pos:Pos)(env:Env):backTo pos (starEach [e] env)=[(false,eval e env)]:=by rw [(pl h).star];rfl
theorem GJ {o1 o2:CmpOp}{m r:Expr}(h:jr r=true)(env:Env):markedEach [o1,o2] [m,r] (evalEach [m,r] env)=[eval m env,eval r env]:=by
 show [eval m env,markedBehindIn o2 r (eval r env)]=_
 unfold markedBehindIn;rw [(pl h).beh o2]
section
variable {α:Expr->Type} (e:Expr)
def vC {k:Nat}(d:Mo (α e))(f:e.ctorIdx=k->Mo (α e)):Mo (α e):=jK (vy k e) (fun h=>f (eq_of_beq_eq_true h)) d
def cc (d:Mo (α e))(f:∀y p,Mo (α (.Name y p))):Mo (α e):=vC e d fun h=>Expr.Name.elim (motive_1:=fun e=>Mo (α e)) e h f
def lR (d:Mo (α e))(f:∀o x p,Mo (α (.Attribute o x p))):Mo (α e):=vC e d fun h=>Expr.Attribute.elim (motive_1:=fun e=>Mo (α e)) e h f
def kW (d:Mo (α e))(f:∀g es p,Mo (α (.Call g es [] p))):Mo (α e):=vC e d fun h=>Expr.Call.elim (motive_1:=fun e=>Mo (α e)) e h fun g es ks p=>gk (α:=fun ks=>α (.Call g es ks p)) ks (f g es p)
def BH (d:Mo (α e))(f:∀es k p,Mo (α (.Tuple es k p))):Mo (α e):=vC e d fun h=>Expr.Tuple.elim (motive_1:=fun e=>Mo (α e)) e h f
def zr (f:∀i k p,Mo (α (.Constant (.int i) k p))):Mo (α e):=vC e mF fun h=>Expr.Constant.elim (motive_1:=fun e=>Mo (α e)) e h fun c k p=>jK (Nat.beq c.ctorIdx 2) (fun h=>Const.int.elim (motive:=fun c=>Mo (α (.Constant c k p))) c (eq_of_beq_eq_true h) fun i=>f i k p) mF
def wj (d:Mo (α e))(f:∀elt t i fs s p,Mo (α (.ListComp elt [⟨t,i,fs,0⟩] s p))):Mo (α e):=vC e d fun h=>Expr.ListComp.elim (motive_1:=fun e=>Mo (α e)) e h fun elt gs s p=>n7 (α:=fun gs=>α (.ListComp elt gs s p)) gs fun g=>Comprehension.casesOn (motive_3:=fun g=>Mo (α (.ListComp elt [g] s p))) g fun t i fs a=>jK (a==0) (fun h=>Eq.rec (motive:=fun a _=>Mo (α (.ListComp elt [⟨t,i,fs,a⟩] s p))) (f elt t i fs s p) (eq_of_beq h).symm) mF
def BJ (d:Mo (α e))(f:∀a b c p,Mo (α (.Slice a b c p))):Mo (α e):=vC e d fun h=>Expr.Slice.elim (motive_1:=fun e=>Mo (α e)) e h f
def G0 (f:∀op e p,Mo (α (.UnaryOp op e p))):Mo (α e):=vC e mF fun h=>Expr.UnaryOp.elim (motive_1:=fun e=>Mo (α e)) e h f
end
noncomputable abbrev LT:=List (Str×Nat)×List (Str×Nat)×List (Str×Nat)×List (Str×T)
noncomputable def LT.ms (L:LT)(b:Bool):List (Str×Nat):=bif b then L.2.1 else L.2.2.1
noncomputable def tq (b:Bool):Nat:=bif b then 0 else 10
structure eQ (P:Pg) (L:LT):Prop where
 fn:∀p∈L.1,∃F,P.Ψ p.2=some F/\P.gl p.2=true/\(P.fd p.2).name=p.1
 o:∀b,bj P (tq b) (L.ms b)
 me:∀b,∀p∈L.ms b,∃F,P.Ψ p.2=some F
 g:∀b,P.mg (bif b then ofString "Machine" else ofString "Web")=some (.ref (P.cls (tq b)))
 cs:∀p∈L.2.2.2,∃u,P.mg p.1=some u/\∀g h,Rp P g h p.2 u
theorem oh {α:Type}{y:Str}{t:α}{l:List (Str×α)}(h:l.lookup y=some t):(y,t)∈l:=let ⟨_,_,e,_⟩:=List.lookup_eq_some_iff.mp h;e▸mem_append_right _ mem_cons_self
noncomputable def mO {α w:Type}(l:List (Str×w))(y:Str)(d:Mo α)(f:∀t,(y,t)∈l->Mo α):Mo α:=Option.rec (motive:=fun o=>(∀t,o=some t->Mo α)->Mo α) (fun _=>d) (fun t f=>f t rfl) (l.lookup y) fun t h=>f t (oh h)
def KR (P:Pg)(k:Option Bool):RR Value T:=Option.rec (RX P) (fun b=>Bool.rec (RV P) (RN P) b) k
noncomputable abbrev RE (P:Pg)(B:bn)(C:Ct)(e:Expr):=(k:Option Bool)×{p:PE // aq P B C e p (KR P k)}
noncomputable abbrev FE (P:Pg):=∀(B:bn) (C:Ct) (e:Expr),Mo (RE P B C e)
noncomputable abbrev FT (P:Pg):=∀(B:bn) (C:Ct) (e:Expr),Mo {p:PT // bI P B C e p}
noncomputable abbrev Gi (B:bn)(y:Str):Bool:=(B.sc.names.lookup y==some .globalImplicit)&&!(y==("__debug__":Str))
theorem gi {B:bn}{y:Str}(h:Gi B y=true):B.sc.names.lookup y=some .globalImplicit:=eq_of_beq (cJ h)
theorem Gd {B:bn}{y:Str}(h:Gi B y=true):(y==("__debug__":Str))=false:=v9 (cI h)
theorem CO {B:bn}{y z:Str}(q:(y==z)=true)(h:Gi B y=true):B.sc.names.lookup z=some .globalImplicit:=eq_of_beq q▸gi h
def slot (l:Tb)(y:Str):Nat:=l.findIdx fun o=>Option.rec false (fun q=>q.1==y) o
noncomputable def knd (l:Tb)(i:Nat):NameKind:=((l[i]?.getD none).getD (ofString "",.local)).2
noncomputable def yw (C:Ct)(i:Nat):Ct:=⟨C.O.filter fun j=>!Nat.beq j i,C.U,C.m⟩
noncomputable def Dj (C:Ct)(i:Nat):Ct:=⟨C.O.filter (fun j=>Nat.blt j i)++i::C.O.filter (fun j=>Nat.blt i j),C.U,C.m⟩
noncomputable def EO (C:Ct)(i:Nat):Ct:=⟨C.O,C.U.filter fun j=>!Nat.beq j i,C.m⟩
section
variable {P:Pg} {L:LT} (D:eQ P L) (E:FE P) (Tr:FT P) (B:bn) (C:Ct) {w:Type}
section
variable {e:Expr}
def rv (p:PE)(h:aq P B C e p (RV P)):Mo (RE P B C e):=mR ⟨some false,p,h⟩
def rn (p:PE)(h:aq P B C e p (RN P)):Mo (RE P B C e):=mR ⟨some true,p,h⟩
def rx (p:PE)(h:aq P B C e p (RX P)):Mo (RE P B C e):=mR ⟨none,p,h⟩
end
section
variable (e:Expr)
def mV (f:∀p,aq P B C e p (RV P)->Mo w):Mo w:=mB (E B C e) fun r=>Option.rec (motive:=fun k=>{p:PE // aq P B C e p (KR P k)}->Mo w) (fun _=>mF) (fun b=>Bool.rec (motive:=fun b=>{p:PE // aq P B C e p (KR P (some b))}->Mo w) (fun a=>Subtype.rec f a) (fun a=>Subtype.rec (fun p h=>f p (cB.nv h)) a) b) r.1 r.2
def mX (f:∀p,aq P B C e p (RX P)->Mo w):Mo w:=mB (E B C e) fun r=>Option.rec (motive:=fun k=>{p:PE // aq P B C e p (KR P k)}->Mo w) (fun a=>Subtype.rec f a) (fun b=>Bool.rec (motive:=fun b=>{p:PE // aq P B C e p (KR P (some b))}->Mo w) (fun a=>Subtype.rec (fun p h=>f p (cB.vx h)) a) (fun a=>Subtype.rec (fun p h=>f p (cB.nx h)) a) b) r.1 r.2
def mW (f:∀p,aq P B C e p (RN P)->Mo w):Mo w:=mB (E B C e) fun r=>Option.rec (motive:=fun k=>{p:PE // aq P B C e p (KR P k)}->Mo w) (fun _=>mF) (fun b=>Bool.rec (motive:=fun b=>{p:PE // aq P B C e p (KR P (some b))}->Mo w) (fun _=>mF) (fun a=>Subtype.rec f a) b) r.1 r.2
end
def xH (y:Str)(d:Mo w)(f:∀(i:Nat) (k:NameKind),B.tab[i]?=some (some (y,k))->Mo w):Mo w:=jK (B.tab[slot B.tab y]?==some (some (y,knd B.tab (slot B.tab y)))) (fun h=>f _ _ (eq_of_beq h)) d
def Fp (y:Str)(d:Mo w)(f:∀k,B.tab[0]?=some (some (y,k))->Mo w):Mo w:=jK (C.m&&(B.tab[0]?==some (some (y,knd B.tab 0)))) (fun h=>f _ (eq_of_beq (cI h))) d
def mA (x:Str)(f:∀(c i:Nat) ms,bj P c ms->(bX c)[i]?=some x->Mo w):Mo w:=
 (fun b=>jK ((bX (tq b))[(bX (tq b)).findIdx (·==x)]?==some x) (fun h=>f (tq b) _ _ (D.o b) (eq_of_beq h)) mF) ((bX 0).contains x)
def uN {α:Expr->Type}(e:Expr)(d:∀e,Mo (α e))(f:∀y np x ap (c i:Nat) ms k,bj P c ms->(bX c)[i]?=some x->B.tab[0]?=some (some (y,k))->Mo (α (.Attribute (.Name y np) x ap))):Mo (α e):=
 lR e (d e) fun o x ap=>cc (α:=fun o=>α (.Attribute o x ap)) o (d _) fun y np=>Fp B C y (d _) fun k ht=>bif (bX 10).contains x then mA D x fun c i ms O hn=>bif gQ c i then f y np x ap c i ms k O hn ht else d _ else d _
def zc (es:List Expr):Mo {p:PL // dk P B C es p}:=List.rec (motive:=fun es=>Mo {p:PL // dk P B C es p}) (mR ⟨ak,.nil⟩) (fun e es ih=>mG (jr e) fun h=>mV E B C e fun p hp=>mU ih fun r hr=>mR ⟨ae p r,.cons ((pl h).star es) hp hr⟩) es
def CU (c:Const)(k:Nat)(pos:Pos):Mo (RE P B C (.Constant c k pos)):=
 Const.casesOn (motive:=fun c=>Mo (RE P B C (.Constant c k pos))) c (rv B C (pC .none) .none) (fun b=>rv B C (pC (.bool b)) .bool) (fun i=>rv B C (pC (.int i)) .int) (fun _=>mF) (fun _ _=>mF) (fun y=>mG (PyData.strOk y&&decide (y.length<=lim)) fun h=>rv B C (pC (.str y)) (.str h)) (fun _=>mF) mF
def EE (y:Str)(pos:Pos):Mo (RE P B C (.Name y pos)):=
 xH B y (mG (Gi B y) fun hg=>mO L.2.2.2 y mF fun t h=>rv B C (pC t) (.gconst (gi hg) (Gd hg) (D.cs _ h)))
  fun i k ht=>jK (br C i) (fun ho=>rx B C (pV i) (.own ho ht)) (mG (j0 C i) fun hv=>rv B C (pV i) (.var hv ht))
def Gf (l:Expr)(op:Operator)(r:Expr)(pos:Pos):Mo (RE P B C (.BinOp l op r pos)):=
 mX E B C l fun a ha=>mX E B C r fun b hb=>Operator.casesOn (motive:=fun op=>Mo (RE P B C (.BinOp l op r pos))) op
  (rv B C (p2 bx a b) (.bin kH Ei ha hb)) (rv B C (p2 dU a b) (.bin kH Ed ha hb))
  (bif vy 24 l then rn B C (p2 uX a b) (.bin EK Ee ha hb) else rv B C (p2 iX a b) (.bin kH Ef ha hb))
  mF mF (rv B C (p2 bS a b) (.bin kH Eg ha hb)) mF mF mF mF mF mF (rv B C (p2 dO a b) (.bin kH Eh ha hb))
def Hh (op:UnaryOp)(e:Expr)(pos:Pos):Mo (RE P B C (.UnaryOp op e pos)):=mX E B C e fun a ha=>
 UnaryOp.casesOn (motive:=fun op=>Mo (RE P B C (.UnaryOp op e pos))) op mF (rv B C (sO a) (.not ha)) mF (rv B C (p1 mm a) (.neg ha))
def EJ (o:Expr)(name:Str)(pos:Pos):Mo (RE P B C (.Attribute o name pos)):=
 cc (α:=fun o=>RE P B C (.Attribute o name pos)) o mF fun y np=>mA D name fun c i ms O hn=>
  Fp B C y (mV E B C (.Name y np) fun p h=>rv B C (p1 (nR c i) p) (.attr O hn (fun _=>rfl) (fun _ _=>rfl) h))
   fun k ht=>mG (!br C 0) fun ho=>rv B C (e8 c i) (.rat O hn (v9 ho) ht)
def uB (P:Pg)(op:CmpOp):Mo {F:T->T->Option Bool // jV P op F}:=
 CmpOp.casesOn (motive:=fun op=>Mo {F:T->T->Option Bool // jV P op F}) op (mR ⟨cQ,EU⟩) (mR ⟨iD,Bt⟩) (mR ⟨ue,EP⟩) (mR ⟨DD,EQ⟩) (mR ⟨vA,ES⟩) (mR ⟨DE,ET⟩) (mN fun _=>mR ⟨_,Bu⟩) (mN fun _=>mR ⟨_,yG⟩)
  (m2 (mR ⟨lr,ER⟩) (m2 (mR ⟨Bj,yH⟩) (mR ⟨Ew,C5⟩))) (m2 (mR ⟨iz,yF⟩) (mR ⟨eC,vN⟩))
def Ge (l:Expr)(ops:List CmpOp)(rs:List Expr)(pos:Pos):Mo (RE P B C (.Compare l ops rs pos)):=
 dH (α:=fun ops=>RE P B C (.Compare l ops rs pos)) ops mF fun op os=>dH (α:=fun rs=>RE P B C (.Compare l (op::os) rs pos)) rs mF fun r rs=>mU (uB P op) fun F hF=>mX E B C l fun a ha=>mX E B C r fun b hb=>
  dH (α:=fun os=>RE P B C (.Compare l (op::os) (r::rs) pos)) os
   (gk (α:=fun rs=>RE P B C (.Compare l [op] (r::rs) pos)) rs (mG (jr r) fun h=>rv B C (pB (p2 F a b)) (.cmp hF ((pl h).beh op) ha hb)))
   fun o2 os=>gk (α:=fun os=>RE P B C (.Compare l (op::o2::os) (r::rs) pos)) os (n7 (α:=fun rs=>RE P B C (.Compare l [op,o2] (r::rs) pos)) rs fun q=>mG (jr q) fun h=>mU (uB P o2) fun G hG=>mX E B C q fun c hc=>rv B C (pB (mj F G a b c)) (.cmp2 hF hG (GJ h) ha hb hc))
def G1 (op:BoolOp)(es:List Expr):Mo {p:PE // i7 P B C op es p}:=List.rec (motive:=fun es=>Mo {p:PE // i7 P B C op es p}) mF
 (fun e es ih=>mV E B C e fun a ha=>List.rec (motive:=fun es=>Mo {p:PE // i7 P B C op es p}->Mo {p:PE // i7 P B C op (e::es) p}) (fun _=>mR ⟨a,.one ha⟩) (fun e' es _ ih=>mU ih fun r hr=>
  BoolOp.casesOn (motive:=fun op=>i7 P B C op (e'::es) r->Mo {p:PE // i7 P B C op (e::e'::es) p}) op (fun hr=>mR ⟨jv a r,.and ha hr⟩) (fun hr=>mR ⟨DB a r,.or ha hr⟩) hr) es ih) es
def GB (e:Option Expr):Mo {p:PO // r8 P B C e p}:=Option.rec (motive:=fun e=>Mo {p:PO // r8 P B C e p}) (mR ⟨mi,.none⟩) (fun e=>mX E B C e fun a ha=>mR ⟨p1 dA a,.some ha⟩) e
def EG (i:Expr)(pos:Pos)(a:Expr):Mo (RE P B C (.Subscript a i pos)):=mG (jr i) fun h=>mN fun d=>mX E B C a fun x hx=>mX E B C i fun y hy=>bif Nat.beq d 0 then rv B C (p2 aA x y) (.idx (pl h).subs hx hy) else rv B C (p2 idxD x y) (.idxD (pl h).subs hx hy)
def ED (a i:Expr)(pos:Pos):Mo (RE P B C (.Subscript a i pos)):=
 BJ (α:=fun i=>RE P B C (.Subscript a i pos)) i
  (cc (α:=fun a=>RE P B C (.Subscript a i pos)) a
   (uN D B C (α:=fun a=>RE P B C (.Subscript a i pos)) a (EG E B C i pos) fun y np x ap c j ms k O hn ht=>mG (jr i) fun h=>mN fun d=>mV E B C i fun q hq=>
    bif Nat.beq d 0 then rv B C (Cg c j aA q) (.f2 O hn ht (xh (pl h).subs) hq) else rv B C (Cg c j idxD q) (.f2 O hn ht (xg (pl h).subs) hq))
   fun y np=>jK (y==("_law_spot":Str))
    (fun _=>zr (α:=fun i=>RE P B C (.Subscript (.Name y np) i pos)) i fun j kk cp=>mG (j==0) fun hj=>xH B y mF fun n k ht=>mG (j0 C n) fun hv=>rv B C (oG n) (sb (α:=fun j=>aq P B C (.Subscript (.Name y np) (.Constant (.int j) kk cp) pos) (oG n) (RV P)) hj (.spot hv ht)))
    (EG E B C i pos (.Name y np)))
  fun lo hi st p=>mX E B C a fun x hx=>Option.rec (motive:=fun st=>Mo (RE P B C (.Subscript a (.Slice lo hi st p) pos)))
   (mU (GB E B C lo) fun l hl=>mU (GB E B C hi) fun h hh=>rv B C (p3 cg x l h) (.slc hx hl hh))
   (fun st=>Option.rec (motive:=fun lo=>Mo (RE P B C (.Subscript a (.Slice lo hi (some st) p) pos))) (Option.rec (motive:=fun hi=>Mo (RE P B C (.Subscript a (.Slice none hi (some st) p) pos)))
    (G0 (α:=fun st=>RE P B C (.Subscript a (.Slice none none (some st) p) pos)) st fun op e pu=>zr (α:=fun e=>RE P B C (.Subscript a (.Slice none none (some (.UnaryOp op e pu)) p) pos)) e fun j kc pc=>mG (j==1) fun hj=>mG (op==.USub) fun ho=>rv B C (p1 sF x) (sb (α:=fun j=>aq P B C (.Subscript a (.Slice none none (some (.UnaryOp op (.Constant (.int j) kc pc) pu)) p) pos) (p1 sF x) (RV P)) hj (sb (α:=fun op=>aq P B C (.Subscript a (.Slice none none (some (.UnaryOp op (.Constant (.int 1) kc pc) pu)) p) pos) (p1 sF x) (RV P)) ho (.rev hx)))) (fun _=>mF) hi) (fun _=>mF) lo) st
end
end
end Mine
end
section
set_option tactic.hygienic false
namespace Mine
noncomputable section
open PySem PyProof.Rows
def C7 (y:Str):BT:=bif y==BT.nm .list then .list else bif y==BT.nm .bool then .bool else bif y==BT.nm .int then .int else bif y==BT.nm .str then .str else .tuple
section
variable {P:Pg} {B:bn} {C:Ct} {e o:Expr} {p pe po:PE} {y z name:Str} {pn qn apos pos np:Pos}
theorem F9 (X:BT)(hy:(y==ofString "isinstance")=true)(hT:(z==X.nm)=true)(hx:Gi B y=true)(hz:Gi B z=true)(hp:jr e=true)(h:aq P B C e p (RX P)):aq P B C (.Call (.Name y pn) [e,.Name z qn] [] pos) (p1 (eF X) p) (RV P):=
 sb (α:=fun y=>aq P B C (.Call (.Name y pn) [e,.Name z qn] [] pos) (p1 (eF X) p) (RV P)) hy (sb (α:=fun z=>aq P B C (.Call (.Name (ofString "isinstance") pn) [e,.Name z qn] [] pos) (p1 (eF X) p) (RV P)) hT (.isi X (CO hy hx) (CO hT hz) (fun env=>((pl hp).star _ env).trans rfl) h))
abbrev Hs (P:Pg)(x:String)(F:T->Option T)(R:RR Value T):Prop:=∀{B:bn} {C:Ct} {e:Expr} {p:PE} {pn pos:Pos},BG B x->(∀env,starEach [e] env=[(false,eval e env)])->aq P B C e p (RX P)->aq P B C (.Call (.Name (ofString x) pn) [e] [] pos) (p1 F p) R
theorem By {x:String}{F:T->Option T}{R:RR Value T}(k:Hs P x F R)(hx:Gi B y=true)(hp:jr e=true)(h:aq P B C e p (RX P))(hy:(y==ofString x)=true):aq P B C (.Call (.Name y pn) [e] [] pos) (p1 F p) R:=
 sb (α:=fun y=>aq P B C (.Call (.Name y pn) [e] [] pos) (p1 F p) R) hy (k (CO hy hx) ((pl hp).star []) h)
theorem F5 {x id:String}{K:MK}{F:T->T->Option T}(i:y5 K (ofString x) id)(k:qw P (Dx P id) F (RV P))(hk:jr o=true)(ho:(!vy 16 o)=true)(hl:(apos.endLine==pos.line)=true)(hp:jr e=true)(h1:aq P B C o po (RX P))(h2:aq P B C e pe (RX P))(hy:(name==ofString x)=true):aq P B C (.Call (.Attribute o name apos) [e] [] pos) (xb K F po pe) (RV P):=
 sb (α:=fun name=>aq P B C (.Call (.Attribute o name apos) [e] [] pos) (xb K F po pe) (RV P)) hy (.m1 i kH k ((pl hk).base (v9 ho) _) hl (bt hp pos) h1 h2)
end
section
variable {P:Pg} {L:LT} (D:eQ P L) (E:FE P) (Tr:FT P) (B:bn) (C:Ct)
section
variable (y:Str) (pn:Pos) (pos:Pos)
def Hj (e:Expr):Mo (RE P B C (.Call (.Name y pn) [e] [] pos)):=mG (Gi B y) fun hx=>mG (jr e) fun hp=>mX E B C e fun a ha=>
 jK (y==ofString "len") (fun hy=>rv B C (p1 bJ a) (By .len hx hp ha hy))
 (jK (y==ofString "list") (fun hy=>rn B C (p1 gR a) (By .listOf hx hp ha hy))
 (jK (y==ofString "any") (fun hy=>rv B C (p1 yU a) (By .anyOf hx hp ha hy))
 (jK (y==ofString "all") (fun hy=>rv B C (p1 iH a) (By .allOf hx hp ha hy))
 (jK (y==ofString "int") (fun hy=>rv B C (p1 oO a) (By .intOf hx hp ha hy))
 (jK (y==ofString "dict") (fun hy=>rn B C (p1 rE a) (By .dictOf hx hp ha hy))
 (jK (y==ofString "tuple") (fun hy=>rv B C (p1 j2 a) (By .tupleOf hx hp ha hy))
 (jK (y==ofString "max") (fun hy=>rv B C (p1 vg a) (By .maxOf hx hp ha hy)) mF)))))))
def CV (es:List Expr):Mo (RE P B C (.Call (.Name y pn) es [] pos)):=mG (Gi B y) fun hx=>
 mO L.1 y
  (dH (α:=fun es=>RE P B C (.Call (.Name y pn) es [] pos)) es mF fun e es=>(fun b=>jK (y==(bif b then ofString "Machine" else ofString "Web"))
    (fun hy=>mO (L.ms b) (ofString "__init__") mF fun f hi=>mG (oK f&&!lC f) fun hf=>mG (jr e) fun hp=>mU (zc E B C (e::es)) fun r hr=>rv B C (qV (tq b) f r) (sb (α:=fun y=>aq P B C (.Call (.Name y pn) (e::es) [] pos) (qV (tq b) f r) (RV P)) hy (.new (D.o b) hi hf (D.g b) (CO hy hx) (by cases b<;>decide) ((pl hp).star es) hr)))
    (dH (α:=fun es=>RE P B C (.Call (.Name y pn) (e::es) [] pos)) es
     (uN D B C (α:=fun e=>RE P B C (.Call (.Name y pn) [e] [] pos)) e (Hj E B C y pn pos) fun z np x ap c i ms k O hn ht=>mG (y==ofString "len") fun hy=>rv B C (p1 bJ (pE c i)) (sb (α:=fun y=>aq P B C (.Call (.Name y pn) [.Attribute (.Name z np) x ap] [] pos) (p1 bJ (pE c i)) (RV P)) hy (.lenF O hn ht (CO hy hx) fun _=>rfl)))
     fun t es=>gk (α:=fun es=>RE P B C (.Call (.Name y pn) (e::t::es) [] pos)) es (cc (α:=fun t=>RE P B C (.Call (.Name y pn) [e,t] [] pos)) t mF fun z qn=>mG (y==ofString "isinstance") fun hy=>mG (z==(C7 z).nm) fun hT=>mG (Gi B z) fun hz=>mG (jr e) fun hp=>mX E B C e fun a ha=>rv B C (p1 (eF (C7 z)) a) (F9 (C7 z) hy hT hx hz hp ha))))
   (y==ofString "Machine"))
  fun f hf=>mG (!oK f) fun hm=>mU (zc E B C es) fun r hr=>
   jK (lC f) (fun h=>rn B C (aw f r) (let ⟨_,h1,h2⟩:=D.fn _ hf;aq.callN h1 h2 (v9 hm) h (gi hx) (Gd hx) hr)) (mG (!lC f) fun h=>rv B C (aw f r) (let ⟨_,h1,h2⟩:=D.fn _ hf;aq.call h1 h2 (v9 hm) (v9 h) (gi hx) (Gd hx) hr))
end
section
variable (o:Expr) (name:Str) (apos:Pos) (pos:Pos)
def Hi (e:Expr):Mo (RE P B C (.Call (.Attribute o name apos) [e] [] pos)):=
 mG (jr o) fun hk=>mG (!vy 16 o) fun ho=>mG (apos.endLine==pos.line) fun hl=>mG (jr e) fun hp=>mX E B C o fun a ha=>mX E B C e fun b hb=>
  jK (name==ofString "join") (fun hy=>rv B C (xb .str uk a b) (F5 CH xX hk ho hl hp ha hb hy))
  (jK (name==ofString "split") (fun hy=>rv B C (xb .str o5 a b) (F5 Am uW hk ho hl hp ha hb hy))
  (jK (name==ofString "index") (fun hy=>rv B C (xb .list eG a b) (F5 ut yg hk ho hl hp ha hb hy)) mF))
def Bq (b:Bool)(es:List Expr)(d:Mo (RE P B C (.Call (.Attribute o name apos) es [] pos))):Mo (RE P B C (.Call (.Attribute o name apos) es [] pos)):=mO (L.ms b) name d fun f hm=>
 mG (Fo (tq b) f name apos pos es.length) fun hb=>
  cc (α:=fun o=>RE P B C (.Call (.Attribute o name apos) es [] pos)) o (mG (jr o) fun hk=>mG (!vy 16 o) fun ho=>mV E B C o fun a ha=>mU (zc E B C es) fun r hr=>rv B C (ua (tq b) f a r) (let ⟨_,h⟩:=D.me b _ hm;.meth (D.o b) hm h hb ((pl hk).base (v9 ho) _) ha hr))
  fun y np=>Fp B C y
   (mV E B C (.Name y np) fun a ha=>mU (zc E B C es) fun r hr=>rv B C (ua (tq b) f a r) (let ⟨_,h⟩:=D.me b _ hm;.meth (D.o b) hm h hb (fun _=>rfl) ha hr))
   fun k ht=>mU (zc E B C es) fun r hr=>rv B C (sN (tq b) f r) (let ⟨_,h⟩:=D.me b _ hm;.rmeth (D.o b) hm h hb ht hr)
end
def EI (g:Expr)(es:List Expr)(pos:Pos):Mo (RE P B C (.Call g es [] pos)):=
 cc (α:=fun g=>RE P B C (.Call g es [] pos)) g (lR (α:=fun g=>RE P B C (.Call g es [] pos)) g mF fun o name apos=>Bq D E B C o name apos pos true es (Bq D E B C o name apos pos false es (dH (α:=fun es=>RE P B C (.Call (.Attribute o name apos) es [] pos)) es mF fun e es=>dH (α:=fun es=>RE P B C (.Call (.Attribute o name apos) (e::es) [] pos)) es (Hi E B C o name apos pos e) fun _ _=>mF)))
 fun y pn=>CV D E B C y pn pos es
def Gj (B:bn)(sc:Scope)(i:Nat)(x:Str)(k:NameKind):Tb:=(List.range i).map (fun j=>Option.rec none (fun q=>bif sc.names.contains (q.1,.free) then some (q.1,.cell) else none) (B.tab[j]?.getD none))++[some (x,k)]
noncomputable def FC (c:Bool)(x:Str):Option Str:=bif c then some x else none
noncomputable def F6 (c:Bool):NameKind:=bif c then .cell else .local
theorem EW {P:Pg}{Bc:bn}{C Ci:Ct}{i:Nat}{x:Str}{tp:Pos}{c:Bool}(hc:ch C i false Ci=true)(ht:(Bc.tab[i]?==some (some (x,F6 c)))=true):jS P (vW P Bc C Ci (.Name x tp) (bz i) (j1 (FC c x))):=by
 cases c
 .exact bindL hc (eq_of_beq ht)
 .exact bindC hc (eq_of_beq ht)
def mK {α:Expr->Type}(target:Expr)(scope:Scope)(f:∀x tp i xc Bc Ci,dq B Bc scope i xc->C.U.any (Nat.beq i)=true->ch C i false Ci=true->jS P (vW P Bc C Ci (.Name x tp) (bz i) (j1 xc))->Mo (α (.Name x tp))):Mo (α target):=
 cc target mF fun x tp=>mN fun i=>(fun c=>(fun tab=>mG (Bs B tab scope i (FC c x)) fun hK=>mG (C.U.any (Nat.beq i)) fun hi=>mG (ch C i false (EO C i)) fun hc=>mG (tab[i]?==some (some (x,F6 c))) fun ht=>f x tp i (FC c x) ⟨gA scope B.sc,tab⟩ (EO C i) (.of hK) hi hc (EW hc ht)) (Gj B scope i x (F6 c))) (scope.names.lookup x==some .cell)
def DK (ifs:List Expr):Mo {p:PT // dD P B C ifs p}:=dH (α:=fun ifs=>{p:PT // dD P B C ifs p}) ifs (mR ⟨bB,.nil⟩) fun c r=>gk (α:=fun r=>{p:PT // dD P B C (c::r) p}) r (mU (Tr B C c) fun a ha=>mR ⟨a,.one ha⟩)
section
variable {mk:Around->Addr->List T->List Addr->List Addr->(Nat->Gh->Heap->Prop)->Prop} (hb:jS P mk)
def BM (it:Expr):Mo {p:PL // fI P B C it mk p}:=mN fun d=>mV E B C it fun a ha=>bif Nat.beq d 0 then mR ⟨bK a,.seq hb ha⟩ else mR ⟨p1 AI a,.str hb ha⟩
def FG (it:Expr):Mo {p:PL // fI P B C it mk p}:=
 kW (α:=fun it=>{p:PL // fI P B C it mk p}) it (BM E B C hb it) fun g es pos=>cc (α:=fun g=>{p:PL // fI P B C (.Call g es [] pos) mk p}) g (BM E B C hb (.Call g es [] pos)) fun y p=>
  jK (y==ofString "range") (fun hy=>mG (Gi B y) fun hx=>mN fun d=>mU (zc E B C es) fun r hr=>mR ⟨c9 r,sb (α:=fun y=>fI P B C (.Call (.Name y p) es [] pos) mk (c9 r)) hy (.range hb (CO hy hx) hr)⟩)
  (BM E B C hb (.Call (.Name y p) es [] pos))
end
def mC {α:Expr->Type}(elt target iter:Expr)(ifs:List Expr)(scope:Scope)(f:∀x tp i xc Bc Ci pi pc pe,dq B Bc scope i xc->C.U.any (Nat.beq i)=true->ch C i false Ci=true->fI P B C iter (vW P Bc C Ci (.Name x tp) (bz i) (j1 xc)) pi->dD P Bc Ci ifs pc->aq P Bc Ci elt pe (RV P)->(∀env x,foldedSetIterable iter env x=pure x)->Mo (α (.Name x tp))):Mo (α target):=
 mK (P:=P) B C target scope fun x tp i xc Bc Ci K hi hc hb=>mG (jr iter) fun hp=>mU (FG E B C hb iter) fun pi hI=>mU (DK Tr Bc Ci ifs) fun pc hcond=>mV E Bc Ci elt fun pe hel=>f x tp i xc Bc Ci pi pc pe K hi hc hI hcond hel (pl hp).fold
def yu (elt target:Expr)(ifs:List Expr)(scope:Scope)(pos:Pos)(iter:Expr):Mo (RE P B C (.ListComp elt [⟨target,iter,ifs,0⟩] scope pos)):=mC E Tr B C (α:=fun target=>RE P B C (.ListComp elt [⟨target,iter,ifs,0⟩] scope pos)) elt target iter ifs scope fun x tp i xc Bc Ci pi pc pe K hi hc hI hcond hel hs=>rn B C (bv pi (bz i) pc pe) (.comp K hi hc hI hcond hel hs)
def EH (elt target iter:Expr)(ifs:List Expr)(scope:Scope)(pos:Pos):Mo (RE P B C (.ListComp elt [⟨target,iter,ifs,0⟩] scope pos)):=dH (α:=fun ifs=>RE P B C (.ListComp elt [⟨target,iter,ifs,0⟩] scope pos)) ifs
 (BH (α:=fun target=>RE P B C (.ListComp elt [⟨target,iter,[],0⟩] scope pos)) target
   (uN D B C (α:=fun iter=>RE P B C (.ListComp elt [⟨target,iter,[],0⟩] scope pos)) iter (yu E Tr B C elt target [] scope pos) fun y np x ap c j ms k O hn ht=>
    mK (P:=P) B C (α:=fun target=>RE P B C (.ListComp elt [⟨target,.Attribute (.Name y np) x ap,[],0⟩] scope pos)) target scope fun x tp i xc Bc Ci K hi hc hb=>mV E Bc Ci elt fun pe hel=>rn B C (pG c j (bz i) pe) (.compF O hn ht K hi hc hb hel fun _ _=>rfl))
   fun _ _ _=>mF)
 fun c cs=>yu E Tr B C elt target (c::cs) scope pos iter
def Gg (e:Expr):Mo (RE P B C e):=
 cc e (vC e (lR e (kW e (vC e (vC e (vC e (vC e (vC e (vC e (vC e (wj e (vC e mF
  fun h=>Expr.Dict.elim (motive_1:=fun e=>Mo (RE P B C e)) e h fun ks vs pos=>gk (α:=fun ks=>RE P B C (.Dict ks vs pos)) ks (gk (α:=fun vs=>RE P B C (.Dict [] vs pos)) vs (rn B C sP .dic)))
  fun elt t i fs s pos=>EH D E Tr B C elt t i fs s pos)
  fun h=>Expr.Subscript.elim (motive_1:=fun e=>Mo (RE P B C e)) e h fun a i pos=>ED D E B C a i pos)
  fun h=>Expr.List.elim (motive_1:=fun e=>Mo (RE P B C e)) e h fun es pos=>mU (zc E B C es) fun r hr=>rn B C (bo r) (.list hr))
  fun h=>Expr.Tuple.elim (motive_1:=fun e=>Mo (RE P B C e)) e h fun es k pos=>mU (zc E B C es) fun r hr=>rv B C (aH r) (.tup hr))
  fun h=>Expr.BoolOp.elim (motive_1:=fun e=>Mo (RE P B C e)) e h fun op es pos=>mU (G1 E B C op es) fun r hr=>rv B C r (.boolOp hr))
  fun h=>Expr.Compare.elim (motive_1:=fun e=>Mo (RE P B C e)) e h fun l ops rs pos=>Ge E B C l ops rs pos)
  fun h=>Expr.UnaryOp.elim (motive_1:=fun e=>Mo (RE P B C e)) e h fun op e pos=>Hh E B C op e pos)
  fun h=>Expr.BinOp.elim (motive_1:=fun e=>Mo (RE P B C e)) e h fun l op r pos=>Gf E B C l op r pos)
  fun g es pos=>EI D E B C g es pos)
  fun o x pos=>EJ D E B C o x pos)
  fun h=>Expr.Constant.elim (motive_1:=fun e=>Mo (RE P B C e)) e h fun c k pos=>CU B C c k pos)
  fun y pos=>EE D B C y pos
def G2 (op:BoolOp)(es:List Expr):Mo {p:PT // iA P B C op es p}:=List.rec (motive:=fun es=>Mo {p:PT // iA P B C op es p})
 (BoolOp.casesOn (motive:=fun op=>Mo {p:PT // iA P B C op [] p}) op (mR ⟨bB,.andNil⟩) (mR ⟨cN,.orNil⟩))
 (fun e es ih=>mU (Tr B C e) fun a ha=>mU ih fun r hr=>BoolOp.casesOn (motive:=fun op=>iA P B C op es r->Mo {p:PT // iA P B C op (e::es) p}) op (fun hr=>mR ⟨lh a r,.and ha hr⟩) (fun hr=>mR ⟨jp a r,.or ha hr⟩) hr) es
def FJ (l:Expr)(ops:List CmpOp)(rs:List Expr)(pos:Pos):Mo {p:PT // bI P B C (.Compare l ops rs pos) p}:=
 dH (α:=fun ops=>{p:PT // bI P B C (.Compare l ops rs pos) p}) ops mF fun op os=>dH (α:=fun rs=>{p:PT // bI P B C (.Compare l (op::os) rs pos) p}) rs mF fun r rs=>mU (uB P op) fun F hF=>mX E B C l fun a ha=>
  dH (α:=fun os=>{p:PT // bI P B C (.Compare l (op::os) (r::rs) pos) p}) os
   (gk (α:=fun rs=>{p:PT // bI P B C (.Compare l [op] (r::rs) pos) p}) rs (uN D B C (α:=fun r=>{p:PT // bI P B C (.Compare l [op] [r] pos) p}) r (fun r=>mG (jr r) fun h=>mX E B C r fun b hb=>mR ⟨p2 F a b,.cmp hF ((pl h).beh op) ha hb⟩)
    fun y np x ap c i ms k O hn ht=>mR ⟨p2 F a (pE c i),.cmpY hF rfl ha (.fld O hn ht)⟩))
   fun o2 os=>gk (α:=fun os=>{p:PT // bI P B C (.Compare l (op::o2::os) (r::rs) pos) p}) os (n7 (α:=fun rs=>{p:PT // bI P B C (.Compare l [op,o2] (r::rs) pos) p}) rs fun q=>mG (jr q) fun h=>mX E B C r fun b hb=>mU (uB P o2) fun G hG=>mX E B C q fun c hc=>mR ⟨mj F G a b c,.cmp2 hF hG (GJ h) ha hb hc⟩)
def FK (e:Expr):Mo {p:PT // bI P B C e p}:=
 vC (α:=fun e=>{p:PT // bI P B C e p}) e (vC (α:=fun e=>{p:PT // bI P B C e p}) e (vC (α:=fun e=>{p:PT // bI P B C e p}) e (mG (jr e) fun hp=>mG (Gz e) fun h=>mX E B C e fun a ha=>mR ⟨qE a,.val ha ((pl hp).tv h)⟩)
  fun h=>Expr.Compare.elim (motive_1:=fun e=>Mo {p:PT // bI P B C e p}) e h fun l ops rs pos=>FJ D E B C l ops rs pos)
  fun h=>Expr.BoolOp.elim (motive_1:=fun e=>Mo {p:PT // bI P B C e p}) e h fun op es pos=>mU (G2 Tr B C op es) fun r hr=>mR ⟨r,.boolOp hr⟩)
  fun h=>Expr.UnaryOp.elim (motive_1:=fun e=>Mo {p:PT // bI P B C e p}) e h fun op e pos=>mG (op==.Not) fun ho=>mU (Tr B C e) fun a ha=>mR ⟨dW a,sb (α:=fun op=>bI P B C (.UnaryOp op e pos) (dW a)) ho (.not ha)⟩
end
def DA {P:Pg}{L:LT}(D:eQ P L)(n:Nat):FE P×FT P:=Nat.rec ⟨fun _ _ _=>mF,fun _ _ _=>mF⟩ (fun _ r=>⟨fun B C=>Gg D r.1 r.2 B C,fun B C=>FK D r.1 r.2 B C⟩) n
end
end Mine
end
section
set_option tactic.hygienic false
namespace Mine
noncomputable section
open PySem PyProof.Rows
def KS (P:Pg)(B:bn)(C:Ct)(fr:Bool)(W:WP Flow)(p:PS)(o:Option Ct):Prop:=Option.rec (∀C',cA P B C fr C' W p) (fun C'=>cA P B C fr C' W p) o
noncomputable abbrev RS (P:Pg)(B:bn)(C:Ct)(fr:Bool)(W:WP Flow):=(o:Option Ct)×{p:PS // KS P B C fr W p o}
noncomputable abbrev cb (P:Pg)(B:bn)(C:Ct)(fr:Bool)(st:Stmt):=RS P B C fr (P.W fun env=>exec st env)
noncomputable abbrev RZ (P:Pg)(B:bn)(C:Ct)(fr:Bool)(ss:List Stmt):=RS P B C fr (P.W fun env=>execs ss env)
noncomputable abbrev FS (P:Pg):=∀(B:bn) (C:Ct) (fr:Bool) (ss:List Stmt),Mo (RZ P B C fr ss)
noncomputable def GP (a b:Ct):Bool:=a.O==b.O&&(a.U==b.U&&a.m==b.m)
theorem CZ {a b:Ct}(h:GP a b=true):a=b:=
 have ⟨h1,h2⟩:=ah h
 have ⟨h2,h3⟩:=ah h2
 show (⟨a.O,a.U,a.m⟩:Ct)=⟨b.O,b.U,b.m⟩ by rw [eq_of_beq h1,eq_of_beq h2,eq_of_beq h3]
section
variable {P:Pg} {B:bn} {C:Ct} {fr:Bool} {W:WP Flow} {u:Type}
def ra (C':Ct)(p:PS)(h:cA P B C fr C' W p):Mo (RS P B C fr W):=mR ⟨some C',p,h⟩
def rl (p:PS)(h:∀C',cA P B C fr C' W p):Mo (RS P B C fr W):=mR ⟨none,p,h⟩
def mS (x:Mo (RS P B C fr W))(fa:∀C' p,cA P B C fr C' W p->Mo u)(fl:∀p,(∀C',cA P B C fr C' W p)->Mo u):Mo u:=mB x fun r=>Option.rec (motive:=fun o=>{p:PS // KS P B C fr W p o}->Mo u) (fun a=>Subtype.rec fl a) (fun C' a=>Subtype.rec (fa C') a) r.1 r.2
def mT (C':Ct)(x:Mo (RS P B C fr W))(f:∀p,cA P B C fr C' W p->Mo u):Mo u:=mS x (fun C1 p h=>mG (GP C1 C') fun e=>f p (CZ e▸h)) fun p h=>f p (h C')
end
theorem Fr {k:NameKind}(h:(k==.local||k==.cell)=true):k=.local\/k=.cell:=(Bool.or_eq_true_iff.mp h).imp eq_of_beq eq_of_beq
theorem aL.unp {P:Pg}{B:bn}{C:Ct}{fr:Bool}{e:Expr}{p:PE}{zs:List iw}{kt:Nat}{pt pos:Pos}(hz:Ba B C zs=true)(hs:∀env,swapsWithSole [.Tuple (zs.map iw.e) kt pt] e pos.line env=pure false)(hw:∀env,swappedStores [.Tuple (zs.map iw.e) kt pt] e env=pure none)(h:aq P B C e p (RV P)):aL P B C fr C (.Assign [.Tuple (zs.map iw.e) kt pt] e pos) (qy (zs.map (·.i)) p):=fun n A env g V J s k Q E X hb hq hr=>by
 refine Assign_Tuple (h n A env g V J s _ _ E X hb fun x s₁ g₁ t J1 e1 pa w1 r1=>?_) (hs env) (hw env)
 have hb1:=fun q=>hb (e1.trans q)
 obtain ⟨ρ',e2⟩:=cf hb1
 obtain ⟨ts,e3,e4⟩:=ax e2
 cases kP e3
 obtain ⟨a,rfl,f,us,m,b1,_,rb⟩:=r1
 exact i5 hz e4 (X.post pa w1) b1 rb fun s' p' X'=>hq s' g₁ ρ' J1 (e1.trans (by rw [e2];rfl)) (pa.toS.trans p'.toS) X'
def Hb (B:bn)(es:List Expr):Mo {zs:List iw // es=zs.map iw.e}:=List.rec (motive:=fun es=>Mo {zs:List iw // es=zs.map iw.e}) (mR ⟨[],rfl⟩)
 (fun e es ih=>cc (α:=fun e=>{zs:List iw // e::es=zs.map iw.e}) e mF fun y p=>mU ih fun r hr=>mR ⟨⟨slot B.tab y,y,knd B.tab (slot B.tab y),p⟩::r,congrArg (Expr.Name y p::·) hr⟩) es
theorem aL.try {P:Pg}{B:bn}{C C':Ct}{fr:Bool}{body:List Stmt}{p:PS}{h₀:ExceptHandler}{hs:List ExceptHandler}{pos:Pos}(h:fH P B C fr C' body p):aL P B C fr C' (.Try body (h₀::hs) [] [] pos) p:=fun n A env g V J s k Q E X hb hq hr=>
 wpAny_Try_except (h n A env g V J s k _ _ X hb (fun s' g' ρ' J' e p X'=>wpAny_execs_nil (hq s' g' ρ' J' e p X')) hr)
section
variable {P:Pg} {L:LT} (D:eQ P L) (E:FE P) (Tr:FT P) (S:FS P) (B:bn) (C:Ct) (fr:Bool)
def DU (y:Str)(px:Pos)(e:Expr)(pos:Pos):Mo (cb P B C fr (.Assign [.Name y px] e pos)):=xH B y mF fun i k ht=>mN fun m=>mG (k==.local||k==.cell) fun hk=>
 bif Nat.ble m 1 then mG (!v6 e y px pos.line B.sc) fun hw=>bif Nat.beq m 0 then mG (ch C i false (yw C i)) fun hc=>mV E B C e fun a ha=>ra (yw C i) (aI i a) (aL.set hc ht (Fr hk) (v9 hw) ha)
   else mG (ch C i true (Dj C i)) fun hc=>mW E B C e fun a ha=>ra (Dj C i) (aI i a) (aL.setN hc ht (Fr hk) (v9 hw) ha)
 else bif Nat.beq m 2 then wj (α:=fun e=>cb P B C fr (.Assign [.Name y px] e pos)) e mF fun elt t it fs s p=>mN fun o=>(fun C'=>mG (ch C i (Nat.beq o 1) C') fun hc=>mG (k==.local) fun hl=>
   mC E Tr B C (α:=fun t=>cb P B C fr (.Assign [.Name y px] (.ListComp elt [⟨t,it,fs,0⟩] s p) pos)) elt t it fs s fun x tp j xc Bc Ci pi pc pe K hi hj hI hcond hel hs=>mG (v6 (.ListComp elt [⟨.Name x tp,it,fs,0⟩] s p) y px pos.line B.sc) fun hw=>
    ra C' (aI i (bv pi (bz j) pc pe)) (aL.setCompG (Nat.beq o 1) hc (eq_of_beq hl▸ht) hw K hi hj hI hcond hel hs)) (bif Nat.beq o 1 then Dj C i else yw C i)
 else kW (α:=fun e=>cb P B C fr (.Assign [.Name y px] e pos)) e mF fun g es cpos=>lR (α:=fun g=>cb P B C fr (.Assign [.Name y px] (.Call g es [] cpos) pos)) g mF fun o name apos=>cc (α:=fun o=>cb P B C fr (.Assign [.Name y px] (.Call (.Attribute o name apos) es [] cpos) pos)) o mF fun z np=>n7 (α:=fun es=>cb P B C fr (.Assign [.Name y px] (.Call (.Attribute (.Name z np) name apos) es [] cpos) pos)) es fun x=>zr (α:=fun x=>cb P B C fr (.Assign [.Name y px] (.Call (.Attribute (.Name z np) name apos) [x] [] cpos) pos)) x fun n kk cp=>
  xH B z mF fun j k' hz=>mG (br C j) fun hv=>mG (ch C i false C) fun hc=>mG (apos.endLine==cpos.line) fun hl=>mG (n==0) fun hn=>mG (name==ofString "pop") fun hy=>mG (!v6 (.Call (.Attribute (.Name z np) (ofString "pop") apos) [.Constant (.int 0) kk cp] [] cpos) y px pos.line B.sc) fun hw=>
   ra C (oE j i) (sb (α:=fun name=>aL P B C fr C (.Assign [.Name y px] (.Call (.Attribute (.Name z np) name apos) [.Constant (.int n) kk cp] [] cpos) pos) (oE j i)) hy (sb (α:=fun n=>aL P B C fr C (.Assign [.Name y px] (.Call (.Attribute (.Name z np) (ofString "pop") apos) [.Constant (.int n) kk cp] [] cpos) pos) (oE j i)) hn (aL.pop0 hv hz hc ht (Fr hk) (v9 hw) (fun _=>rfl) hl fun _=>rfl)))
def DV (o:Expr)(name:Str)(apos:Pos)(e:Expr)(pos:Pos):Mo (cb P B C fr (.Assign [.Attribute o name apos] e pos)):=
 cc (α:=fun o=>cb P B C fr (.Assign [.Attribute o name apos] e pos)) o mF fun y np=>mA D name fun c i ms O hn=>Fp B C y mF fun k ht=>mG (jr e) fun hp=>
  jK (gQ c i) (fun ho=>mW E B C e fun a ha=>ra C (sM c i a) (aL.saN O hn ho ht ((pl hp).swa _ _ _ _) ha)) (mG (!gQ c i) fun ho=>mV E B C e fun a ha=>ra C (sM c i a) (aL.sa O hn (v9 ho) ht ((pl hp).swa _ _ _ _) ha))
def FP (es:List Expr)(kt:Nat)(pt:Pos)(e:Expr)(pos:Pos):Mo (cb P B C fr (.Assign [.Tuple es kt pt] e pos)):=mU (Hb B es) fun zs he=>mG (Ba B C zs) fun hz=>
 m2 (kW (α:=fun e=>cb P B C fr (.Assign [.Tuple es kt pt] e pos)) e mF fun g as cpos=>lR (α:=fun g=>cb P B C fr (.Assign [.Tuple es kt pt] (.Call g as [] cpos) pos)) g mF fun o name apos=>cc (α:=fun o=>cb P B C fr (.Assign [.Tuple es kt pt] (.Call (.Attribute o name apos) as [] cpos) pos)) o mF fun y np=>gk (α:=fun as=>cb P B C fr (.Assign [.Tuple es kt pt] (.Call (.Attribute (.Name y np) name apos) as [] cpos) pos)) as
  (xH B y mF fun j k ht=>mG (br C j) fun hv=>mG (apos.endLine==cpos.line) fun hl=>mG (name==ofString "pop") fun hy=>ra C (wY j (zs.map (·.i))) (sb (α:=fun name=>aL P B C fr C (.Assign [.Tuple es kt pt] (.Call (.Attribute (.Name y np) name apos) [] [] cpos) pos) (wY j (zs.map (·.i)))) hy (he▸aL.pop hz hv ht (fun _=>rfl) (fun _=>rfl) (fun _=>rfl) hl))))
 ((fun k:∀e,(∀l env,swapsWithSole [.Tuple (zs.map iw.e) kt pt] e l env=pure false)->(∀env,swappedStores [.Tuple (zs.map iw.e) kt pt] e env=pure none)->Mo (cb P B C fr (.Assign [.Tuple es kt pt] e pos))=>
   cc (α:=fun e=>cb P B C fr (.Assign [.Tuple es kt pt] e pos)) e (kW (α:=fun e=>cb P B C fr (.Assign [.Tuple es kt pt] e pos)) e (vC (α:=fun e=>cb P B C fr (.Assign [.Tuple es kt pt] e pos)) e mF
    fun h=>Expr.Subscript.elim (motive_1:=fun e=>Mo (cb P B C fr (.Assign [.Tuple es kt pt] e pos))) e h fun a i p=>k (.Subscript a i p) (fun _ _=>rfl) fun _=>rfl)
    fun g es p=>k (.Call g es [] p) (fun _ _=>rfl) fun _=>rfl)
    fun y p=>k (.Name y p) (fun _ _=>rfl) fun _=>rfl)
  fun e hs hw=>mV E B C e fun a ha=>ra C (qy (zs.map (·.i)) a) (he▸aL.unp hz (hs _) hw ha))
def FQ (a i:Expr)(ps:Pos)(e:Expr)(pos:Pos):Mo (cb P B C fr (.Assign [.Subscript a i ps] e pos)):=mG (jr e) fun hp=>mV E B C e fun v hv=>
 cc (α:=fun a=>cb P B C fr (.Assign [.Subscript a i ps] e pos)) a
  (uN D B C (α:=fun a=>cb P B C fr (.Assign [.Subscript a i ps] e pos)) a (fun _=>mF) fun y np x ap c j ms k O hn ht=>mV E B C i fun q hq=>ra C (qW c j q v) (aL.fput O hn ht ((pl hp).sws _ _ _ _) hq hv))
 fun y np=>xH B y mF fun j k ht=>jK (br C j)
  (fun ho=>mN fun d=>mX E B C i fun q hq=>ra C (zo j er q v) (aL.put tY ho ht ((pl hp).sws _ _ _ _) hq hv))
  (zr (α:=fun i=>cb P B C fr (.Assign [.Subscript (.Name y np) i ps] e pos)) i fun n kk cp=>mG (j0 C j) fun ho=>mG (n==0) fun hn=>ra C (ju j v) (sb (α:=fun n=>aL P B C fr C (.Assign [.Subscript (.Name y np) (.Constant (.int n) kk cp) ps] e pos) (ju j v)) hn (aL.spot ho ht ((pl hp).sws _ _ _ _) hv)))
def FR (e:Expr)(pos:Pos):Mo (cb P B C fr (.Return (some e) pos)):=Bool.rec (motive:=fun fr=>Mo (cb P B C fr (.Return (some e) pos)))
 (mV E B C e fun a ha=>rl (aF a) fun _=>aL.ret rfl ha)
 (cc (α:=fun e=>cb P B C true (.Return (some e) pos)) e (mW E B C e fun a ha=>rl (aF a) fun _=>aL.retN rfl ha) fun y p=>xH B y mF fun i k ht=>mG (br C i) fun hv=>rl (aF (pV i)) fun _=>aL.retO rfl hv ht) fr
def FV (e:Expr)(pos:Pos):Mo (cb P B C fr (.Expr e pos)):=kW (α:=fun e=>cb P B C fr (.Expr e pos)) e mF fun g es cpos=>m2 (mX E B C (.Call g es [] cpos) fun a ha=>ra C (jc a) (aL.expr (fun _=>rfl) ha))
 (lR (α:=fun g=>cb P B C fr (.Expr (.Call g es [] cpos) pos)) g mF fun o name apos=>n7 (α:=fun es=>cb P B C fr (.Expr (.Call (.Attribute o name apos) es [] cpos) pos)) es fun x=>mG (apos.endLine==cpos.line) fun hl=>mG (jr x) fun hp=>
   cc (α:=fun o=>cb P B C fr (.Expr (.Call (.Attribute o name apos) [x] [] cpos) pos)) o
    (uN D B C (α:=fun o=>cb P B C fr (.Expr (.Call (.Attribute o name apos) [x] [] cpos) pos)) o (fun _=>mF) fun y np at' ap' c i ms k O hn ht=>mG (name==ofString "append") fun hy=>mV E B C x fun a ha=>ra C (qX c i a) (sb (α:=fun name=>aL P B C fr C (.Expr (.Call (.Attribute (.Attribute (.Name y np) at' ap') name apos) [x] [] cpos) pos) (qX c i a)) hy (aL.fap O hn ht (fun _=>rfl) hl (bt hp _) (fun _=>rfl) ha)))
   fun y np=>xH B y mF fun i k ht=>mG (br C i) fun hv=>
    jK (name==ofString "append") (fun hy=>mV E B C x fun a ha=>ra C (jb i dC a) (sb (α:=fun name=>aL P B C fr C (.Expr (.Call (.Attribute (.Name y np) name apos) [x] [] cpos) pos) (jb i dC a)) hy (aL.app hv ht hl (fun _=>rfl) (bt hp _) (fun _=>rfl) ha)))
    (mG (name==ofString "extend") fun hy=>mX E B C x fun a ha=>ra C (jb i jH a) (sb (α:=fun name=>aL P B C fr C (.Expr (.Call (.Attribute (.Name y np) name apos) [x] [] cpos) pos) (jb i jH a)) hy (aL.ext hv ht hl (fun _=>rfl) (bt hp _) (fun _=>rfl) ha))))
def FU (target iter:Expr)(body:List Stmt)(pos:Pos):Mo (cb P B C fr (.For target iter body [] pos)):=
 cc (α:=fun target=>cb P B C fr (.For target iter body [] pos)) target
  (BH (α:=fun target=>cb P B C fr (.For target iter body [] pos)) target mF fun es kt pt=>FF (α:=fun es=>cb P B C fr (.For (.Tuple es kt pt) iter body [] pos)) es fun t1 t2=>cc (α:=fun t1=>cb P B C fr (.For (.Tuple [t1,t2] kt pt) iter body [] pos)) t1 mF fun x1 p1=>cc (α:=fun t2=>cb P B C fr (.For (.Tuple [.Name x1 p1,t2] kt pt) iter body [] pos)) t2 mF fun x2 p2=>
   kW (α:=fun iter=>cb P B C fr (.For (.Tuple [.Name x1 p1,.Name x2 p2] kt pt) iter body [] pos)) iter mF fun g as cp=>cc (α:=fun g=>cb P B C fr (.For (.Tuple [.Name x1 p1,.Name x2 p2] kt pt) (.Call g as [] cp) body [] pos)) g mF fun y p=>n7 (α:=fun as=>cb P B C fr (.For (.Tuple [.Name x1 p1,.Name x2 p2] kt pt) (.Call (.Name y p) as [] cp) body [] pos)) as fun x=>
    xH B x1 mF fun i1 k1 _=>xH B x2 mF fun i2 k2 _=>mG (Ba B C [⟨i1,x1,k1,p1⟩,⟨i2,x2,k2,p2⟩]) fun hz=>mG (Gi B y) fun hx=>mG (y==ofString "enumerate") fun hy=>mG (jr x) fun hp=>mV E B C x fun a ha=>mT C (S B C fr body) fun b hb=>
     ra C (dv (rt a) (zm i1 i2) b) (sb (α:=fun y=>aL P B C fr C (.For (.Tuple [.Name x1 p1,.Name x2 p2] kt pt) (.Call (.Name y p) [x] [] cp) body [] pos) (dv (rt a) (zm i1 i2) b)) hy (aL.for (fun _ _=>rfl) (fI.enum (z1:=⟨i1,x1,k1,p1⟩) (z2:=⟨i2,x2,k2,p2⟩) hz (CO hy hx) ((pl hp).star []) ha) hb)))
 fun y p=>xH B y mF fun i k ht=>mG (ch C i false C) fun hc=>mG (k==.local||k==.cell) fun hk=>mG (jr iter) fun hp=>mU (FG E B C (jS.one hc ht (Fr hk)) iter) fun it hi=>mT C (S B C fr body) fun b hb=>
  ra C (dv it (bz i) b) (aL.for (pl hp).fold hi hb)
def G7 (t:Expr)(a b:List Stmt)(pos:Pos):Mo (cb P B C fr (.If t a b pos)):=mU (Tr B C t) fun t ht=>mS (S B C fr a)
 (fun C1 p h=>mT C1 (S B C fr b) fun q k=>ra C1 (bR t p q) (aL.if ht h k))
 fun p h=>mS (S B C fr b) (fun C1 q k=>ra C1 (bR t p q) (aL.if ht (h C1) k)) fun q k=>rl (bR t p q) fun C'=>aL.if ht (h C') (k C')
def vS {α:Stmt->Type}{k:Nat}(st:Stmt)(d:Mo (α st))(f:st.ctorIdx=k->Mo (α st)):Mo (α st):=jK (Nat.beq st.ctorIdx k) (fun h=>f (eq_of_beq_eq_true h)) d
def FX (st:Stmt):Mo (cb P B C fr st):=
 vS (α:=fun st=>cb P B C fr st) st (vS (α:=fun st=>cb P B C fr st) st (vS (α:=fun st=>cb P B C fr st) st (vS (α:=fun st=>cb P B C fr st) st (vS (α:=fun st=>cb P B C fr st) st (vS (α:=fun st=>cb P B C fr st) st (vS (α:=fun st=>cb P B C fr st) st (vS (α:=fun st=>cb P B C fr st) st mF
  fun h=>Stmt.Try.elim (motive_2:=fun st=>Mo (cb P B C fr st)) st h fun b hs o f pos=>gk (α:=fun o=>cb P B C fr (.Try b hs o f pos)) o (gk (α:=fun f=>cb P B C fr (.Try b hs [] f pos)) f (dH (α:=fun hs=>cb P B C fr (.Try b hs [] [] pos)) hs mF fun h₀ hs=>mS (S B C fr b) (fun C1 p h=>ra C1 p (aL.try h)) fun p h=>rl p fun C'=>aL.try (h C'))))
  fun h=>Stmt.Raise.elim (motive_2:=fun st=>Mo (cb P B C fr st)) st h fun e c pos=>rl gu fun _=>aL.bad)
  fun h=>Stmt.Expr.elim (motive_2:=fun st=>Mo (cb P B C fr st)) st h fun e pos=>FV D E B C fr e pos)
  fun h=>Stmt.While.elim (motive_2:=fun st=>Mo (cb P B C fr st)) st h fun t b o pos=>gk (α:=fun o=>cb P B C fr (.While t b o pos)) o (mN fun m=>mN fun x=>mU (Tr B C t) fun t ht=>mT C (S B C fr b) fun b hb=>ra C (gr (m * 10 ^ x) t b) (aL.while _ ht hb)))
  fun h=>Stmt.For.elim (motive_2:=fun st=>Mo (cb P B C fr st)) st h fun t i b o pos=>gk (α:=fun o=>cb P B C fr (.For t i b o pos)) o (FU E S B C fr t i b pos))
  fun h=>Stmt.If.elim (motive_2:=fun st=>Mo (cb P B C fr st)) st h fun t a b pos=>G7 Tr S B C fr t a b pos)
  fun h=>Stmt.Return.elim (motive_2:=fun st=>Mo (cb P B C fr st)) st h fun e pos=>Option.rec (motive:=fun e=>Mo (cb P B C fr (.Return e pos))) mF (fun e=>FR E B C fr e pos) e)
  fun h=>Stmt.Assign.elim (motive_2:=fun st=>Mo (cb P B C fr st)) st h fun ts e pos=>n7 (α:=fun ts=>cb P B C fr (.Assign ts e pos)) ts fun t=>
   cc (α:=fun t=>cb P B C fr (.Assign [t] e pos)) t (lR (α:=fun t=>cb P B C fr (.Assign [t] e pos)) t (BH (α:=fun t=>cb P B C fr (.Assign [t] e pos)) t (vC (α:=fun t=>cb P B C fr (.Assign [t] e pos)) t mF
    fun h=>Expr.Subscript.elim (motive_1:=fun t=>Mo (cb P B C fr (.Assign [t] e pos))) t h fun a i ps=>FQ D E B C fr a i ps e pos) fun es k p=>FP E B C fr es k p e pos) fun o x p=>DV D E B C fr o x p e pos) fun y px=>DU E Tr B C fr y px e pos
def FB (ss:List Stmt):Mo (RZ P B C fr ss):=mN fun m=>Nat.rec
 (dH (α:=fun ss=>RZ P B C fr ss) ss (ra C am cA.nil) fun st ss=>mS (FX D E Tr S B C fr st)
  (fun C1 p h=>mS (S B C1 fr ss) (fun C2 q k=>ra C2 (ai p q) (cA.cons h k)) fun q k=>rl (ai p q) fun C'=>cA.cons h (k C'))
  fun p h=>gk (α:=fun ss=>RZ P B C fr (st::ss)) ss (rl (ai p am) fun C'=>cA.cons (h C') cA.nil))
 (fun i _=>mG (br C i) fun hv=>mG (ch C i false (yw C i)) fun hc=>mG (B.tab[i]?==some (some ((B.tab[i]?.getD none).getD (ofString "",.local)))) fun ht=>
  mS (S B (yw C i) fr ss) (fun C' p h=>ra C' p (cA.fz hv hc (eq_of_beq ht) h)) fun p h=>rl p fun C'=>cA.fz hv hc (eq_of_beq ht) (h C')) m
end
def Dz {P:Pg}{L:LT}(D:eQ P L)(n:Nat):FS P:=Nat.rec (fun _ _ _ _=>mF) (fun _ r B C fr ss=>FB D (DA D 20).1 (DA D 20).2 r B C fr ss) n
theorem A0 {P:Pg}{L:LT}{D:eQ P L}{B:bn}{C:Ct}{fr:Bool}{ss:List Stmt}{p:PS}{n s:Nat}(h:(Dz D n B C fr ss s).map (·.1.2.1)=some p):∃C',fH P B C fr C' ss p:=
 let ⟨r,_,h⟩:=ar h
 h▸Option.rec (motive:=fun o=>∀a:{p:PS // KS P B C fr (P.W fun env=>execs ss env) p o},∃C',fH P B C fr C' ss a.1) (fun a=>⟨C,a.2 C⟩) (fun C' a=>⟨C',a.2⟩) r.1.1 r.1.2
theorem Ar {P:Pg}{f:Nat}{F:eP}{mN:Str->Option Value}{gl:Bool}{nm:Str}{sc:Scope}{bd:List Stmt}{ps:List Str}{tab:List (Option (Str×NameKind))}{U:List Nat}(x:oy P.h₀ P.mg mN gl nm sc bd ps (P.fnA f) (P.fd f))(h:EA sc tab ps U F.np=true)(sim:∃C',fH P ⟨sc,tab⟩ ⟨[],U,oK f⟩ (lC f) C' bd F.body):vZ P f F:=let ⟨_,q⟩:=sim;As x h q
end
end Mine
end
section
set_option tactic.hygienic false
namespace Mine
noncomputable section
open PySem PySem.W PyProof.Rows
noncomputable def td {w:Type}(s:Stmt)(d:w)(f:Arguments->List Stmt->Scope->w):w:=jK (Nat.beq s.ctorIdx 0) (fun h=>Stmt.FunctionDef.elim (motive_2:=fun _=>w) s (eq_of_beq_eq_true h) fun _ a b _ _ _ sc _ _ _=>f a b sc) d
noncomputable def bN (q:Program)(k:Nat):Stmt:=(q.main.body[k]?).getD (.Pass default)
def pO (q:Program)(k j:Nat):Stmt:=jK (Nat.beq (bN q k).ctorIdx 2) (fun h=>Stmt.ClassDef.elim (motive_2:=fun _=>Stmt) (bN q k) (eq_of_beq_eq_true h) fun _ _ _ b _ _ _ _ _ _ _=>(b[j]?).getD (.Pass default)) (.Pass default)
noncomputable abbrev FI:=Nat×Stmt×Str×Bool×Tb×List Nat×Nat
section
variable (I:List FI) (Ψ:Nat->Option eP) (L:LT) (f:Nat)
noncomputable def gU:Stmt×Str×Bool×Tb×List Nat×Nat:=((I.find? fun r=>Nat.beq r.1 f).map (·.2)).getD (.Pass default,ofString "",true,[],[],0)
def lj:Str:=(gU I f).2.1
def pX:Bool:=(gU I f).2.2.1
def fq:Tb:=(gU I f).2.2.2.1
def jf:List Nat:=(gU I f).2.2.2.2.1
def Gb:Nat:=(gU I f).2.2.2.2.2
def qv:List Stmt:=td (gU I f).1 [] fun _ b _=>b
def su:Scope:=td (gU I f).1 default fun _ _ s=>s
def Eb:Arguments:=td (gU I f).1 default fun a _ _=>a
noncomputable def Cj:Nat:=((Ψ f).map eP.np).getD 0
def iy:List Str:=((fq I f).take (Cj Ψ f)).filterMap (·.map (·.1))
noncomputable def xE:Bool:=L.2.1.any fun p=>Nat.beq p.2 f
end
noncomputable def EV (b:Bool):Str:=bif b then ofString "Machine" else ofString "Web"
def A6 (q:Program)(I:List FI)(L:LT)(f:Nat):Option (Scope×List Stmt×Arguments):=bif pX I f then uw q (lj I f) else (nq q (looseW q []) (EV (xE L f))).bind (xC · (lj I f))
def Bx (I:List FI)(Ψ:Nat->Option eP)(qual:Str)(pm cd doc:Value)(vs:List Value)(f:Nat):Option (Sem (List (Str×Value))×Sem (List (Str×Value))):=bif Nat.beq vs.length (iy I Ψ f).length then some (bindArgs (Calls.docDef (lj I f) (Eb I f) (qv I f) (su I f) pm cd doc) ⟨vs,[]⟩,bindArgs (methDef (lj I f) qual (Eb I f) (qv I f) (su I f) pm cd doc) ⟨vs,[]⟩) else none
def Bw (I:List FI)(Ψ:Nat->Option eP)(vs:List Value)(f:Nat):Option (Sem (List (Str×Value))×Sem (List (Str×Value))):=bif Nat.beq vs.length (iy I Ψ f).length then some (pure ((iy I Ψ f).zip vs),pure ((iy I Ψ f).zip vs)) else none
structure tH (q:Program) (Ψ:Nat->Option eP) (ks:List Nat) (I:List FI) (L:LT):Prop where
 r:ks.map (A6 q I L)=ks.map fun f=>some (su I f,qv I f,Eb I f)
 b1:∀u pm cd doc a,ks.map (Bx I Ψ u pm cd doc [a])=ks.map (Bw I Ψ [a])
 b2:∀u pm cd doc a b,ks.map (Bx I Ψ u pm cd doc [a,b])=ks.map (Bw I Ψ [a,b])
 b3:∀u pm cd doc a b c,ks.map (Bx I Ψ u pm cd doc [a,b,c])=ks.map (Bw I Ψ [a,b,c])
 b4:∀u pm cd doc a b c d,ks.map (Bx I Ψ u pm cd doc [a,b,c,d])=ks.map (Bw I Ψ [a,b,c,d])
 b5:∀u pm cd doc a b c d e,ks.map (Bx I Ψ u pm cd doc [a,b,c,d,e])=ks.map (Bw I Ψ [a,b,c,d,e])
 p:ks.all (fun f=>(Nat.ble 1 (iy I Ψ f).length&&Nat.ble (iy I Ψ f).length 5)&&EA (su I f) (fq I f) (iy I Ψ f) (jf I f) (Cj Ψ f))=true
 m:∀b,(L.ms b).all (fun p=>(Ψ p.2).isSome&&(!pX I p.2&&((lj I p.2==p.1)&&(xE L p.2==b))))=true
 f:L.1.all (fun p=>(Ψ p.2).isSome&&(pX I p.2&&lj I p.2==p.1))=true
 a:∀b,(nq q (looseW q []) (EV b)).map (fun c=>(bX (tq b)).all (c.statics.contains ·))=some true
 o:∀b,(L.ms b).map (fun p=>(fastLookup "object" p.1).isSome)=(L.ms b).map fun _=>true
 n:g9.all (uu q (looseW q []))=true
theorem Db:∀b,(bX (tq b)).map (fastLookup "object")=(bX (tq b)).map fun _=>some none
 |true=>by kernel_rfl
 |false=>by kernel_rfl
theorem all_cons {α:Type}{p:α->Prop}{a:α}{l:List α}(h:p a)(hl:∀r∈l,p r):∀r∈a::l,p r:=fun r hr=>(an hr).elim (fun e=>e▸h) (hl r)
theorem G5 {α:Type}{p:Bool->α->Prop}(h:∀b,∃x,p b x):∃f:Bool->α,∀b,p b (f b):=⟨fun b=>(h b).choose,fun b=>(h b).choose_spec⟩
theorem zg {α z:Type}{f g:α->z}{l:List α}(h:l.map f=l.map g){a:α}(ha:a∈l):f a=g a:=List.map_inj_left.mp h a ha
theorem l5 {α:Type}{p:List α->Prop}(h1:∀a,p [a])(h2:∀a b,p [a,b])(h3:∀a b c,p [a,b,c])(h4:∀a b c d,p [a,b,c,d])(h5:∀a b c d e,p [a,b,c,d,e])(l:List α):Nat.ble 1 l.length=true->Nat.ble l.length 5=true->p l:=
 List.rec (motive:=fun l=>Nat.ble 1 l.length=true->Nat.ble l.length 5=true->p l) (fun h=>nomatch h) (fun a l _ _=>List.rec (motive:=fun l=>Nat.ble (a::l).length 5=true->p (a::l)) (fun _=>h1 a) (fun b l _=>List.rec (motive:=fun l=>Nat.ble (a::b::l).length 5=true->p (a::b::l)) (fun _=>h2 a b)
  (fun c l _=>List.rec (motive:=fun l=>Nat.ble (a::b::c::l).length 5=true->p (a::b::c::l)) (fun _=>h3 a b c) (fun d l _=>List.rec (motive:=fun l=>Nat.ble (a::b::c::d::l).length 5=true->p (a::b::c::d::l)) (fun _=>h4 a b c d) (fun e l _=>List.rec (motive:=fun l=>Nat.ble (a::b::c::d::e::l).length 5=true->p (a::b::c::d::e::l)) (fun _=>h5 a b c d e) (fun _ _ _ h=>nomatch h) l) l) l) l) l) l
structure Dw (q:Program) (mg:Str->Option Value) (h:Heap) (b:Bool) (x:ClsRec×Addr×Addr×(Str->Option Value)):Prop where
 c:nq q (looseW q []) (EV b)=some x.1
 g:mg (EV b)=some (.ref x.2.1)
 A:PlainAt h x.1.withCmp x.2.1 x.2.2.1 x.2.2.2
section
variable {q:Program} {Ψ:Nat->Option eP} {ks:List Nat} {I:List FI} {L:LT} (X:tH q Ψ ks I L)
include X
theorem tH.bind {f:Nat}(hf:f∈ks)(u:Str)(pm cd doc:Value)(vs:List Value)(hv:vs.length=(iy I Ψ f).length):Bx I Ψ u pm cd doc vs f=Bw I Ψ vs f:=by
 have h:=(kR (kR (aB X.p f hf)).1)
 rw [<-hv] at h
 exact l5 (p:=fun vs=>Bx I Ψ u pm cd doc vs f=Bw I Ψ vs f) (fun a=>zg (X.b1 u pm cd doc a) hf) (fun a b=>zg (X.b2 u pm cd doc a b) hf) (fun a b c=>zg (X.b3 u pm cd doc a b c) hf) (fun a b c d=>zg (X.b4 u pm cd doc a b c d) hf) (fun a b c d e=>zg (X.b5 u pm cd doc a b c d e) hf) vs h.1 h.2
theorem tH.bnd {f:Nat}(hf:f∈ks)(u:Str)(pm cd doc:Value)(vs:List Value)(hv:vs.length=(iy I Ψ f).length):bindArgs (Calls.docDef (lj I f) (Eb I f) (qv I f) (su I f) pm cd doc) ⟨vs,[]⟩=pure ((iy I Ψ f).zip vs)/\bindArgs (methDef (lj I f) u (Eb I f) (qv I f) (su I f) pm cd doc) ⟨vs,[]⟩=pure ((iy I Ψ f).zip vs):=by
 have h:=X.bind hf u pm cd doc vs hv
 unfold Bx Bw at h
 rw [show Nat.beq vs.length (iy I Ψ f).length=true from hv▸beq_refl _] at h
 exact Prod.mk.inj (Option.some.inj h)
theorem tH.fnAt {mean:ExcName->Option Value}{mg mb:Str->Option Value}{h:Heap}(T:Top q (looseW q []) mean mg mb h){H:Bool->ClsRec×Addr×Addr×(Str->Option Value)}(K:∀b,Dw q mg h b (H b)){f:Nat}(hf:f∈ks):
  ∃a d,oy h mg (H (xE L f)).2.2.2 (pX I f) (lj I f) (su I f) (qv I f) (iy I Ψ f) a d:=by
 have r:=zg X.r hf
 unfold A6 at r
 cases hg:pX I f with
 |true=>rw [hg] at r;exact Av T _ r fun pm cd doc vs hv=>(X.bnd hf (ofString "") pm cd doc vs hv).1
 |false=>rw [hg] at r;exact zT (K _).A _ (by rw [(K (xE L f)).c] at r;exact r) fun u pm cd doc vs hv=>(X.bnd hf u pm cd doc vs hv).2
end
theorem xj {x:Str}{y:Option Value}(h:fastLookup "object" x=some y):typeLookup (.type "object") x=pure y:=by rw [typeLookup_type,builtinLookup_eq_fast,h]
theorem tH.laid {q:Program}{ks:List Nat}{I:List FI}{L:LT}{P:Pg}(X:tH q P.Ψ ks I L){H:Bool->ClsRec×Addr×Addr×(Str->Option Value)}(K:∀b,Dw q P.mg P.h₀ b (H b))(hcl:∀b,P.cls (tq b)=(H b).2.1)(hgl:P.gl=pX I)(cs:∀p∈L.2.2.2,∃u,P.mg p.1=some u/\∀g h,Rp P g h p.2 u)
  (hF:∀(f:Nat) (F:eP),P.Ψ f=some F->oy P.h₀ P.mg (H (xE L f)).2.2.2 (pX I f) (lj I f) (su I f) (qv I f) (iy I P.Ψ f) (P.fnA f) (P.fd f)):eQ P L where
 fn:=fun p hp=>by
  obtain ⟨h1,h2⟩:=kR (aB X.f p hp)
  obtain ⟨F,h1⟩:=aE h1
  exact ⟨F,h1,by rw [hgl];exact (kR h2).1,(hF _ F h1).name.trans (eq_of_beq (kR h2).2)⟩
 o:=fun b=>vc (K b).A (hcl b) (by have:=X.a b;rw [(K b).c] at this;exact Option.some.inj this) (fun x hx=>xj (zg (Db b) hx)) (fun p hp=>by
  obtain ⟨h1,h2⟩:=kR (aB (X.m b) p hp)
  obtain ⟨F,h1⟩:=aE h1
  obtain ⟨h2,h3⟩:=kR h2
  obtain ⟨h3,h4⟩:=kR h3
  have y:=(hF _ F h1).asMeth (v9 h2)
  rw [eq_of_beq h3,eq_of_beq h4] at y
  exact y) fun p hp=>let ⟨y,h⟩:=aE (zg (X.o b) hp);⟨y,xj h⟩
 me:=fun b p hp=>aE (kR (aB (X.m b) p hp)).1
 g:=fun b=>(hcl b)▸(K b).g
 cs:=cs
abbrev Dp (P:Pg)(I:List FI)(f:Nat)(p:PS):Prop:=∃C',fH P ⟨su I f,fq I f⟩ ⟨[],jf I f,oK f⟩ (lC f) C' (qv I f) p
noncomputable def DQ (f:Nat):Bool:=Nat.beq f 999||Nat.beq f 70
def FH {P:Pg}{L:LT}(D:eQ P L)(I:List FI)(f:Nat):Option PS:=bif Nat.beq f 35||DQ f then none else (Dz D 60 ⟨su I f,fq I f⟩ ⟨[],jf I f,oK f⟩ (lC f) (qv I f) (Gb I f)).map (·.1.2.1)
def F2 (Ψ:Nat->Option eP)(f:Nat):Option PS:=bif Nat.beq f 35||DQ f then none else (Ψ f).map eP.body
theorem FM {P:Pg}{L:LT}{D:eQ P L}{I:List FI}{ks:List Nat}(h:ks.map (FH D I)=ks.map (F2 P.Ψ))(h35:∀F,P.Ψ 35=some F->Dp P I 35 F.body)(h9:∀f F,DQ f=true->P.Ψ f=some F->F.body=gu){f:Nat}{F:eP}(hf:f∈ks)(e:P.Ψ f=some F):Dp P I f F.body:=by
 have h:=zg h hf
 unfold FH F2 at h
 cases q5:Nat.beq f 35 with
 |true=>cases eq_of_beq_eq_true q5;exact h35 F e
 |false=>
  cases q9:DQ f with
  |true=>rw [h9 f F q9 e];exact ⟨⟨[],[],false⟩,cA.badZ⟩
  |false=>rw [q5,q9,e] at h;exact A0 h
theorem CB {rows:List (Nat×eP)}{f:Nat}{F:eP}(e:(rows.find? fun r=>Nat.beq r.1 f).map (·.2)=some F):f∈rows.map (·.1):=
 let ⟨_,h1,_⟩:=ar e
 eq_of_beq_eq_true (find?_some (p:=fun r:Nat×eP=>Nat.beq r.1 f) h1)▸List.mem_map_of_mem (List.mem_of_find?_eq_some h1)
end
end Mine
end
section
set_option tactic.hygienic false
namespace Mine
noncomputable section
open PySem
inductive Fj (g:Gh) (h:Heap) (e:Env):Prop
 |mk (k:e.scope.kind≠.module) (L:Addr) (o:Obj) (f:e.frame=some L) (nF:¬g.F L) (nZ:¬g.Z L) (nO:¬g.O L) (at_:h.get? L=some o) (es:Array DictEntry) (m:Nat) (d:o.data=.dict es m)
def gh (g:Gh)(h:Heap)(l:List Env):Prop:=∀e∈l,Fj g h e
structure Kp (g:Gh) (J:Sg) (s:Shared) (l:List Env) (s':Shared):Prop where
 st:∃h' tk,s'={s with heap:=h',toks:=tk}
 keep:∀a o,s.heap.get? a=some o->¬g.Z a->s'.heap.get? a=some o\/((∃e∈l,e.frame=some a)/\∃sl,s'.heap.get? a=some {o with slots:=sl})
 back:∀a,s'.heap.get? a=none->s.heap.get? a=none
 spot:∃t n,s'.heap.get? g.sp=some (aX #[.int J.spot t] n)
inductive Gu (L:Option Addr) (hg h:Heap) (a:Addr) (vs:Array Value):Prop
 |mk (T:Addr) (oT:Obj) (ts:Array Value) (e:vs[1]?=some (.ref T)) (n:hg.get? T=none) (ne:T≠a) (o:h.get? T=some oT) (d:oT.data=.fields ts) (f:ts[3]?=some .none\/∃l,L=some l/\ts[3]?=some (rawInt l))
inductive DH (L:Option Addr) (hg h:Heap) (x:Value) (D:Addr):Prop
 |mk (a:Addr) (oe:Obj) (vs:Array Value) (e:x=.ref a) (n:hg.get? a=none) (o:h.get? a=some oe) (k:oe.cls=.ref D/\oe.dict=none) (d:oe.data=.fields vs) (t:vs[1]?=some .none\/Gu L hg h a vs)
structure dp (g:Gh) (J:Sg) (s:Shared) (l:List Env) (L:Option Addr) (D:Addr) (x:Value) (s':Shared):Prop where
 k:Kp g J s l s'
 f:DH L s.heap s'.heap x D
section
variable {P:Pg} {B:bn} {C:Ct} {n:Nat} {M:Model} {A:Around} {env fe:Env} {outer l l1:List Env} {g g' g₁:Gh} {V:aY} {J J1:Sg} {s0 s s' s₁:Shared} {h h':Heap} {L L':Option Addr} {D a:Addr} {x:Value} {E:Value->Shared->Prop} {Q:Unit->Shared->Prop}
theorem Az (a:Addr):({}:Heap).get? a=none:=Heap.get?_none_of_le (zero_le _)
theorem gh.at {e:Env}(fr:gh g s0.heap l)(he:e∈l)(K:Kp g J s0 l1 s):∃L o,e.frame=some L/\s0.heap.get? L≠none/\¬g.Z L/\s.heap.get? L=some o/\∃es m,o.data=.dict es m:=by
 obtain ⟨_,L,o,f,_,nZ,_,at_,es,m,d⟩:=fr e he
 rcases K.keep L o at_ nZ with q | ⟨_,sl,q⟩
 .exact ⟨L,o,f,ao at_,nZ,q,es,m,d⟩
 .exact ⟨L,_,f,ao at_,nZ,q,es,m,d⟩
theorem gh.funs (fr:gh g s0.heap l)(K:Kp g J s0 l1 s):s.heap.FunFrames {} l:=by
 induction l with
 |nil=>trivial
 |cons e r ih=>
  obtain ⟨L,o,f,_,_,q,es,m,d⟩:=fr.at mem_cons_self K
  exact ⟨(fr e mem_cons_self).casesOn fun k _ _ _ _ _ _ _ _ _ _=>k,⟨L,o,f,Az L,q,fun vs z=>by rw [d] at z;cases z⟩,ih fun e he=>fr e (mem_cons_of_mem _ he)⟩
theorem Kp.slots (K:Kp g J s0 l s)(fr:gh g s0.heap l)(zs:g.Z g.sp)(x:Heap.SlotsOnly (l.filterMap (·.frame)) s.heap h'):Kp g J s0 l {s with heap:=h'}:=by
 have zn:∀a,a∈l.filterMap (·.frame)->(∃e∈l,e.frame=some a)/\¬g.Z a:=fun a ha=>by
  obtain ⟨e,he,hf⟩:=List.mem_filterMap.mp ha
  obtain ⟨L,_,f,_,nZ,_⟩:=fr.at he K
  rw [hf] at f;cases f
  exact ⟨⟨e,he,hf⟩,nZ⟩
 refine ⟨St.trans K.st ⟨h',s.toks,rfl⟩,fun a o e z=>?_,fun a e=>?_,?_⟩
 .by_cases q:a∈l.filterMap (·.frame)
  .refine .inr ⟨(zn a q).1,?_⟩
   rcases K.keep a o e z with k | ⟨_,sl,k⟩
   .exact x.2.2 a o k
   .exact let ⟨sl',k'⟩:=x.2.2 a _ k;⟨sl',k'⟩
  .rw [x.2.1 a q];exact K.keep a o e z
 .refine K.back a ?_
  cases q:s.heap.get? a with
  |none=>rfl
  |some o=>obtain ⟨sl,k⟩:=x.2.2 a o q;rw [show ({s with heap:=h'}:Shared).heap.get? a=_ from k] at e;cases e
 .obtain ⟨t,n,e⟩:=K.spot
  exact ⟨t,n,(x.2.1 _ fun q=>(zn _ q).2 zs).trans e⟩
theorem Kp.grow (K:Kp g J s0 l s)(tk:Nat)(k:∀a o,s.heap.get? a=some o->h'.get? a=some o):Kp g J s0 l {s with heap:=h',toks:=tk}:=
 ⟨St.trans K.st ⟨h',tk,rfl⟩,fun a o e z=>(K.keep a o e z).imp (k a o) fun ⟨q,sl,e⟩=>⟨q,sl,k _ _ e⟩,fun a e=>K.back a (bw k a e),let ⟨t,n,e⟩:=K.spot;⟨t,n,k _ _ e⟩⟩
theorem Kp.other (K:Kp g J s0 l s)(tk:Nat)(hn:s0.heap.get? a=none)(sp:s0.heap.get? g.sp≠none)(hb:∀b,b≠a->h'.get? b=s.heap.get? b):Kp g J s0 l {s with heap:=h',toks:=tk}:=
 ⟨St.trans K.st ⟨h',tk,rfl⟩,fun b o e z=>by rw [show ({s with heap:=h',toks:=tk}:Shared).heap.get? b=_ from hb b fun q=>ao e (q▸hn)];exact K.keep b o e z,fun b e=>by
  by_cases q:b=a
  .exact q▸hn
  .exact K.back b ((hb b q).symm.trans e),let ⟨t,n,e⟩:=K.spot;⟨t,n,(hb g.sp fun q=>sp (q▸hn)).trans e⟩⟩
theorem Kp.refl (w:bf P g s.heap J):Kp g J s l s:=⟨⟨_,_,rfl⟩,fun _ _ e _=>.inl e,fun _ e=>e,w.spot.1⟩
theorem Kp.low (st:∃h tk,s₁={s with heap:=h,toks:=tk})(kp:∀a o,s.heap.get? a=some o->¬g.Z a->s₁.heap.get? a=some o)(bk:∀a,s₁.heap.get? a=none->s.heap.get? a=none)(zn:∀a,g₁.Z a->g.Z a\/s.heap.get? a=none)(sp:g₁.sp=g.sp)(hσ:J1.spot=J.spot)
  (fr:∀e∈l1,e∈l\/∀a,e.frame=some a->s.heap.get? a=none)(K:Kp g₁ J1 s₁ l1 s'):Kp g J s l s':=
 ⟨St.trans st K.st,fun a o e z=>(K.keep a o (kp a o e z) fun q=>(zn a q).elim z (ao e)).imp id fun ⟨⟨f,hf,ha⟩,q⟩=>⟨⟨f,(fr f hf).resolve_right fun q=>ao e (q a ha),ha⟩,q⟩,fun a e=>bk a (K.back a e),by rw [<-sp,<-hσ];exact K.spot⟩
theorem DH.low (bk:∀a,h.get? a=none->h'.get? a=none){HHH:Heap}(f:DH L h HHH x D):DH L h' HHH x D:=
 let ⟨a,oe,vs,e,n,o,k,d,t⟩:=f
 ⟨a,oe,vs,e,bk a n,o,k,d,t.imp id fun ⟨T,oT,ts,e,n,ne,o,d,f⟩=>⟨T,oT,ts,e,bk T n,ne,o,d,f⟩⟩
theorem dp.low (st:∃h tk,s₁={s with heap:=h,toks:=tk})(kp:∀a o,s.heap.get? a=some o->¬g.Z a->s₁.heap.get? a=some o)(bk:∀a,s₁.heap.get? a=none->s.heap.get? a=none)(zn:∀a,g₁.Z a->g.Z a\/s.heap.get? a=none)(sp:g₁.sp=g.sp)(hσ:J1.spot=J.spot)
  (fr:∀e∈l1,e∈l\/∀a,e.frame=some a->s.heap.get? a=none)(R:dp g₁ J1 s₁ l1 L D x s'):dp g J s l L D x s':=⟨R.k.low st kp bk zn sp hσ fr,R.f.low bk⟩
theorem dp.post (p:aC g s g₁ s₁)(R:dp g₁ J s₁ l L D x s'):dp g J s l L D x s':=R.low p.st p.keep p.back p.Zn p.sp rfl fun _ h=>.inl h
theorem Kp.post (p:aC g s g₁ s₁)(K:Kp g₁ J s₁ l s'):Kp g J s l s':=K.low p.st p.keep p.back p.Zn p.sp rfl fun _ h=>.inl h
theorem dp.up (R:dp g J s l none D x s'):dp g J s l L D x s':=
 ⟨R.k,let ⟨a,oe,vs,e,n,o,k,d,t⟩:=R.f;⟨a,oe,vs,e,n,o,k,d,t.imp id fun ⟨T,oT,ts,e,n,ne,o,d,f⟩=>⟨T,oT,ts,e,n,ne,o,d,f.imp id fun ⟨_,q,_⟩=>nomatch q⟩⟩⟩
theorem gh.post (fr:gh g s.heap l)(p:aC g s g' s'):gh g' s'.heap l:=fun e he=>
 let ⟨k,L,o,f,nF,nZ,nO,at_,es,m,d⟩:=fr e he
 ⟨k,L,o,f,fun q=>(p.Fn L q).elim nF (ao at_),fun q=>(p.Zn L q).elim nZ (ao at_),fun ⟨i,q⟩=>nO ⟨i,p.o▸q⟩,p.keep L o at_ nZ,es,m,d⟩
theorem gh.grow (fr:gh g h l)(kp:∀a o,h.get? a=some o->h'.get? a=some o)(fn:∀a,g'.F a->g.F a\/h.get? a=none)(zn:∀a,g'.Z a->g.Z a\/h.get? a=none)(on:∀a,g'.O a->g.O a):gh g' h' l:=fun e he=>
 let ⟨k,L,o,f,nF,nZ,nO,at_,es,m,d⟩:=fr e he
 ⟨k,L,o,f,fun q=>(fn L q).elim nF (ao at_),fun q=>(zn L q).elim nZ (ao at_),fun q=>nO (on L q),kp L o at_,es,m,d⟩
theorem tc {base:Heap}{Lf:Addr}{Q:Value->Shared->Prop}(hfr:A.frames=some (fe::outer))(hfe:fe.frame=env.frame)(hl:s.heap.FunFrames base (fe::outer))
  (hf:env.frame=some Lf)(h:∀h',Heap.SlotsOnly ((fe::outer).filterMap (·.frame)) s.heap h'->Q (.ref Lf) {s with heap:=h'}):wpAny M A (frameOf env) Q E s:=by
 unfold frameOf
 refine wpAny_bind (wpAny_frameEnvs hfr ?_)
 have hdw:((fe::outer).dropWhile fun x=>x.frame !=env.frame)=fe::outer:=by simp [List.dropWhile,hfe]
 rw [hdw]
 unfold frameObject
 refine wpAny_bind (wpAny_bind (wpAny_readyFrames_fun hl fun hg hs1=>wpAny_pure ?_))
 rw [hfe,hf]
 exact wpAny_pure (h hg hs1)
theorem vI (o:Obj)(f:Array Value->Array Value):(o.mapFields f).dict=o.dict:=by
 obtain ⟨c,d,dt,sl⟩:=o
 cases dt<;>rfl
theorem jy {Lf e:Addr}{oe:Obj}{vs:Array Value}{head:Value}{hadNext:Bool}(hfr:A.frames=some (fe::outer))(hfe:fe.frame=env.frame)(fr:gh g s0.heap (fe::outer))(hf:env.frame=some Lf)(zs:g.Z g.sp)(sp:s0.heap.get? g.sp≠none)(K:Kp g J s0 (fe::outer) s)
  (he:s.heap.get? e=some oe)(hd:oe.data=.fields vs)(hsz:1 < vs.size)(hc:oe.cls=.ref D/\oe.dict=none)(ne:s0.heap.get? e=none)(h:∀s',dp g J s0 (fe::outer) (some Lf) D (.ref e) s'->Q () s'):
  wpAny M A (do let a <-frameOf env;let pl <-entryPlaceOf Lf hadNext;let b <-EntryCells.newEntry head a .none (rawInt Lf) .none pl;setField (.ref e) 1 b) Q E s:=by
 refine wpAny_bind (tc hfr hfe (fr.funs K) hf fun h2 hs2=>?_)
 have K2:=K.slots fr zs hs2
 refine wpAny_bind (wpAny_entryPlaceOf fun pl hpl=>?_)
 unfold EntryCells.newEntry newFields
 refine wpAny_bind (wpAny_newObj_type ?_ (hpl.sizeOk5 _ _ _ _ _))
 have he2:h2.get? e=some oe:=(hs2.2.1 e fun q=>by
  obtain ⟨env',he',hf'⟩:=List.mem_filterMap.mp q
  obtain ⟨L',_,f,lv,_⟩:=fr.at he' K
  rw [hf'] at f;cases f;exact lv ne).trans he
 have he3:=Heap.get?_push_of_some (h:=h2) {cls:=.type "traceback",dict:=none,data:=.fields ([head,.ref Lf,.none,rawInt Lf,.none]++(if pl.isEmpty then replicate 6 Value.none else pl)).toArray} he2
 refine wpAny_setField he3 hd hsz ?_
 have hTe:h2.objs.size≠e:=Nat.ne_of_gt (Heap.lt_size he2)
 have hd3:=Obj.data_mapFields hd (·.setIfInBounds 1 (Value.ref h2.objs.size))
 have he4:=Heap.get?_update_self (Obj.mapFields (·.setIfInBounds 1 (Value.ref h2.objs.size))) he3 (Obj.isFreed_of_fields hd3)
 have hT4:=(Heap.get?_update_other (h2.push {cls:=.type "traceback",dict:=none,data:=.fields ([head,.ref Lf,.none,rawInt Lf,.none]++(if pl.isEmpty then replicate 6 Value.none else pl)).toArray})
  (Obj.mapFields (·.setIfInBounds 1 (Value.ref h2.objs.size))) (Ne.symm hTe)).trans (Heap.get?_push_size h2 rfl)
 have new:s0.heap.get? h2.objs.size=none:=K2.back _ (aD h2)
 have K3:Kp g J s0 (fe::outer) {s with heap:=h2.push {cls:=.type "traceback",dict:=none,data:=.fields ([head,.ref Lf,.none,rawInt Lf,.none]++(if pl.isEmpty then replicate 6 Value.none else pl)).toArray},toks:=s.toks}:=K2.grow s.toks fun _ _ e=>Heap.get?_push_of_some _ e
 refine h _ ⟨K3.other s.toks ne sp fun b q=>Heap.get?_update_other _ _ (Ne.symm q),e,_,_,rfl,ne,he4,?_,hd3,.inr ⟨h2.objs.size,_,_,by simp [hsz],new,hTe,hT4,rfl,.inr ⟨Lf,rfl,?_⟩⟩⟩
 .exact ⟨(Obj.cls_mapFields _ _).trans hc.1,(vI _ _).trans hc.2⟩
 .first | (simp;done) | (rcases hpl with rfl | ⟨_,_,_,_,_,_,_,rfl⟩<;>simp)
theorem iC {Lf:Addr}(hfr:A.frames=some (fe::outer))(hfe:fe.frame=env.frame)(fr:gh g s0.heap (fe::outer))(hf:env.frame=some Lf)(zs:g.Z g.sp)(sp:s0.heap.get? g.sp≠none)(R:dp g J s0 (fe::outer) (some Lf) D x s)
  (h:∀s',dp g J s0 (fe::outer) (some Lf) D x s'->Q () s'):wpAny M A (noteFrame x env) Q E s:=by
 have R':=R
 obtain ⟨K,e,oe,vs,rfl,ne,he,hc,hd,hv⟩:=R
 unfold noteFrame
 simp only [hf]
 rcases hv with h1 | ⟨T,oT,ts,h1,t1,tne,hT,hdT,h3⟩
 .refine wpAny_bind (wpAny_field he hd h1 ?_)
  rw [if_neg (by decide)]
  exact jy hfr hfe fr hf zs sp K he hd (Array.getElem?_eq_some_iff.mp h1).1 hc ne h
 .refine wpAny_bind (wpAny_field he hd h1 ?_)
  rw [if_pos (show (Value.ref T !=Value.none)=true from by simp)]
  rcases h3 with h3 | ⟨l,hl,h3⟩
  .refine wpAny_bind (wpAny_field hT hdT h3 ?_)
   rw [if_neg (show ¬((Value.none==rawInt Lf)=true) from by simp [rawInt])]
   refine wpAny_bind (wpAny_setField hT hdT (Array.getElem?_eq_some_iff.mp h3).1 ?_)
   exact jy (s:={s with heap:=s.heap.update T (Obj.mapFields (·.setIfInBounds 3 Value.none))}) hfr hfe fr hf zs sp (K.other s.toks t1 sp fun b q=>Heap.get?_update_other _ _ (Ne.symm q)) ((Heap.get?_update_other _ _ tne).trans he) hd (Array.getElem?_eq_some_iff.mp h1).1 hc ne h
  .cases hl
   refine wpAny_bind (wpAny_field hT hdT h3 ?_)
   rw [if_pos (show (rawInt Lf==rawInt Lf)=true from by simp)]
   exact wpAny_pure (h s R')
theorem eW (sp:s0.heap.get? g.sp≠none)(R:dp g J s0 l L D x s)(h:∀s',dp g J s0 l L' D x s'->Q () s'):wpAny M A (setFlight x L') Q E s:=by
 obtain ⟨K,e,oe,vs,rfl,ne,he,hc,hd,hv⟩:=R
 unfold setFlight
 rcases hv with h1 | ⟨T,oT,ts,h1,t1,tne,hT,hdT,h3⟩
 .refine wpAny_bind (wpAny_field he hd h1 ?_)
  rw [if_neg (by decide)]
  exact wpAny_pure (h s ⟨K,e,oe,vs,rfl,ne,he,hc,hd,.inl h1⟩)
 .refine wpAny_bind (wpAny_field he hd h1 ?_)
  rw [if_pos (show (Value.ref T !=Value.none)=true from by simp)]
  have hsz:3 < ts.size:=by
   rcases h3 with h3 | ⟨_,_,h3⟩<;>exact (Array.getElem?_eq_some_iff.mp h3).1
  refine wpAny_setField hT hdT hsz (h _ ⟨K.other s.toks t1 sp fun b q=>Heap.get?_update_other _ _ (Ne.symm q),e,oe,vs,rfl,ne,(Heap.get?_update_other _ _ tne).trans he,hc,hd,.inr ⟨T,_,_,h1,t1,tne,Heap.get?_update_self _ hT (Obj.isFreed_of_fields (Obj.data_mapFields hdT _)),Obj.data_mapFields hdT _,?_⟩⟩)
  cases L' with
  |none=>exact .inl (by simp [hsz])
  |some l=>exact .inr ⟨l,rfl,by simp [hsz]⟩
theorem rq {Lf:Addr}(hfr:A.frames=some (fe::outer))(hfe:fe.frame=env.frame)(fr:gh g s0.heap (fe::outer))(hf:env.frame=some Lf)(zs:g.Z g.sp)(sp:s0.heap.get? g.sp≠none)(R:dp g J s0 (fe::outer) (some Lf) D x s)
  (h:∀s',dp g J s0 (fe::outer) none D x s'->Q () s'):wpAny M A (leaving env x) Q E s:=by
 unfold leaving
 exact wpAny_bind (iC hfr hfe fr hf zs sp R fun s' R'=>eW sp R' h)
end
end
end Mine
end
section
set_option tactic.hygienic false
namespace Mine
noncomputable section
open PySem PyProof.Rows PySem.SeqAt
noncomputable def yM:List Value:=[.type "ValueError",.type "Exception",.type "BaseException",.type "object"]
def bZ (P:Pg)(n f:Nat)(ts:List T)(J:Sg)(D:Addr):Prop:=∀A vs g s l (R:Result->Shared->Prop),lf A n->A.frames=some l->gh g s.heap l->bf P g s.heap J->Args P (oK f) g s.heap ts vs->
 (∀x s',dp g J s l none D x s'->R (.error x) s')->codeAny P.M A (.call (.ref (P.fnA f)) ⟨vs,[]⟩) R s
section
variable {P:Pg} {B:bn} {C:Ct} {n:Nat} {A:Around} {env:Env} {l:List Env} {g:Gh} {V:aY} {J:Sg} {s:Shared} {h:Heap} {L:Option Addr} {D:Addr} {E:Value->Shared->Prop}
theorem bb.fn (x:bb P B C env g V h):env.scope.kind=.function:=by
 have:=x.ok
 simp only [bn.ok,and_eq_true,beq_iff_eq] at this
 exact x.sc▸this.1.1
theorem bb.fr (x:bb P B C env g V h)(hf:env.frame=some env.locals):Fj g h env:=by
 obtain ⟨m,o,es,ep,e,d,_⟩:=x.ns
 obtain ⟨_,h1,h2,h3⟩:=x.own env.locals mem_cons_self
 exact ⟨(by rw [x.fn];exact fun q=>by cases q),env.locals,o,hf,h1,h2,h3,e,es,ep,d⟩
theorem cB.run {α v:Type}{W:WP α}{p:PG v}{R:RR α v}(i:v->T)(hi:∀a b,i a=i b->a=b)(h:cB P B C W p R)(X:At P B C n A env g V J s){t:v}{J':Sg}{Q:α->Shared->Prop}(e:p (P.cx n) V J (fun t J=>.ret (i t) J)=.ret (i t) J')
  (hq:∀x s' g',aC g s g' s'->bf P g' s'.heap J'->R s.heap g' s'.heap t x->Q x s'):W A env Q E s:=
 h n A env g V J s _ Q E X (by rw [e];exact fun q=>by cases q) fun x s' g' t' J1 e' p w r=>by
  rw [e] at e'
  injection e' with h1 h2
  cases hi _ _ h1;cases h2
  exact hq x s' g' p w r
theorem jg (a b:List T)(h:T.tup a=T.tup b):a=b:=by injection h
theorem rR (a b:Bool)(h:T.bool a=T.bool b):a=b:=by injection h
theorem jo (G:fJ P){f np ns:Nat}{F:eP}{tab:List (Option (Str×NameKind))}{ps:List Str}{bd:List Stmt}{U:List Nat}(hf:P.Ψ f=some F)(K:wf P f np tab ps bd U)(ih:∀k,k<=n->fm P k){ts:List T}(hlen:ts.length=np)
  (body:∀A env g s l (Q:Flow->Shared->Prop) (E:Value->Shared->Prop),env.frame=some env.locals->At P ⟨(P.fd f).scope,tab⟩ ⟨[],U,oK f⟩ n A env g (frame ts ns) J s->A.frames=some (env::l)->gh g s.heap (env::l)->(∀x s',dp g J s (env::l) (some env.locals) D x s'->E x s')->wpAny P.M A (execs bd env) Q E s):bZ P (n+1) f ts J D:=fun A vs g s l R room hfr fr w r hR=>by
 refine m9 (V:=frame ts ns) G hf K (lt_of_le_of_lt (le_trans (le_add_right _ _) (le_add_right _ _)) room.1) (fun a o e=>(w.base a o e).2) w.F (fun a z=>(w.Z a z).1) (r.get.1.trans hlen) (fun i t e=>r.get.2 i t (dy e)) (fun i hi=>jw (hlen▸K.un i hi)) fun s₁ env hl same keep hW _ E1=>?_
 have w1:=w.callee keep
 have hfr':(A.deeper env).frames=some (env::l):=by show A.frames.map _=_;rw [hfr];rfl
 have fr1:gh {g with o:=fun _=>none} s₁.heap (env::l):=fun e he=>(an he).elim (fun q=>q▸E1.fr hl) fun q=>fr.grow (g':={g with o:=fun _=>none}) keep (fun _ f=>.inl f) (fun _ z=>.inl z) (fun _ ⟨_,q⟩=>nomatch q) e q
 refine body _ env _ s₁ l _ _ hl ⟨G,ih,room.deeper _,E1,w1⟩ hfr' fr1 fun x s' R'=>rq hfr' rfl fr1 hl w1.spot.2.1 (w1.Z _ w1.spot.2.1).1 R' fun s'' R''=>hR x s'' (dp.low (g₁:={g with o:=fun _=>none}) same (fun a o e _=>keep a o e) (bw keep) (fun a z=>.inl z) rfl rfl (fun e he=>(an he).elim (fun q=>.inr fun a ha=>?_) .inl) R'')
 subst q;rw [hl] at ha;cases ha;exact hW _ mem_cons_self
theorem sH {x:Str}{es:List Expr}{ps:PL}{ts:List T}{np cpos pos:Pos}{Q:Flow->Shared->Prop}(K:OwnCls x D yM "ValueError.__new__" P.mg P.h₀)(hx:B.sc.names.lookup x=some .globalImplicit)(hd:(x==("__debug__":Str))=false)(h:dk P B C es ps)(X:At P B C n A env g V J s)
  (e:ps (P.cx n) V J (fun ts J=>.ret (.tup ts) J)=.ret (.tup ts) J)(hl:ts.length<=lim)(hE:∀x s',dp g J s l L D x s'->E x s'):wpAny P.M A (exec (.Raise (some (.Call (.Name x np) es [] cpos)) none pos) env) Q E s:=by
 obtain ⟨tl,N,nm,q,bs,hdct,sn,sub,ab,col,dd,k0,k1,k2,k3,k5,mN,hC,hN,hni,T⟩:=K.obj
 refine wpAny_Raise_call_subT (C:=D) (nm:=nm) (q:=q) (N:=N) (bs:=bs) (bm:=tl) (hdct:=hdct) (sn:=sn) (sub:=sub) (ab:=ab) (col:=col) (dd:=dd) (k0:=k0) (k1:=k1) (k2:=k2) (k3:=k3) (k5:=k5)
  PySem.F.excBase_ValueError (mN:=mN) (T.hasType PySem.F.excBase_ValueError.hasBase) X.room.2.2 (any_eq_false.mpr fun p hp=>by rw [bc (h.pl env) p hp];decide) hni (X.glob hx hd K.bound ⟨rfl,?_⟩)
 refine cr (bc (h.pl env)) (cB.run .tup jg (h.sim cpos) X e fun xs s₁ g₁ p w r=>?_)
 have X1:=X.post p w
 refine ⟨rfl,ba (r.length▸hl),X1.base _ _ hC,hN.keeps X1.base,T.keeps X1.base,fun h' a m=>hE _ _ (dp.post p ?_)⟩
 obtain ⟨t,ht,_,_⟩:=m.there
 exact ⟨(Kp.refl w).grow s₁.toks m.keeps,a,_,_,rfl,m.new,ht,⟨rfl,rfl⟩,rfl,.inl rfl⟩
theorem iN {y:Str}{f:Nat}{F:eP}{es:List Expr}{ps:PL}{ts:List T}{p pos:Pos}{Q:Value->Shared->Prop}(hf:P.Ψ f=some F)(hn:P.gl f=true/\(P.fd f).name=y)(hm:oK f=false)(hx:B.sc.names.lookup y=some .globalImplicit)(hd:(y==("__debug__":Str))=false)(h:dk P B C es ps)(X:At P B C n A env g V J s)
  (e:ps (P.cx n) V J (fun ts J=>.ret (.tup ts) J)=.ret (.tup ts) J)(HHH:bZ P n f ts J D)(hfr:A.frames=some l)(fr:gh g s.heap l)(hE:∀x s',dp g J s l none D x s'->E x s'):wpAny P.M A (eval (.Call (.Name y p) es [] pos) env) Q E s:=by
 obtain ⟨o,g1,g2,g3,g4⟩:=X.good.fn f F hf
 refine Call_Name rfl (X.glob hx hd (hn.2▸g3 hn.1) ?_)
 refine Calls.callWith_function (fd:=P.fd f) (o:=o) (cr (bc (h.pl env)) (cB.run .tup jg (h.sim pos) X e fun xs s₁ g₁ p w r=>?_))
 exact ⟨⟨(X.post p w).base _ _ g1,g2⟩,wpAny_call (HHH A xs g₁ s₁ l _ X.room.c hfr (fr.post p) w (by rw [hm];exact r) fun x s' R=>hE x s' (R.post p))⟩
theorem oD {c f:Nat}{ms:List (Str×Nat)}{y:Str}{e:Expr}{es:List Expr}{ps:PL}{ts:List T}{p pos:Pos}{Q:Value->Shared->Prop}(O:bj P c ms)(hi:(ofString "__init__",f)∈ms)(hf:oK f=true)(hg:P.mg y=some (.ref (P.cls c)))(hx:B.sc.names.lookup y=some .globalImplicit)(hd:(y==("__debug__":Str))=false)
  (hs:∀env,starEach (e::es) env=(false,eval e env)::starEach es env)(h:dk P B C (e::es) ps)(X:At P B C n A env g V J s)(e1:ps (P.cx n) V J (fun ts J=>.ret (.tup ts) J)=.ret (.tup ts) J)(HHH:bZ P n f (.self::ts) ⟨J.spot,some (c,[])⟩ D)
  (hfr:A.frames=some l)(fr:gh g s.heap l)(hE:∀x s',dp g J s l none D x s'->E x s'):wpAny P.M A (eval (.Call (.Name y p) (e::es) [] pos) env) Q E s:=by
 obtain ⟨N,mN,K,_,_,_,_,g5⟩:=O
 obtain ⟨i1,_,oI,i2,i3⟩:=g5 _ hi
 refine Call_Name rfl (X.glob hx hd hg (callWith_cls (e:=e) (rest:=es) K (cB.run .tup jg (h.sim pos) X e1 fun xs s₁ g₁ p1 wa r1=>⟨wa.bs,?_⟩) (hs env) ?_))
 .obtain ⟨nm,q,bs,sn,sub,col,dd,k0,k1,k2,k3,k5,hC⟩:=(K.keeps wa.bs).obj
  refine wpAny_call_obj_init (h:=s₁.heap) PySem.F.objNew hC (K.keeps wa.bs).ns i1 (wa.bs _ _ i2) i3 fun h' x dx m=>?_
  have zn:∀a,(g₁.Z a\/a=x\/a=dx)->g₁.Z a\/s₁.heap.get? a=none:=fun a z=>z.imp id fun q=>q.elim (fun q=>q▸m.newX) fun q=>q▸m.newD
  refine wpAny_call (HHH (A.under (.builtin "type.__call__" ⟨.ref (P.cls c)::xs,[]⟩)) (.ref x::xs) {g₁ with Z:=fun y=>g₁.Z y\/y=x\/y=dx,sa:=x} {s₁ with heap:=h'} l _ ?_ hfr ((fr.post p1).grow m.keeps (fun _ f=>.inl f) zn fun _ q=>q) (wa.make m) ?_ fun u s' R=>hE u s' (dp.post p1 (dp.low (g₁:={g₁ with Z:=fun y=>g₁.Z y\/y=x\/y=dx,sa:=x}) (J1:=⟨J.spot,some (c,[])⟩) ⟨h',s₁.toks,rfl⟩ (fun a o e _=>m.keeps a o e) (bw m.keeps) zn rfl rfl (fun _ h=>.inl h) R)))
  .exact ⟨by have:=X.room.1;show A.depth+1+2 * n+9 < _;lia -abstractProof,by have:=X.room.2.1;show A.units+1+20 * n+190 < _;lia -abstractProof,X.room.2.2⟩
  .rw [hf];exact ⟨_,_,_,_,rfl,rfl,.inr ⟨rfl,rfl⟩,aO.mono (g:=g₁) (g':={g₁ with Z:=fun y=>g₁.Z y\/y=x\/y=dx,sa:=x}) (h:=s₁.heap) (h':=h') ⟨fun a f=>⟨f,m.keeps a⟩,rfl⟩ r1⟩
 .refine any_eq_false.mpr fun q hq'=>?_
  rw [bc (fun q hq=>h.pl env q (by rw [hs];exact mem_cons_of_mem _ hq)) q hq'];decide
end
end
end Mine
end
section
set_option tactic.hygienic false
namespace Mine
noncomputable section
open PySem PyProof.Rows PySem.SeqAt
noncomputable abbrev sj (sc:Scope)(y:Str):Bool:=(sc.names.lookup y==some .globalImplicit)&&!(y==("__debug__":Str))
theorem qs {sc:Scope}{y:Str}(h:sj sc y=true):sc.names.lookup y=some .globalImplicit/\(y==("__debug__":Str))=false:=⟨eq_of_beq (cJ h),(not_eq_true' _).mp (cI h)⟩
structure Dr (P:Pg) (sc:Scope) (x m:Str) (D:Addr):Prop where
 o:OwnCls x D yM "ValueError.__new__" P.mg P.h₀
 x:sj sc x=true
 m:(PyData.strOk m&&decide (m.length<=lim))=true
section
variable {P:Pg} {B:bn} {C:Ct} {n:Nat} {A:Around} {env:Env} {l:List Env} {g:Gh} {V:aY} {J:Sg} {s:Shared} {L:Option Addr} {D D1 D2:Addr} {E:Value->Shared->Prop} {x m:Str} {tab:List (Option (Str×NameKind))} {ps:List Str} {U:List Nat} {F F7:eP} {t mt:T} {rest:List Stmt}
theorem l0 {kk:Nat}{a1 a2 a3 a4:Pos}{Q:Flow->Shared->Prop}(K:Dr P B.sc x m D)(X:At P B C n A env g V J s)(hE:∀x s',dp g J s l L D x s'->E x s'):wpAny P.M A (execs [.Raise (some (.Call (.Name x a1) [.Constant (.str m) kk a2] [] a3)) none a4] env) Q E s:=
 wpAny_execs_cons (sH (ts:=[.str m]) K.o (qs K.x).1 (qs K.x).2 (.cons (fun _=>rfl) (.str K.m) .nil) X rfl (show 1<=lim by decide) hE)
theorem gV {t:Expr}{q:PT}{a b:List Stmt}{pos:Pos}{c:Bool}{J':Sg}{Q:Flow->Shared->Prop}(ht:bI P B C t q)(X:At P B C n A env g V J s)(e:q (P.cx n) V J (fun b J=>.ret (.bool b) J)=.ret (.bool c) J')(hq:∀s' g',aC g s g' s'->At P B C n A env g' V J' s'->wpAny P.M A (execs (bif c then a else b) env) Q E s'):
  wpAny P.M A (exec (.If t a b pos) env) Q E s:=
 wpAny_If (wpAny_mono (cB.run (Q:=fun c s'=>wpAny P.M A (execs (bif c then a else b) env) Q E s') .bool rR ht X e fun b s₁ g₁ p w r=>by cases r;exact hq s₁ g₁ p (X.post p w)) (fun q s₁ h=>by cases q<;>exact h) fun _ _ h=>h)
section
variable {t1 t2:Expr} {x1 x2 m1 m2:Str} {k1 k2:Nat} {a1 a2 a3 a4 a5 b1 b2 b3 b4 b5:Pos} (G:fJ P) (hf:P.Ψ 7=some F) (K:wf P 7 1 tab ps (.If t1 [.Raise (some (.Call (.Name x1 a1) [.Constant (.str m1) k1 a2] [] a3)) none a4] [] a5::.If t2 [.Raise (some (.Call (.Name x2 b1) [.Constant (.str m2) k2 b2] [] b3)) none b4] [] b5::rest) U)
 (ih:∀k,k<=n->fm P k) (ht1:bI P ⟨(P.fd 7).scope,tab⟩ ⟨[],U,false⟩ t1 (dW (qE (aw 5 (ae (pV 0) ak)))))
include G hf K ih ht1
theorem xt (O1:Dr P (P.fd 7).scope x1 m1 D)(h5:af P.Ψ n 5 [t] J=.ret (.bool false) J):bZ P (n+1) 7 [t] J D:=
 jo (ns:=0) G hf K ih rfl fun A env g s l Q E hl X hfr fr hE=>wpAny_execs_cons (gV (c:=true) ht1 X (by show f8 (af P.Ψ n 5 [t] J) _=_;rw [h5,qY];rfl) fun s₁ g₁ p X1=>l0 O1 X1 fun x s' R=>hE x s' (R.post p))
theorem vd (ht2:bI P ⟨(P.fd 7).scope,tab⟩ ⟨[],U,false⟩ t2 (p2 vA (p1 bJ (aw 500 (ae (pV 0) ak))) (pC (.int 4))))(O2:Dr P (P.fd 7).scope x2 m2 D){bs:List T}(h5:af P.Ψ n 5 [t] J=.ret (.bool true) J)(h6:af P.Ψ n 500 [t] J=.ret (.lst bs) J)(hb:4 < bs.length):bZ P (n+1) 7 [t] J D:=
 jo (ns:=0) G hf K ih rfl fun A env g s l Q E hl X hfr fr hE=>wpAny_execs_cons (gV (c:=false) ht1 X (by show f8 (af P.Ψ n 5 [t] J) _=_;rw [h5,qY];rfl) fun s₁ g₁ p X1=>wpAny_execs_nil (wpAny_execs_cons (gV (c:=true) ht2 X1 (by
   show f8 (af P.Ψ n 500 [t] J) _=_
   rw [h6,qY]
   show du.ret (.bool (decide ((bs.length:Int) > 4))) J=_
   rw [decide_eq_true (show (bs.length:Int) > 4 from bP hb)]) fun s2 g2 pa X2=>l0 O2 X2 fun x s' R=>hE x s' ((R.post pa).post p))))
end
theorem uL {y:Str}{es:List Expr}{p1 p2 p3:Pos}(G:fJ P)(hf:P.Ψ 1001=some F)(K:wf P 1001 3 tab ps (.Expr (.Call (.Name y p1) es [] p2) p3::rest) U)(ih:∀k,k<=n->fm P k)(h7:P.Ψ 7=some F7)(hn:P.gl 7=true/\(P.fd 7).name=y)(hx:sj (P.fd 1001).scope y=true)
  (hl:dk P ⟨(P.fd 1001).scope,tab⟩ ⟨[],U,true⟩ es (ae (pV 2) ak))(HHH:bZ P n 7 [t] J D):bZ P (n+1) 1001 [.self,mt,t] J D:=
 jo (ns:=0) G hf K ih rfl fun A env g s l Q E he X hfr fr hE=>wpAny_execs_cons (by
  rw [exec_Expr env (.Call (.Name y p1) es [] p2) p3 (by simp [interactive,X.fn]) rfl]
  exact wpAny_bind (wpAny_standAt (wpAny_bind (iN (ts:=[t]) h7 hn rfl (qs hx).1 (qs hx).2 hl X rfl HHH hfr fr fun x s' R=>hE x s' R.up))))
theorem pR {ms:List (Str×Nat)}{y z:Str}{e:Expr}{es:List Expr}{px p1 p2 p3:Pos}(G:fJ P)(hf:P.Ψ 43=some F)(K:wf P 43 2 tab ps (.Assign [.Name z px] (.Call (.Name y p1) (e::es) [] p2) p3::rest) U)(ih:∀k,k<=n->fm P k)(O:bj P 10 ms)(hi:(ofString "__init__",1001)∈ms)(hg:P.mg y=some (.ref (P.cls 10)))(hx:sj (P.fd 43).scope y=true)
  (hs:∀env,starEach (e::es) env=(false,eval e env)::starEach es env)(hw:v6 (.Call (.Name y p1) (e::es) [] p2) z px p3.line (P.fd 43).scope=false)(hl:dk P ⟨(P.fd 43).scope,tab⟩ ⟨[],U,false⟩ (e::es) (ae (pV 0) (ae (pV 1) ak)))(HHH:bZ P n 1001 [.self,mt,t] ⟨J.spot,some (10,[])⟩ D):bZ P (n+1) 43 [mt,t] J D:=
 jo (ns:=0) G hf K ih rfl fun A env g s l Q E he X hfr fr hE=>wpAny_execs_cons (wpAny_Assign_Name (oD (ts:=[mt,t]) O hi rfl hg (qs hx).1 (qs hx).2 hs hl X rfl HHH hfr fr fun x s' R=>hE x s' R.up) (by rw [gx X.env.sc,hw]))
end
end
end Mine
end
section
set_option tactic.hygienic false
set_option maxRecDepth 100000
namespace Mine
noncomputable section
open PySem PySem.W PyProof.Rows PySem.SeqAt
theorem vH {M:Model}{A:Around}{E:Value->Shared->Prop}{x D:Addr}{nameV:Value}{h:Heap}{g:Array GenState}{d:Drawn}{t:Nat}{os:OsState}{Q:Unit->Shared->Prop}(L0:Looks M h (typeOf (.ref x)) (.ref D))(L4:Looks M h (isSubtype (.ref D) (.type "BaseException")) true)(hq:Q () ⟨h,g,d,t,os⟩):
  wpAny M A (checkBuiltinCall "BaseException.__getattribute__" ⟨[.ref x,nameV],[]⟩) Q E ⟨h,g,d,t,os⟩:=by
 have hk:builtinKind "BaseException.__getattribute__"=some .slot:=by decide+kernel
 have hsplit:splitId "BaseException.__getattribute__"=some ("BaseException","__getattribute__"):=by decide+kernel
 have ha:=F.args_bexc_ga (.ref x) nameV
 simp only [checkBuiltinCall,hk,hsplit]
 refine wpAny_bind ?_
 unfold isInstance
 refine wpAny_bind (L0.at (L4.at ?_))
 repeat wp_step
 exact hq
theorem vG {prog:Program}{w:World}{A:Around}{E:Value->Shared->Prop}{s:Shared}{K:Frag}{x D:Addr}{ox:Obj}{Q:Option Value->Shared->Prop}(Z:y7 K D)(X:K.In s.heap)(I:InstAt s.heap x ox D none)(h:Q (some (.ref D)) {s with toks:=s.toks+1}):
  wpAny (model prog w) A (getAttr? (.ref x) "__class__") Q E s:=by
 have hf:findObj K D none "__class__"=some (.bind (.builtin "getset_descriptor.__get__") (.builtin "object.__class__")):=by
  obtain ⟨cd,hc,_⟩:=any_some Z.hdct
  unfold findObj
  rw [hc,bind_some,Z.ha,bind_some]
  simp [Z.hn,Z.htk]
 obtain ⟨hh,g,d,t,os⟩:=s
 have L0:=I.type (M:=model prog w)
 have L1:=looks_findIn (M:=model prog w) X Z.ga
 have L2:=looks_findIn (M:=model prog w) X Z.gt
 have L3:=looks_find (M:=model prog w) X I hf
 have L4:=looks_subIn (M:=model prog w) X Z.sb
 unfold getAttr? getAttrBy? getAttrBy
 refine wpAny_bind (wpAny_mkText (wpAny_bind (wpAny_attempt (wpAny_holding (wpAny_bind (L0.at (wpAny_bind (L1.at ?_))))))))
 show wpAny _ _ (getAttrByItsOwn _ _ _ _ _ _) _ _ _
 unfold getAttrByItsOwn
 refine wpAny_bind (L2.at (wpAny_bind (wpAny_attempt (wpAny_holding ?_))))
 show wpAny _ _ (boundAndCalled _ _ _) _ _ _
 unfold boundAndCalled
 refine wpAny_bind ?_
 rw [PySem.F.attrBase_ValueError.ga.bind]
 refine wpAny_pure ?_
 show wpAny _ _ (call (.builtin "BaseException.__getattribute__") [.ref x,.str "__class__" t]) _ _ _
 refine wpAny_call (codeAny_call_builtin PySem.F.attrBase_ValueError.ga.plain F.entry_bexc_ga (vH L0 L4 ?_))
 unfold Builtin.«object.__getattribute__»
 refine wpAny_bind (wpAny_pure (wpAny_bind (wpAny_pure (wpAny_bind (L0.at (wpAny_bind (L3.at ?_)))))))
 show wpAny _ _ (holding [.builtin "object.__class__"] (call (.builtin "getset_descriptor.__get__") [.builtin "object.__class__",.ref x,.ref D]) >>=ret) _ _ _
 refine wpAny_bind (wpAny_holding (wpAny_call (class_get (ox:=ox) (od:=none) X I Z.hm ?_)))
 exact wpAny_pure (show wpAny _ _ (handedOut (.ref D)) _ _ _ from wpAny_pure (wpAny_pure h))
theorem xV {K:Frag}{x D:Addr}(Z:y7 K D):KitX K (.ref x) (.ref D) (fun h=>∃ox,InstAt h x ox D none) where
 ty:=fun _ _ _ ⟨_,I⟩=>I.type
 it:=fun _ _ X _=>by
  obtain ⟨cdD,hcD,_⟩:=any_some Z.hdct
  unfold clsIn at hcD
  split at hcD
  .rename_i ho
   intro A' Q' E' s' k q
   unfold isType loadHead
   exact wpAny_bind (wpAny_loadPart (k _ _ (X _ _ ho)) (wpAny_pure q))
  .cases hcD
 ne:=fun h tp dd its n sl X htp=>by
  obtain ⟨cdD,hcD,_⟩:=any_some Z.hdct
  refine Bool.eq_false_iff.mpr fun q=>?_
  have e:D=tp:=Value.ref.inj (beq_iff_eq.mp q)
  subst e
  unfold clsIn at hcD
  split at hcD
  .rename_i ho
   have z:=(X _ _ ho).symm.trans htp
   cases z
  .cases hcD
 ca:=fun {prog w A E Q s} X I k=>I.elim fun _ I=>vG Z X I k
section
variable {P:Pg} {B:bn} {C:Ct} {A:Around} {env:Env} {l:List Env} {g g':Gh} {V:aY} {J:Sg} {s s0 s':Shared} {D e:Addr} {E:Value->Shared->Prop} {Kf:Frag} {i:Nat} {y x:Str} {pos:Pos} {v u:Value}
theorem bb.ld {Q:Value->Shared->Prop}(X:bb P B C env g V s.heap)(ht:B.tab[i]?=some (some (y,.local)))(v:bH B env s.heap i u)(hq:Q u s):wpAny P.M A (eval (.Name y pos) env) Q E s:=by
 obtain ⟨h1,h2,h3,h4,h5⟩:=bn.look X.ok ht
 cases v with
 |loc x m t n e=>
  rw [t] at ht;cases ht
  exact wpAny_Name (wpAny_loadName_local X.fn (show env.scope.names.lookup y=_ from X.sc▸h2) n e hq) h4
 |cel x k c t hk' l n=>rw [t] at ht;cases ht;exact hk'.elim (fun q=>nomatch q) fun q=>nomatch q
theorem bb.gl {Q:Value->Shared->Prop}(G:fJ P)(X:bb P B C env g V s.heap)(w:bf P g s.heap J)(hx:sj B.sc x=true)(hv:P.mg x=some v)(h:Q v s):wpAny P.M A (eval (.Name x pos) env) Q E s:=
 Calls.Name_function_global X.fn (show env.scope.names.lookup x=_ from X.sc▸(qs hx).1) (Calls.loadGlobal_global (mg:=P.mg) (X.glob▸G.g.keeps fun a o e=>(w.base a o e).2) hv h) (qs hx).2
theorem bb.bi {Q:Value->Shared->Prop}(G:fJ P)(X:bb P B C env g V s.heap)(w:bf P g s.heap J)(hx:sj B.sc x=true)(hm:x∈g9)(hv:bootBuiltins x=some v)(h:Q v s):wpAny P.M A (eval (.Name x pos) env) Q E s:=
 have ⟨g1,g2⟩:=G.blt x hm
 Calls.Name_function_global X.fn (show env.scope.names.lookup x=_ from X.sc▸(qs hx).1) (Calls.loadGlobal_builtin (mg:=P.mg) (mb:=P.mb) (X.glob▸G.g.keeps fun a o e=>(w.base a o e).2) g1 (X.blt▸G.b.keeps fun a o e=>(w.base a o e).2) (g2.trans hv) h) (qs hx).2
theorem bb.st {Q:Unit->Shared->Prop}(x:bb P B C env g V s.heap)(w:bf P g s.heap J)(hi:i∉C.U)(ht:B.tab[i]?=some (some (y,.local)))
  (hq:∀s',(∃h' tk,s'={s with heap:=h',toks:=tk})->bb P B C env g (V.set i none) s'.heap->bf P g s'.heap J->bH B env s'.heap i u->(∀j v,j≠i->bH B env s.heap j v->bH B env s'.heap j v)->(∀b,b≠env.locals->s'.heap.get? b=s.heap.get? b)->Q () s'):wpAny P.M A (storeName env y u) Q E s:=by
 obtain ⟨h1,h2,_,_,_⟩:=bn.look x.ok ht
 have hl:env.kindOf y=some .local:=show env.scope.names.lookup y=_ from x.sc▸h2
 have tab:∀{j z kk},j≠i->B.tab[j]?=some (some (z,kk))->z≠y:=fun n hj e=>n (bn.inj x.ok (e▸hj) ht)
 obtain ⟨m,hn⟩:=x.ns
 refine wpAny_storeName_local hl hn (fun h' hn' hs=>?_) (by rw [x.fn];rfl)
 obtain ⟨T,w'⟩:=wu x w (W:=env.locals) mem_cons_self hs.2 (let ⟨o,_,_,e,_⟩:=hn';ao e)
 have hot:∀j v,j≠i->bH B env s.heap j v->bH B env h' j v:=fun j v nj hv=>by
  cases hv with
  |loc z m' tz nz ez=>exact .loc z _ tz hn' (by rw [if_neg (tab nj tz),pI hn nz];exact ez)
  |cel z kk c tz hk' l nz=>
   obtain ⟨o,e,d⟩:=id nz
   exact .cel z kk c tz hk' l ⟨o,(hs.2 c (qZ hn nz)).trans e,d⟩
 exact hq _ ⟨h',_,rfl⟩ (x.put hi mem_cons_self T hs.2 (.loc y _ ht hn' (if_pos rfl)) ⟨_,hn'⟩ (fun c v hc=>let ⟨o,e,d⟩:=id hc;⟨v,o,(hs.2 c (qZ hn hc)).trans e,d⟩) hot fun _ q=>nomatch q) w' (.loc y _ ht hn' (if_pos rfl)) hot hs.2
theorem jD {z:Str}{c:Str}{b:Bool}{p p1 p2:Pos}{Q:Value->Shared->Prop}(G:fJ P)(X:bb P B C env g V s.heap)(w:bf P g s.heap J)(hz:(z==ofString "isinstance"&&sj B.sc z)=true)(ht:B.tab[0]?=some (some (y,.local)))(va:bH B env s.heap 0 (.ref e))
  (hc:∀{Q':Value->Shared->Prop},Q' v s->wpAny P.M A (eval (.Name c p2) env) Q' E s)(Z:y7 Kf D)(Kin:Kf.In P.h₀)(I:∃ox,InstAt s.heap e ox D none)(k:kitOne Kf (.ref D) v=some b)(h:∀tk,Q (.bool b) {s with toks:=tk}):
  wpAny P.M A (eval (.Call (.Name z p) [.Name y p1,.Name c p2] [] pos) env) Q E s:=by
 obtain ⟨h1,h2⟩:=ah hz
 rw [eq_of_beq h1] at h2 ⊢
 refine Call_Name rfl (X.bi G w h2 (by decide) (v:=.builtin "isinstance") (by decide) (bG (fun _ q=>by cases q) (bc fun q hq=>?_) (wpAny_items_cons (X.ld ht va (wpAny_items_cons (hc (wpAny_items_nil (kia_one (xV Z) (Kin.keeps fun a o e=>(w.base a o e).2) I k (by intro q;cases q) h))) rfl)) rfl)))
 cases hq with
 |head=>rfl
 |tail _ h=>cases h with
  |head=>rfl
  |tail _ h=>cases h
theorem Kp.then {gb:Gh}{s2:Shared}(K:Kp g J s0 l s)(p:aC g' s gb s2)(zn:∀a,g'.Z a->g.Z a\/s0.heap.get? a=none)(hsp:g'.sp=g.sp)(w:bf P gb s2.heap J):Kp g J s0 l s2/\(∀a,gb.Z a->g.Z a\/s0.heap.get? a=none)/\gb.sp=g.sp:=
 have nz:∀a o,s0.heap.get? a=some o->¬g.Z a->¬g'.Z a:=fun a o e z q=>(zn a q).elim z (ao e)
 ⟨⟨St.trans K.st p.st,fun a o e z=>(K.keep a o e z).imp (fun k=>p.keep a o k (nz a o e z)) fun ⟨q,sl,k⟩=>⟨q,sl,p.keep _ _ k (nz a o e z)⟩,fun a e=>K.back a (p.back a e),by rw [<-hsp,<-p.sp];exact w.spot.1⟩,fun a z=>(p.Zn a z).elim (zn a) fun e=>.inr (K.back a e),p.sp.trans hsp⟩
inductive gj (h:Heap) (e D:Addr):Prop
 |mk (oe:Obj) (vs:Array Value) (o:h.get? e=some oe) (k:oe.cls=.ref D/\oe.dict=none) (d:oe.data=.fields vs)
theorem gj.grow {h h':Heap}(I:gj h e D)(k:∀o,h.get? e=some o->h'.get? e=some o):gj h' e D:=let ⟨oe,vs,o,c,d⟩:=I;⟨oe,vs,k _ o,c,d⟩
theorem gj.inst {h:Heap}(I:gj h e D):∃ox,InstAt h e ox D none:=let ⟨oe,vs,o,c,d⟩:=I;⟨oe,o,c.1,by unfold notCls;rw [d],by rw [c.2];trivial⟩
theorem Cl (i:Int){t t':Tok}{Q:Value->Shared->Prop}(hu:A.units+200 < cLine)(h:Q (.bool false) s):wpAny P.M A (compareOp .NotEq (.int i t) (.int i t')) Q E s:=by
 refine compareNe_reads (da:=.int i) (db:=.int i) (Reads.int _ _) (Reads.int _ _) rfl rfl (lt_of_le_of_lt (add_le_add_left (zero_le 200) _) hu) ?_
 have:PyData.eqv (.int i) (.int i)=true:=by simp [PyData.eqv]
 rw [this];exact h
theorem zq {F:eP}{tab:List (Option (Str×NameKind))}{ps:List Str}{U:List Nat}{y0 y1 y2 y3 cn ix z1 z2 z3 z4 z5 e1 e2 e3 e4 e5 c1 c2 c3 c4 ve:Str}{C1 C2 C3 C4:Addr}{b1 b2 b3 b4:Bool}{k:Int}{kc ki kn kj:Nat}{p1 p2 p3 p4 p5 p6 p7 p8 p9 p10 p11 p12 p13 p14 p15 p16 p17 p18 p19 p20 p21 p22 p23 p24 p25 p26 p27 p28 p29 p30 p31 p32 p33 p34 p35 p36 p37 p38 p39:Pos}
  (G:fJ P)(hf:P.Ψ 70=some F)
  (K:wf P 70 1 tab ps [.Assign [.Name y1 p1] (.List [.Call (.Name z1 p2) [.Name e1 p3,.Name c1 p4] [] p5,.Call (.Name z2 p6) [.Name e2 p7,.Name c2 p8] [] p9,.Call (.Name z3 p10) [.Name e3 p11,.Name c3 p12] [] p13,.Call (.Name z4 p14) [.Name e4 p15,.Name c4 p16] [] p17] p18) p19,
   .If (.BoolOp .Or [.Compare (.Call (.Attribute (.Name y2 p20) cn p21) [.Constant (.bool true) kc p22] [] p23) [.NotEq] [.Constant (.int 1) ki p24] p25,.UnaryOp .Not (.Call (.Name z5 p26) [.Name e5 p27,.Name ve p28] [] p29) p30] p31) [.Return (some (.Constant (.int 9) kn p32)) p33] [] p34,
   .Return (some (.Call (.Attribute (.Name y3 p35) ix p36) [.Constant (.bool true) kj p37] [] p38)) p39] U)
  (ht0:tab[0]?=some (some (y0,.local)))(ht1:tab[1]?=some (some (y1,.local)))(hU:1∉U)
  (hg:([z1,z2,z3,z4,z5].all fun z=>z==ofString "isinstance"&&sj (P.fd 70).scope z)=true)(he:[e1,e2,e3,e4,e5]=[y0,y0,y0,y0,y0])(hy:[y2,y3,cn,ix,ve]=[y1,y1,ofString "count",ofString "index",ofString "ValueError"])(hl1:(p21.endLine==p23.line)=true)(hl2:(p36.endLine==p38.line)=true)(hgc:[c1,c2,c3,c4,ve].all (sj (P.fd 70).scope)=true)
  (hs:v6 (.List [.Call (.Name z1 p2) [.Name e1 p3,.Name c1 p4] [] p5,.Call (.Name z2 p6) [.Name e2 p7,.Name c2 p8] [] p9,.Call (.Name z3 p10) [.Name e3 p11,.Name c3 p12] [] p13,.Call (.Name z4 p14) [.Name e4 p15,.Name c4 p16] [] p17] p18) y1 p1 p19.line (P.fd 70).scope=false)
  (m1:P.mg c1=some (.ref C1))(m2:P.mg c2=some (.ref C2))(m3:P.mg c3=some (.ref C3))(m4:P.mg c4=some (.ref C4))(Z:y7 Kf D)(Kin:Kf.In P.h₀)(k1:kitOne Kf (.ref D) (.ref C1)=some b1)(k2:kitOne Kf (.ref D) (.ref C2)=some b2)(k3:kitOne Kf (.ref D) (.ref C3)=some b3)(k4:kitOne Kf (.ref D) (.ref C4)=some b4)(k5:kitOne Kf (.ref D) (.type "ValueError")=some true)
  (hc:tf (.lst [.bool b1,.bool b2,.bool b3,.bool b4]) (.bool true)=some (.int 1))(hi:eG (.lst [.bool b1,.bool b2,.bool b3,.bool b4]) (.bool true)=some (.int k))
  {R:Result->Shared->Prop}(hd:A.depth < recursionLimit)(hu:A.units+203 < cLine)(w:bf P g s.heap J)(I:gj s.heap e D)(ze:¬g.Z e)(hR:∀tk s',Kp g J s [] s'->R (.ok (.ret (.int k tk))) s'):codeAny P.M A (.call (.ref (P.fnA 70)) ⟨[.ref e],[]⟩) R s:=by
 simp only [List.cons.injEq,and_true] at he hy
 obtain ⟨rfl,rfl,rfl,rfl,rfl⟩:=he
 obtain ⟨rfl,rfl,rfl,rfl,rfl⟩:=hy
 simp only [List.all_cons,List.all_nil,Bool.and_true] at hg hgc
 obtain ⟨g1,hg⟩:=ah hg
 obtain ⟨g2,hg⟩:=ah hg
 obtain ⟨g3,hg⟩:=ah hg
 obtain ⟨g4,g5⟩:=ah hg
 obtain ⟨q1,hgc⟩:=ah hgc
 obtain ⟨q2,hgc⟩:=ah hgc
 obtain ⟨q3,hgc⟩:=ah hgc
 obtain ⟨q4,q5⟩:=ah hgc
 refine m9 (V:=[]) (m:=false) (g:=g) G hf K hd (fun a o e=>(w.base a o e).2) w.F (fun a z=>(w.Z a z).1) rfl (fun i t e=>nomatch e) (fun i _=>rfl) fun s₁ env hl same keep hW va E1=>?_
 have hu':(A.deeper env).units+200 < cLine:=by show A.units+3+200 < cLine;exact hu
 generalize A.deeper env=A' at hu' ⊢
 have w1:=w.callee keep
 have K1:Kp g J s [] s₁:=⟨same,fun a o e _=>.inl (keep a o e),bw keep,let ⟨t,n,e⟩:=w.spot.1;⟨t,n,keep _ _ e⟩⟩
 have I1:gj s₁.heap e D:=I.grow (keep e)
 have v0:=va 0 (.ref e) rfl
 have el:s.heap.get? e≠none:=let ⟨_,_,o,_,_⟩:=I;ao o
 have nL:s.heap.get? env.locals=none:=hW _ mem_cons_self
 have spl:s.heap.get? g.sp≠none:=(w.Z _ w.spot.2.1).1
 clear va same keep
 refine wpAny_execs_cons (wpAny_Assign_Name (wpAny_List (wpAny_items_cons (jD G E1 w1 g1 ht0 v0 (fun h=>E1.gl G w1 q1 m1 h) Z Kin I1.inst k1 fun t1=>?_) rfl)) (by rw [gx E1.sc,hs]))
 refine wpAny_items_cons (jD (s:={s₁ with toks:=t1}) G E1 w1 g2 ht0 v0 (fun h=>E1.gl (s:={s₁ with toks:=t1}) G w1 q2 m2 h) Z Kin I1.inst k2 fun t2=>?_) rfl
 refine wpAny_items_cons (jD (s:={s₁ with toks:=t2}) G E1 w1 g3 ht0 v0 (fun h=>E1.gl (s:={s₁ with toks:=t2}) G w1 q3 m3 h) Z Kin I1.inst k3 fun t3=>?_) rfl
 refine wpAny_items_cons (jD (s:={s₁ with toks:=t3}) G E1 w1 g4 ht0 v0 (fun h=>E1.gl (s:={s₁ with toks:=t3}) G w1 q4 m4 h) Z Kin I1.inst k4 fun t4=>wpAny_items_nil ⟨(show 4<=sizeLine by decide),?_⟩) rfl
 have kp:=bM s₁ (aX #[.bool b1,.bool b2,.bool b3,.bool b4] 0)
 have E2:=E1.post w1 (aC.push (aX #[.bool b1,.bool b2,.bool b3,.bool b4] 0) t4)
 have w2:=w1.push (aX #[.bool b1,.bool b2,.bool b3,.bool b4] 0)
 have K2:Kp g J s [] {s₁ with heap:=s₁.heap.push (aX #[.bool b1,.bool b2,.bool b3,.bool b4] 0),toks:=t4}:=K1.grow t4 kp
 have v02:=v0.move (h':=s₁.heap.push (aX #[.bool b1,.bool b2,.bool b3,.bool b4] 0)) fun a _=>kp a
 have I2:=I1.grow (kp e)
 have hL:=bD (h:=s₁.heap) (aX #[.bool b1,.bool b2,.bool b3,.bool b4] 0)
 have nl:s₁.heap.objs.size≠env.locals:=fun q=>(E1.own _ mem_cons_self).1 (q▸aD _)
 have nls:s.heap.get? s₁.heap.objs.size=none:=K1.back _ (aD _)
 show wpAny P.M A' (storeName env _ (.ref s₁.heap.objs.size)) _ _ {s₁ with heap:=s₁.heap.push (aX #[.bool b1,.bool b2,.bool b3,.bool b4] 0),toks:=t4}
 generalize s₁.heap.push (aX #[.bool b1,.bool b2,.bool b3,.bool b4] 0)=HHH at *
 generalize s₁.heap.objs.size=l at *
 refine bb.st (i:=1) E2 w2 hU ht1 fun s3 st3 E3 w3 v1 hot hb=>?_
 obtain ⟨hp,ta,rfl⟩:=st3
 have K3:Kp g J s [] {s₁ with heap:=hp,toks:=ta}:=K2.other ta nL spl hb
 have v03:=hot 0 _ (by decide) v02
 have I3:gj hp e D:=I2.grow fun o h=>(hb e fun q=>el (q▸nL)).trans h
 have hL3:hp.get? l=some (aX #[.bool b1,.bool b2,.bool b3,.bool b4] 0):=(hb l nl).trans hL
 have rl:∀{g' h'},h'.get? l=some (aX #[.bool b1,.bool b2,.bool b3,.bool b4] 0)->eU P g' h' (.lst [.bool b1,.bool b2,.bool b3,.bool b4]) (.ref l):=fun h=>.inr ⟨l,rfl,_,_,h,(show 4<=lim by decide),_,_,rfl,rfl,_,_,rfl,rfl,_,_,rfl,rfl,_,_,rfl,rfl,rfl⟩
 refine wpAny_execs_cons (wpAny_If (wpAny_isTrue_BoolOp (wpAny_allTrue_Or_cons (wpAny_isTrue_Compare1 (iY An (fun _=>rfl) hl1 (fun _=>rfl) (E3.ld ht1 v1 ⟨mz hL3 rfl rfl,wpAny_Constant_bool (AF A' env _ J _ (.ref l) (.bool true) _ (.bool true) (.int 1) _ _ hu' w3 (rl hL3) (.inl rfl) hc fun u s4 gc pa w4 r4=>?_)⟩)) rfl))))
 obtain ⟨t,rfl⟩:=r4
 obtain ⟨K4,zn4,sp4⟩:=K3.then pa (fun a z=>.inl z) rfl w4
 have E4:=E3.post w3 pa
 have nz:¬g.Z l:=fun q=>(w.Z l q).1 nls
 have I4:gj s4.heap e D:=I3.grow fun o h=>pa.keep e o h ze
 have hL4:s4.heap.get? l=some (aX #[.bool b1,.bool b2,.bool b3,.bool b4] 0):=pa.keep l _ hL3 nz
 have mv:∀a∈Mine.own env,∀o,hp.get? a=some o->s4.heap.get? a=some o:=fun a ha o h=>pa.keep a o h (E3.own a ha).2.2.1
 have v04:=v03.move mv
 have v14:=v1.move mv
 refine wpAny_Constant_int (Cl 1 hu' (wpAny_truthy_bool ?_))
 rw [if_neg (by decide)]
 refine wpAny_allTrue_Or_cons (wpAny_isTrue_Not (wpAny_isTrue_value (jD (s:={s4 with toks:=s4.toks+1}) G E4 w4 g5 ht0 v04 (fun h=>E4.bi (s:={s4 with toks:=s4.toks+1}) G w4 q5 (by decide) (by decide) h) Z Kin I4.inst k5 fun t5=>wpAny_truthy_bool ?_)))
 rw [if_neg (by decide)]
 refine wpAny_allTrue_Or_nil (wpAny_execs_nil (wpAny_execs_cons (wpAny_Return_some (iY ut (fun _=>rfl) hl2 (fun _=>rfl) (E4.ld (s:={s4 with toks:=t5}) ht1 v14 ⟨mz hL4 rfl rfl,wpAny_Constant_bool (uo A' env gc J {s4 with toks:=t5} (.ref l) (.bool true) _ (.bool true) (.int k) _ _ hu' w4 (rl hL4) (.inl rfl) hi fun u s5 gd pb w5 r5=>?_)⟩)))))
 obtain ⟨t',rfl⟩:=r5
 exact hR t' s5 ((K4.grow t5 fun _ _ h=>h).then pb zn4 sp4 w5).1
end
end
end Mine
end
section
set_option tactic.hygienic false
namespace Mine
noncomputable section
open PySem PySem.W PyProof.Rows PySem.SeqAt
section
variable {P:Pg} {B:bn} {C:Ct} {n:Nat} {A:Around} {env:Env} {l:List Env} {g g₁:Gh} {V:aY} {J:Sg} {s s₁ s2 s':Shared} {D e:Addr} {E:Value->Shared->Prop} {Kf:Frag}
theorem Kp.ex (K:Kp g J s l s')(fr:gh g s.heap l){a:Addr}{o:Obj}(h:s.heap.get? a=some o)(z:¬g.Z a)(q:g.F a\/g.O a\/∀es m,o.data≠.dict es m):s'.heap.get? a=some o:=
 (K.keep a o h z).elim id fun ⟨⟨f,hf,ha⟩,_⟩=>by
  obtain ⟨_,L,o',f1,nF,_,nO,at_,es,m,d⟩:=fr f hf
  rw [ha] at f1;cases f1
  rw [h] at at_;cases at_
  exact (q.elim nF fun q=>q.elim nO fun q=>q es m d).elim
theorem Kp.kf (K:Kp g J s l s')(fr:gh g s.heap l)(w:bf P g s.heap J):aN g s.heap g s'.heap:=⟨fun a f=>⟨f,fun o h=>K.ex fr h (fun z=>(w.Z a z).2 f) (.inl f)⟩,rfl⟩
theorem Kp.gok (K:Kp g J s l s')(fr:gh g s.heap l)(w:bf P g s.heap J)(hσ:J.self=none):bf P g s'.heap J:=
 ⟨fun a o h=>⟨(w.base a o h).1,((K.kf fr w).F a (w.base a o h).1).2 o (w.base a o h).2⟩,fun a f q=>w.F a f (K.back a q),fun a z=>⟨fun q=>(w.Z a z).1 (K.back a q),(w.Z a z).2⟩,fun a o=>⟨fun q=>(w.O a o).1 (K.back a q),(w.O a o).2⟩,w.oo,⟨K.spot,w.spot.2⟩,fun c ts q=>by rw [hσ] at q;cases q⟩
theorem Kp.ns (K:Kp g J s l s'){L:Addr}{m:Str->Option Value}(n:s.heap.Ns L m)(z:¬g.Z L):s'.heap.Ns L m:=by
 obtain ⟨o,es,ep,h,d,r⟩:=n
 rcases K.keep L o h z with q | ⟨_,sl,q⟩
 .exact ⟨o,es,ep,q,d,r⟩
 .exact ⟨_,es,ep,q,d,r⟩
theorem Kp.cl (K:Kp g J s l s')(fr:gh g s.heap l){c:Addr}{u:Option Value}(n:s.heap.IsCell c u)(z:¬g.Z c):s'.heap.IsCell c u:=
 let ⟨o,h,d⟩:=n;⟨o,K.ex fr h z (.inr (.inr fun es m q=>by rw [d] at q;cases q)),d⟩
theorem Kp.va {i:Nat}{u:Value}(K:Kp g J s l s')(fr:gh g s.heap l)(v:bH B env s.heap i u)(z:∀a∈own env,¬g.Z a):bH B env s'.heap i u:=by
 cases v with
 |loc x m t n e=>exact .loc x m t (K.ns n (z _ mem_cons_self)) e
 |cel x kk c t hk l n=>exact .cel x kk c t hk l (K.cl fr n (z c (mem_cons_of_mem _ (aP l))))
theorem Kp.envok (K:Kp g J s l s')(fr:gh g s.heap l)(w:bf P g s.heap J)(x:bb P B C env g V s.heap):bb P B C env g V s'.heap:=
 {x with
  ns:=let ⟨m,n⟩:=x.ns;⟨m,K.ns n (x.own _ mem_cons_self).2.2.1⟩
  cell:=fun i y kk ht hk=>let ⟨c,u,l,n⟩:=x.cell i y kk ht hk;⟨c,u,l,K.cl fr n (x.own c (mem_cons_of_mem _ (aP l))).2.2.1⟩
  own:=fun a ha=>⟨fun q=>(x.own a ha).1 (K.back a q),(x.own a ha).2⟩
  var:=fun i y t ht hv=>let ⟨u,v,q⟩:=x.var i y t ht hv;⟨u,K.va fr v fun a ha=>(x.own a ha).2.2.1,q.move (K.kf fr w) rfl rfl fun a ha o h=>K.ex fr h (fun z=>(w.O a ha).2.2 z) (.inr (.inl ha))⟩}
theorem Kp.at (K:Kp g J s l s')(fr:gh g s.heap l)(hσ:J.self=none)(X:At P B C n A env g V J s):At P B C n A env g V J s':=⟨X.good,X.call,X.room,K.envok fr X.g X.env,K.gok fr X.g hσ⟩
theorem Kp.trans {l1:List Env}(K:Kp g J s l s₁)(K':Kp g₁ J s₁ l1 s2)(hl:∀e∈l1,e∈l)(zn:∀a,g₁.Z a->g.Z a\/s.heap.get? a=none)(hsp:g₁.sp=g.sp):Kp g J s l s2:=
 have nz:∀{a o},s.heap.get? a=some o->¬g.Z a->¬g₁.Z a:=fun h z q=>(zn _ q).elim z (ao h)
 have hl':∀{a},(∃e∈l1,e.frame=some a)->∃e∈l,e.frame=some a:=fun ⟨e,he,q⟩=>⟨e,hl e he,q⟩
 ⟨St.trans K.st K'.st,fun a o h z=>(K.keep a o h z).elim (fun k=>(K'.keep a o k (nz h z)).imp id fun ⟨q,r⟩=>⟨hl' q,r⟩) fun ⟨q,sl,k⟩=>.inr ⟨q,(K'.keep _ _ k (nz h z)).elim (fun k=>⟨sl,k⟩) fun ⟨_,sl,k⟩=>⟨sl,k⟩⟩,fun a h=>K.back a (K'.back a h),hsp▸K'.spot⟩
end
end
end Mine
end
section
set_option tactic.hygienic false
namespace Mine
noncomputable section
open PySem PySem.W PyProof.Rows PySem.SeqAt
def i6 (P:Pg)(n:Nat)(t:T)(w:Int)(J:Sg)(k:Int):Prop:=∀A vs g s l (R:Result->Shared->Prop),lf A n->A.frames=some l->gh g s.heap l->bf P g s.heap J->aO P g s.heap [t,.int w] vs->(∀tk s',Kp g J s l s'->R (.ok (.ret (.int k tk))) s')->codeAny P.M A (.call (.ref (P.fnA 50)) ⟨vs,[]⟩) R s
def y6 (P:Pg)(D:Addr)(k:Int):Prop:=∀A g J s e (R:Result->Shared->Prop),A.depth < recursionLimit->A.units+203 < cLine->bf P g s.heap J->gj s.heap e D->¬g.Z e->(∀tk s',Kp g J s [] s'->R (.ok (.ret (.int k tk))) s')->codeAny P.M A (.call (.ref (P.fnA 70)) ⟨[.ref e],[]⟩) R s
section
variable {P:Pg} {B:bn} {C:Ct} {n:Nat} {A:Around} {env:Env} {l:List Env} {g g₁:Gh} {V:aY} {J:Sg} {s s₁ s2 s':Shared} {D e:Addr} {E:Value->Shared->Prop} {Kf:Frag} {tab:List (Option (Str×NameKind))} {U:List Nat} {t:T} {i k:Int}
theorem Hn {a n k:Nat}(h:a+2 * (n+1)+9 < k):a+1 < k:=by lia
theorem Hm {a n k:Nat}(h:a+20 * (n+1)+190 < k):a+3+203 < k:=by lia
theorem DH.exc {L:Option Addr}{hc h:Heap}(f:DH L hc h (.ref e) D):gj h e D/\hc.get? e=none:=by
 obtain ⟨a,oe,vs,q,n,o,k,d,_⟩:=f
 cases q
 exact ⟨⟨oe,vs,o,k,d⟩,n⟩
abbrev sr (P:Pg)(n:Nat)(B:bn)(C:Ct)(V:aY)(J:Sg)(D:Addr)(body:List Stmt):Prop:=∀A env g s l (Q:Flow->Shared->Prop) (E:Value->Shared->Prop),At P B C n A env g V J s->A.frames=some (env::l)->gh g s.heap (env::l)->(∀x s',dp g J s (env::l) (some env.locals) D x s'->E x s')->wpAny P.M A (execs body env) Q E s
theorem zw (G:fJ P){F F70:eP}{ps:List Str}{body rest:List Stmt}{wx en en' wn:Str}{Wd:Addr}{p1 p2 p3 p4 p5 hp tp:Pos}
  (hf:P.Ψ 50=some F)(K:wf P 50 2 tab ps (.Try body [.ExceptHandler (some (.Name wx p1)) (some en) [.Return (some (.Call (.Name wn p2) [.Name en' p3] [] p4)) p5] hp] [] [] tp::rest) U)(ih:∀k,k<=n->fm P k)
  (h70:P.Ψ 70=some F70)(hn:P.gl 70=true/\(P.fd 70).name=wn)(hg:(sj (P.fd 50).scope wx&&sj (P.fd 50).scope wn)=true)(hWd:P.mg wx=some (.ref Wd))(ht2:tab[2]?=some (some (en,.local)))(he:en'=en)(hU:2∉U)
  (Kin:Kf.In P.h₀)(hm:exmOne Kf (.ref D) (.ref Wd)=some true)(HHH:y6 P D k)(hσ:J.self=none)(bd:sr P n ⟨(P.fd 50).scope,tab⟩ ⟨[],U,false⟩ (frame [t,.int i] 1) J D body):i6 P (n+1) t i J k:=fun A vs g s l R room hfr fr w r hR=>by
 subst he
 obtain ⟨x1,x2⟩:=ah hg
 have r':Args P false g s.heap [t,.int i] vs:=r
 refine m9 (V:=frame [t,.int i] 1) (m:=false) G hf K (lt_of_le_of_lt (le_trans (le_add_right _ _) (le_add_right _ _)) room.1) (fun a o e=>(w.base a o e).2) w.F (fun a z=>(w.Z a z).1) r'.get.1 (fun i t e=>r'.get.2 i t (dy e)) (fun i hi=>jw (K.un i hi)) fun s₁ env hl same keep hW _ E1=>?_
 have w1:=w.callee keep
 have hfr':(A.deeper env).frames=some (env::l):=by show A.frames.map _=_;rw [hfr];rfl
 have fr1:gh {g with o:=fun _=>none} s₁.heap (env::l):=fun e he=>(an he).elim (fun q=>q▸E1.fr hl) fun q=>fr.grow (g':={g with o:=fun _=>none}) keep (fun _ f=>.inl f) (fun _ z=>.inl z) (fun _ ⟨_,q⟩=>nomatch q) e q
 have zs:=w1.spot.2.1
 have sp:=(w1.Z _ zs).1
 have nL:s.heap.get? env.locals=none:=hW _ mem_cons_self
 have spl:s.heap.get? g.sp≠none:=(w.Z _ w.spot.2.1).1
 have low:∀{s'},Kp {g with o:=fun _=>none} J s₁ (env::l) s'->Kp g J s l s':=fun K=>Kp.low (g₁:={g with o:=fun _=>none}) same (fun a o e _=>keep a o e) (bw keep) (fun a z=>.inl z) rfl rfl (fun e he=>(an he).elim (fun q=>.inr fun a ha=>by subst q;rw [hl] at ha;cases ha;exact nL) .inl) K
 refine wpAny_execs_cons (wpAny_Try_except (bd _ env _ s₁ l _ _ ⟨G,ih,room.deeper _,E1,w1⟩ hfr' fr1 fun x s2 R2=>iC hfr' rfl fr1 hl zs sp R2 fun s3 R3=>eW sp R3 fun s4 (R4:dp _ J s₁ (env::l) none D x s4)=>?_))
 obtain ⟨e,rfl⟩:∃e,x=.ref e:=let ⟨e,_,_,q,_,_,_,_,_⟩:=R4.f;⟨e,q⟩
 have E4:=R4.k.envok fr1 w1 E1
 have w4:=R4.k.gok fr1 w1 hσ
 obtain ⟨I4,ne⟩:=R4.f.exc
 have ze:¬g.Z e:=fun q=>(w1.Z e q).1 ne
 refine wpAny_handleBy_cons (codeAny_handlers_test (E4.gl G w4 x1 hWd ?_)) (by intro q;cases q)
 obtain ⟨ox,Ia⟩:=I4.inst
 refine Looks.at (exm_one (Kin.keeps fun a o e=>(w4.base a o e).2) Ia.type hm) ?_
 show codeAny _ _ _ _ _
 refine codeAny_handlers_suite_as (eW sp R4 fun s5 (R5:dp _ J s₁ (env::l) none D (.ref e) s5)=>?_)
 have E5:=R5.k.envok fr1 w1 E1
 have w5:=R5.k.gok fr1 w1 hσ
 refine bb.st (i:=2) E5 w5 hU ht2 fun s6 st6 E6 w6 v2 _ hb=>?_
 obtain ⟨h6,t6,rfl⟩:=st6
 have K6:Kp g J s l {s5 with heap:=h6,toks:=t6}:=(low R5.k).other t6 nL spl hb
 have I6:gj h6 e D:=R5.f.exc.1.grow fun o h=>(hb e fun q=>(E1.own _ mem_cons_self).1 (q▸ne)).trans h
 obtain ⟨o,g1,g2,g3,g4⟩:=G.fn 70 F70 h70
 refine wpAny_execs_cons (wpAny_Return_some (Call_Name rfl (E6.gl G w6 x2 (hn.2▸g3 hn.1) (Calls.callWith_function (fd:=P.fd 70) (o:=o) (cr (bc fun q hq=>by cases hq with |head=>rfl |tail _ h=>cases h) (wpAny_items_cons (E6.ld ht2 v2 (wpAny_items_nil ⟨⟨(w6.base _ _ g1).2,g2⟩,wpAny_call (HHH _ _ J _ e _ ?_ ?_ w6 I6 ze fun tk s7 K7=>?_)⟩)) rfl))))))
 .exact Hn room.1
 .exact Hm room.2.1
 .have E7:=K7.envok (fun _ q=>nomatch q) w6 E6
  obtain ⟨m,hm⟩:=E7.ns
  have kn:env.kindOf en'=some .local:=show env.scope.names.lookup en'=_ from E7.sc▸(bn.look E7.ok ht2).2.1
  exact wpAny_nameGoes kn hm (by rw [E7.fn];rfl) fun h8 m8 hn8 hs8=>hR tk _ ((K6.trans K7 (fun _ q=>nomatch q) (fun a z=>.inl z) rfl).other _ nL spl hs8.2)
theorem m7 {f:Expr}{es:List Expr}{p pos:Pos}{Q:Flow->Shared->Prop}(hk:env.scope.kind=.function)(h:∀Q',wpAny P.M A (eval (.Call f es [] p) env) Q' E s):wpAny P.M A (exec (.Expr (.Call f es [] p) pos) env) Q E s:=by
 rw [exec_Expr env (.Call f es [] p) pos (by simp [interactive,hk]) rfl]
 exact wpAny_bind (wpAny_standAt (wpAny_bind (h _)))
section
variable {F7 F43:eP} {tA t0 t1 t2 r e1:Expr} {es es1 es2:List Expr} {a1 b2:List Stmt} {y0 y1 y2:Str} {q1 q2 q3 q4 q5 q6 q7 q8 q9 q10 q11 q12 q13:Pos} {rest:List Stmt} {ms:List (Str×Nat)} {mt:T} {pm:PE}
theorem BR (h7:P.Ψ 7=some F7)(hn:P.gl 7=true/\(P.fd 7).name=y0)(hx:sj B.sc y0=true)(hb:behindInMarks .NotEq r=false)(h0:bI P B C t0 (p2 cQ (pV 1) (pC (.int 0))))(hl:dk P B C es (ae (pV 0) ak))(HHH:bZ P n 7 [t] J D):
  sr P n B C (frame [t,.int 0] 1) J D (.If (.BoolOp .And [t0,.Compare (.Call (.Name y0 q1) es [] q2) [.NotEq] [r] q3] q4) a1 [] q5::rest):=fun A env g s l Q E X hfr fr hE=>
 wpAny_execs_cons (wpAny_If (wpAny_isTrue_BoolOp (wpAny_allTrue_And_cons (cB.run (t:=true) .bool rR h0 X rfl fun b s₁ g₁ p w r=>by
  cases r
  rw [if_pos rfl]
  exact wpAny_allTrue_And_cons (wpAny_isTrue_Compare1 (iN (ts:=[t]) h7 hn rfl (qs hx).1 (qs hx).2 hl (X.post p w) rfl HHH hfr (fr.post p) fun x s' R=>hE x s' (R.up.post p)) hb)))))
abbrev A7:PT:=lh (p2 cQ (pV 1) (pC (.int 0))) (lh (p2 iD (aw 7 (ae (pV 0) ak)) (pV 0)) bB)
theorem BQ (O:bj P 10 ms)(hi:(ofString "__init__",1001)∈ms)(hg:P.mg y1=some (.ref (P.cls 10)))(hx:sj B.sc y1=true)(hs:∀env,starEach (e1::es1) env=(false,eval e1 env)::starEach es1 env)(hA:bI P B C tA A7)(h1:bI P B C t1 (p2 cQ (pV 1) (pC (.int 1))))(hl:dk P B C (e1::es1) (ae pm (ae (pV 0) ak)))
  (hm':∀k,pm (P.cx n) (frame [t,.int 1] 1) J k=k mt J)(HHH:bZ P n 1001 [.self,mt,t] ⟨J.spot,some (10,[])⟩ D):
  sr P n B C (frame [t,.int 1] 1) J D (.If tA a1 [] q1::.If t1 [.Expr (.Call (.Name y1 q6) (e1::es1) [] q7) q8] [] q9::rest):=fun A env g s l Q E X hfr fr hE=>
 wpAny_execs_cons (gV (c:=false) hA X rfl fun s₁ g₁ p X1=>wpAny_execs_nil (wpAny_execs_cons (gV (c:=true) h1 X1 rfl fun s2 ga pa X2=>wpAny_execs_cons (m7 X.fn fun Q'=>
  oD (ts:=[mt,t]) O hi rfl hg (qs hx).1 (qs hx).2 hs hl X2 (hm' _) HHH hfr ((fr.post p).post pa) fun x s' R=>hE x s' ((R.up.post pa).post p)))))
theorem BP (h43:P.Ψ 43=some F43)(hn:P.gl 43=true/\(P.fd 43).name=y2)(hx:sj B.sc y2=true)(hA:bI P B C tA A7)(h1:bI P B C t1 (p2 cQ (pV 1) (pC (.int 1))))(h2:bI P B C t2 (p2 cQ (pV 1) (pC (.int 2))))(hl:dk P B C es2 (ae pm (ae (pV 0) ak)))
  (hm':∀k,pm (P.cx n) (frame [t,.int 2] 1) J k=k mt J)(HHH:bZ P n 43 [mt,t] J D):
  sr P n B C (frame [t,.int 2] 1) J D (.If tA a1 [] q1::.If t1 b2 [] q9::.If t2 [.Expr (.Call (.Name y2 q10) es2 [] q11) q12] [] q13::rest):=fun A env g s l Q E X hfr fr hE=>
 wpAny_execs_cons (gV (c:=false) hA X rfl fun s₁ g₁ p X1=>wpAny_execs_nil (wpAny_execs_cons (gV (c:=false) h1 X1 rfl fun s2 ga pa X2=>wpAny_execs_nil (wpAny_execs_cons (gV (c:=true) h2 X2 rfl fun s3 gb pb X3=>wpAny_execs_cons (m7 X.fn fun Q'=>
  iN (ts:=[mt,t]) h43 hn rfl (qs hx).1 (qs hx).2 hl X3 (hm' _) HHH hfr (((fr.post p).post pa).post pb) fun x s' R=>hE x s' (((R.up.post pb).post pa).post p)))))))
end
end
end
end Mine
end
section
set_option tactic.hygienic false
namespace Mine
noncomputable section
open PySem PySem.W PyProof.Rows PySem.SeqAt
section
variable {P:Pg} {B Bc:bn} {C Ci:Ct} {n:Nat} {A:Around} {env cenv:Env} {l:List Env} {g g0:Gh} {V:aY} {J:Sg} {s s0:Shared} {h h':Heap} {scope:Scope} {i:Nat} {xc:Option Str} {target iter:Expr} {pos p4 p5:Pos} {y:Str} {es:List Expr} {ps:PL} {t:T} {k:Int} {F50:eP} {E:Value->Shared->Prop}
theorem Kp.of (p:aC g s g0 s0)(w:bf P g0 s0.heap J):Kp g J s l s0:=Kp.post p (Kp.refl w)
theorem Kp.at' {g':Gh}{s':Shared}{VVV W:List Addr}(K:Kp g0 J s0 l s)(p:bC VVV W g s g' s')(hw:∀a∈W,s0.heap.get? a=none)(hv:∀a∈VVV,s0.heap.get? a=none)(zn:∀a,g.Z a->g0.Z a\/s0.heap.get? a=none)(hsp:g.sp=g0.sp)(w:bf P g' s'.heap J):Kp g0 J s0 l s'/\(∀a,g'.Z a->g0.Z a\/s0.heap.get? a=none)/\g'.sp=g0.sp:=
 have nz:∀{a o},s0.heap.get? a=some o->¬g0.Z a->¬g.Z a:=fun h z q=>(zn _ q).elim z (ao h)
 have nw:∀{a o},s0.heap.get? a=some o->a∉W:=fun h q=>ao h (hw _ q)
 ⟨⟨St.trans K.st p.st,fun a o h z=>(K.keep a o h z).imp (fun k=>p.keep a o k (nz h z) (nw h)) fun ⟨q,sl,k⟩=>⟨q,sl,p.keep _ _ k (nz h z) (nw h)⟩,fun a h=>by
  by_cases q:a∈VVV
  .exact hv a q
  .exact K.back a (p.back a q h),by rw [<-hsp,<-p.sp];exact w.spot.1⟩,fun a z=>(p.Zn a z).elim (zn a) fun e=>.inr (K.back a e),p.sp.trans hsp⟩
theorem gh.e {g':Gh}{s':Shared}{VVV W:List Addr}(fr:gh g s.heap l)(p:bC VVV W g s g' s')(hw:∀e∈l,∀a,e.frame=some a->a∉W):gh g' s'.heap l:=fun e he=>
 let ⟨k,L,o,f,nF,nZ,nO,at_,es,m,d⟩:=fr e he
 ⟨k,L,o,f,fun q=>(p.Fn L q).elim nF (ao at_),fun q=>(p.Zn L q).elim nZ (ao at_),fun ⟨i,q⟩=>nO ⟨i,p.o▸q⟩,p.keep L o at_ nZ (hw e he L f),es,m,d⟩
theorem gh.kp {s':Shared}(fr:gh g s.heap l)(K:Kp g J s l s'):gh g s'.heap l:=fun e he=>by
 obtain ⟨k,L,o,f,nF,nZ,nO,at_,es,m,d⟩:=fr e he
 rcases K.keep L o at_ nZ with q | ⟨_,sl,q⟩
 .exact ⟨k,L,o,f,nF,nZ,nO,q,es,m,d⟩
 .exact ⟨k,L,_,f,nF,nZ,nO,q,es,m,d⟩
theorem dM.ints {D:Addr}{acc:List T}{g':Gh}(a:dM P g h D acc)(hi:∀t∈acc,∃j,t=.int j)(hD:∀o,h.get? D=some o->h'.get? D=some o):dM P g' h' D acc:=wc.mono a hD fun v r=>by
 have:∀{acc:List T} {v:List Value},(∀t∈acc,∃j,t=.int j)->aO P g h acc v->aO P g' h' acc v:=fun {acc}=>by
  induction acc with
  |nil=>exact fun _ h=>h
  |cons t r ih=>
   intro v hi ⟨u,vs,e,r1,r2⟩
   obtain ⟨j,rfl⟩:=hi t (.head _)
   exact ⟨u,vs,e,r1,ih (fun t ht=>hi t (.tail _ ht)) r2⟩
 exact this hi r
theorem uR {tw:Env->List Addr}{I D:Addr}{ts:List T}{vol fx:List Addr}{St:Nat->Gh->Heap->Prop}{R:Result->Shared->Prop}(T:jP P A Bc C Ci target (bz i) tw I ts vol fx St)(hc:iI C i Ci)(hi:i∈C.U)(hDv:D∉vol++fx)
  (h50:P.Ψ 50=some F50)(hn:P.gl 50=true/\(P.fd 50).name=y)(hx:sj Bc.sc y=true)(hl:dk P Bc Ci es ps)(hpl:∀v,ps (P.cx n) (V.set i (some v)) J (fun ts J=>.ret (.tup ts) J)=.ret (.tup [t,v]) J)(hfr:A.frames=some l)(hσ:J.self=none)(HHH:∀v∈ts,∃j,v=.int j/\i6 P n t j J k)
  (vn:∀a∈D::(vol++tw cenv),s0.heap.get? a=none)(fl:∀e∈l,∀a,e.frame=some a->s0.heap.get? a≠none)(sp0:s0.heap.get? g0.sp≠none)(hfx:∀a∈fx,∀e∈l,e.frame≠some a):
  ∀(rest:List Mine.T) (j:Nat) (g:Gh) (s:Shared) (acc:List Mine.T),j<=ts.length->ts.drop j=rest->acc.length+rest.length<=lim->At P Bc C n A cenv g V J s->gh g s.heap l->jU g cenv (D::(vol++fx))->St j g s.heap->dM P g s.heap D acc->Kp g0 J s0 l s->(∀a,g.Z a->g0.Z a\/s0.heap.get? a=none)->g.sp=g0.sp->
   (∀s' g',Kp g0 J s0 l s'->At P Bc C n A cenv g' V J s'->dM P g' s'.heap D (acc++rest.map fun _=>.int k)->R (.ok .next) s')->
   codeAny P.M A (.compLoop (.ListComp (.Call (.Name y p4) es [] p5) [⟨target,iter,[],0⟩] scope pos) 0 (.ref I) (.ref D) cenv) R s:=by
 have nwv:∀{a},a∈vol++tw cenv->s0.heap.get? a=none:=fun h=>vn _ (mem_cons_of_mem _ h)
 have fw:∀e∈l,∀a,e.frame=some a->a∉D::(vol++tw cenv):=fun e he a ha q=>fl e he a ha (vn a q)
 intro rest
 induction rest with
 |nil=>
  intro j g s acc hle hd hl X fr hv st ac K zn hsp hq
  obtain rfl:j=ts.length:=le_antisymm hle (List.drop_eq_nil_iff.mp hd)
  refine d9 (wpAny_mono (T.done n cenv g V J s (fun s'=>R (.ok .next) s') (nt P A cenv R) X (fun a ha=>hv a (mem_cons_of_mem _ ha)) st fun s' p X'=>?_) (fun r s₁ h=>match r with |none=>h |some _=>h.elim) fun _ _ h=>h)
  have dn:=hv D mem_cons_self
  have hvn:∀a∈vol,s0.heap.get? a=none:=fun a ha=>nwv (mem_append_left _ ha)
  exact hq s' g (K.at' p hvn hvn zn hsp X'.g).1 X' (by rw [map_nil,append_nil];exact ac.mono (p.toS.k X.g fun a ha=>(hv a (mem_cons_of_mem _ (mem_append_left _ ha))).1) fun o e=>p.keep D o e dn.2.1 fun q=>hDv (mem_append_left _ q))
 |cons v rest ih=>
  intro j g s acc hle hd hlm X fr hv st ac K zn hsp hq
  have hiv:ts[j]?=some v:=by rw [<-head?_drop,hd];rfl
  have hi':j < ts.length:=(aj hiv).1
  have hd':ts.drop (j+1)=rest:=by rw [<-tail_drop,hd];rfl
  have hvv:jU g cenv (vol++fx):=fun a ha=>hv a (mem_cons_of_mem _ ha)
  have dn:=hv D mem_cons_self
  obtain ⟨j',rfl,HT⟩:=HHH v (mem_of_getElem? hiv)
  refine d9 (wpAny_mono (T.item j _ n cenv g V _ J s (fun s3=>yE P A (.Call (.Name y p4) es [] p5) target iter [] scope pos I D cenv R s3) (nt P A cenv R) hiv X hvv st rfl fun s3 p3 X3 st3=>?_) (fun r s₁ h=>match r with |none=>h.elim |some _=>h) fun _ _ h=>h)
  have nW:∀a∈vol++tw cenv,¬g.F a:=fun a ha=>(ag ha).elim (fun h=>(hvv a (mem_append_left _ h)).1) fun h=>(X.env.own a (T.sub cenv a h)).2.1
  have ac3:dM P g s3.heap D acc:=ac.mono (p3.toS.k X.g nW) fun o e=>p3.keep D o e dn.2.1 fun q=>(ag q).elim (fun q=>hDv (mem_append_left _ q)) fun q=>dn.2.2.2 (T.sub cenv D q)
  obtain ⟨K3,zn3,sp3⟩:=K.at' p3 (fun a ha=>nwv ha) (fun a ha=>nomatch ha) zn hsp X3.g
  have fr3:=fr.e p3 fun e he a ha q=>fw e he a ha (mem_cons_of_mem _ q)
  have lv:∀{g s i},St i g s->dM P g s D acc->∀a∈D::(vol++fx),s.get? a≠none:=fun st ac a ha=>(an ha).elim (fun q=>q▸let ⟨_,_,e,_,_⟩:=ac;ao e) (T.here _ _ _ st a)
  refine wpAny_tests_nil ?_
  rw [if_pos rfl]
  obtain ⟨o,g1,g2,g3,g4⟩:=X.good.fn 50 F50 h50
  refine Call_Name rfl (X3.glob (qs hx).1 (qs hx).2 (hn.2▸g3 hn.1) ?_)
  refine Calls.callWith_function (fd:=P.fd 50) (o:=o) (cr (bc (hl.pl cenv)) (cB.run (t:=[t,.int j']) .tup jg (hl.sim p5) X3 (hpl _) fun xs s4 gb pa w4 r4=>?_))
  have X4:=X3.post pa w4
  have fr4:=fr3.post pa
  obtain ⟨K4,zn4,sp4⟩:=K3.then pa zn3 sp3 w4
  obtain ⟨v4,k4⟩:=hv.p (lv st3 ac3) pa
  have st4:=T.stay _ _ _ _ _ st3 (pa.k X3.g) fun a ha=>k4 a (mem_cons_of_mem _ ha)
  have ac4:=ac3.mono (pa.k X3.g) (k4 D mem_cons_self)
  refine ⟨⟨X4.base _ _ g1,g2⟩,wpAny_call (HT A xs gb s4 l _ X.room.c hfr fr4 w4 r4 fun tk s5 K5=>?_)⟩
  have X5:=K5.at fr4 hσ X4
  have nfr:∀a∈D::(vol++fx),∀e∈l,e.frame≠some a:=fun a ha e he q=>by
   rcases an ha with rfl |h
   .exact fl e he _ q (vn _ mem_cons_self)
   .exact (ag h).elim (fun h=>fl e he a q (nwv (mem_append_left _ h))) fun h=>hfx a h e he q
  have kk:∀a∈D::(vol++fx),∀o,s4.heap.get? a=some o->s5.heap.get? a=some o:=fun a ha o e=>(K5.keep a o e (v4 a ha).2.1).elim id fun ⟨⟨f,hf,q⟩,_⟩=>(nfr a ha f hf q).elim
  have kf5:=K5.kf fr4 w4
  have st5:=T.stay _ _ _ _ _ st4 kf5 fun a ha=>kk a (mem_cons_of_mem _ ha)
  have K05:=K4.trans K5 (fun _ h=>h) zn4 sp4
  have fr5:=fr4.kp K5
  obtain ⟨ys,m,d1,d2,d3⟩:=ac4.mono kf5 (kk D mem_cons_self)
  show wpAny P.M A (call (.builtin "list.append") [.ref D,.int k tk]) _ _ s5
  refine d5 d1 ?_ (ba (d3.size▸d2))
  have hs:=Heap.SameBut.update s5.heap D (Obj.mapSeq fun a=>a.push (.int k tk))
  have d1':=IsL.update d1 (fun a=>a.push (.int k tk))
  obtain ⟨p6,X6⟩:=cW (vol:=[D]) (h':=s5.heap.update D (Obj.mapSeq fun a=>a.push (.int k tk))) X5 (fun a ha=>v4 a (aa ha▸mem_cons_self)) (fun a o e q=>(hs.2 a fun z=>q (z▸ay rfl)).trans e) s5.toks
  have kf:=p6.toS.k X5.g fun a ha=>(v4 a (aa ha▸mem_cons_self)).1
  refine ih (j+1) gb _ (acc++[.int k]) hi' hd' (by rw [List.length_append];exact le_trans (le_of_eq (by rw [length_singleton,length_cons,add_assoc,add_comm 1])) hlm) ⟨X.good,X.call,X.room,X6.env.less hc X.env.un hi,X6.g⟩ (fr5.e p6 fun e he a ha q=>nfr D mem_cons_self e he (aa q▸ha)) v4
   (T.stay _ _ _ _ _ st5 kf fun a ha o e=>(hs.2 a fun q=>hDv (q▸ha)).trans e) ⟨_,_,d1',?_,?_⟩ (K05.other s5.toks (vn D mem_cons_self) sp0 hs.2) zn4 sp4 fun s' g' q1 q2 q3=>hq s' g' q1 q2 (by rw [List.append_assoc] at q3;exact q3)
  .rw [List.length_append];exact le_trans (add_le_add_left (show 1<=rest.length+1 from succ_le_succ (zero_le _)) _) hlm
  .rw [Array.toList_push]
   exact aO.append (aO.cons (show Rp P gb _ (.int k) (.int k tk) from ⟨tk,rfl⟩) aO.nil) (d3.mono kf)
theorem uQ {ws:List Int}{pi:PL}{pos':Pos}{Q:Value->Shared->Prop}(K:dq B Bc scope i xc)(hi:i∈C.U)(hc:iI C i Ci)(hI:fI P B C iter (vW P Bc C Ci target (bz i) (j1 xc)) pi)(hs:∀env x,foldedSetIterable iter env x=pure x)
  (h50:P.Ψ 50=some F50)(hn:P.gl 50=true/\(P.fd 50).name=y)(hx:sj Bc.sc y=true)(hl:dk P Bc Ci es ps)(hpl:∀v,ps (P.cx n) (V.set i (some v)) J (fun ts J=>.ret (.tup ts) J)=.ret (.tup [t,v]) J)(hfr:A.frames=some [env])(hf:env.frame=some env.locals)(hσ:J.self=none)(HHH:∀j∈ws,i6 P n t j J k)
  (X:At P B C n A env g V J s)(hp:pi (P.cx n) V J (fun xs J=>.ret (.tup xs) J)=.ret (.tup (ws.map .int)) J)
  (ok:∀D s',Kp g J s [env] s'->s.heap.get? D=none->dM P g s'.heap D (ws.map fun _=>.int k)->Q (.ref D) s'):
  wpAny P.M A (comprehension (.ListComp (.Call (.Name y p4) es [] p5) [⟨target,iter,[],0⟩] scope pos) scope env pos' (newList []) false (eval iter env) none) Q E s:=by
 refine wpAny_comprehension_free (use:=none) rfl (hs env) (iZ (K.out X.env)) K.kind K.names ?_
 refine hI n A env g V J s (fun xs J=>.ret (.tup xs) J) _ _ X (by rw [hp];exact fun q=>by cases q) fun s₁ g₁ ts J1 I vol fx St e1 p1 w1 T st hv hx' hlm=>?_
 rw [hp] at e1
 injection e1 with e1 e2
 obtain rfl:=jg _ _ e1
 obtain rfl:=e2
 have X1:=X.post p1 w1
 have fr:gh g s.heap [env]:=fun e he=>aa he▸X.env.fr hf
 refine wpAny_newList (jx ?_)
 rw [K.cells.1]
 have p2:aC g₁ s₁ g₁ {s₁ with heap:=s₁.heap.push (aX #[] 0),toks:=s₁.toks}:=.push _ _
 have w2:bf P g₁ (s₁.heap.push (aX #[] 0)) J:=w1.push _
 have hD2:=bD (h:=s₁.heap) (aX #[] 0)
 have hDn:s₁.heap.get? s₁.heap.objs.size=none:=aD _
 obtain ⟨nf,nz,no⟩:=cZ w1
 show codeAny P.M A _ _ {s₁ with heap:=pushCells ((s₁.heap.push (aX #[] 0)).push {cls:=.type "dict",data:=.dict #[]}) scope.names}
 generalize s₁.heap.objs.size=D at *
 generalize s₁.heap.push (aX #[] 0)=H2 at p2 w2 hD2 ⊢
 obtain ⟨hn3,hc3,hcn,k3⟩:=nC K H2
 have hCn:H2.get? H2.objs.size=none:=aD _
 generalize pushCells (H2.push {cls:=.type "dict",data:=.dict #[]}) scope.names=h3 at hn3 hc3 k3 ⊢
 generalize H2.objs.size+1=c at *
 generalize H2.objs.size=L at *
 have x2:=X1.env.post w1 p2
 have envc:=nh K x2 hi hn3 hc3 hCn hcn w2 k3
 have w3:bf P g₁ h3 J:=w2.grow k3 g₁.F (fun _ h=>h) fun _ h=>.inl h
 have p3:aC g₁ s₁ g₁ {s₁ with heap:=h3,toks:=s₁.toks}:=p2.trans (.grow (s:={s₁ with heap:=H2,toks:=s₁.toks}) s₁.toks k3 g₁.F (fun _ h=>h) fun _ h=>.inl h)
 have hown:∀a∈own (compEnvC scope (mo xc c++dL env scope.names []) L env),H2.get? a=none\/a∈own env:=fun a ha=>by
  rcases an ha with rfl |h
  .exact .inl hCn
  .obtain ⟨q,hq,rfl⟩:=aG h
   rcases ag hq with hq |hq
   .obtain ⟨_,_,rfl⟩:=pM hq;exact .inl hcn
   .exact .inr (mem_cons_of_mem _ (aP (gX scope.names [] (K.out X.env) (fun _ q=>nomatch q) q hq)))
 have hvl:=T.here _ _ _ st
 have hvol:jU g₁ (compEnvC scope (mo xc c++dL env scope.names []) L env) (D::(vol++fx)):=fun a ha=>by
  rcases an ha with rfl |ha
  .exact ⟨nf,nz,no,fun q=>(hown a q).elim (ao hD2) fun q=>(X1.env.own a q).1 hDn⟩
  .have hl:=hvl a ha
   rcases ag ha with ha |ha
   .exact ⟨(hv a ha).2.1,(hv a ha).2.2,fun q=>(X.g.O a (let ⟨i,q⟩:=q;⟨i,p1.o▸q⟩)).1 (hv a ha).1,fun q=>(hown a q).elim (fun z=>hl (p2.back a z)) fun q=>(X.env.own a q).1 (hv a ha).1⟩
   .exact ⟨(hx' a ha).1,(hx' a ha).2.1,(hx' a ha).2.2.1,fun q=>(hown a q).elim (fun z=>hl (p2.back a z)) (hx' a ha).2.2.2⟩
 have st3:=T.stay _ _ _ _ _ st (p3.k w1) fun a ha o e=>p3.keep a o e (hvol a (mem_cons_of_mem _ ha)).2.1
 refine (fun loop=>codeAny_compStart_list loop (T.self 0 g₁ _ _ _ st3 loop):codeAny P.M A (.compLoop (.ListComp (.Call (.Name y p4) es [] p5) [⟨target,iter,[],0⟩] scope pos) 0 (.ref I) (.ref D) (compEnvC scope (mo xc c++dL env scope.names []) L env)) (compPost P.M A E none Q (.ref D) L) {s₁ with heap:=h3,toks:=s₁.toks}->_) ?_
 have htw:=tN (xc:=xc) (c:=c) (r:=dL env scope.names []) (scope:=scope) (L:=L) (env:=env)
 have hl':(compEnvC scope (mo xc c++dL env scope.names []) L env).locals=L:=rfl
 generalize compEnvC scope (mo xc c++dL env scope.names []) L env=cenv at *
 have X3:At P Bc C n A cenv g₁ V J {s₁ with heap:=h3,toks:=s₁.toks}:=⟨X.good,X.call,X.room,envc,w3⟩
 have frn:∀{a},H2.get? a=none->s.heap.get? a=none:=fun h=>p1.back _ (p2.back _ h)
 have sp0:s.heap.get? g.sp≠none:=(X.g.Z _ X.g.spot.2.1).1
 refine uR (k:=k) T hc hi (fun q=>hvl D q hDn) h50 hn hx hl hpl hfr hσ (fun v hv=>?_) (fun a ha=>?_) (fun e he a ha=>?_) sp0 (fun a ha e he q=>?_) (ws.map .int) 0 g₁ _ [] (zero_le _) rfl (by rw [length_nil,zero_add];exact hlm) X3 ((fr.post p1).post p3) hvol st3 ⟨_,_,k3 _ _ hD2,zero_le _,rfl⟩ (Kp.of (p1.trans p3) w3) (p1.trans p3).Zn (p1.trans p3).sp fun s' g' q1 q2 q3=>?_
 .obtain ⟨j,hj,rfl⟩:=aG hv
  exact ⟨j,rfl,HHH j hj⟩
 .rcases an ha with rfl |ha
  .exact p1.back _ hDn
  .rcases ag ha with ha |ha
   .exact (hv a ha).1
   .rcases htw a ha with rfl |rfl
    .exact frn hCn
    .exact frn hcn
 .rw [aa he,hf] at ha;cases ha
  exact (X.env.own _ mem_cons_self).1
 .rw [aa he,hf] at q;cases q
  exact (hx' _ ha).2.2.2 mem_cons_self
 .obtain ⟨m,hm⟩:=q2.env.ns
  have dl:D≠L:=fun q=>ao hD2 (q▸hCn)
  refine ⟨m,hl'▸hm,fun h' hsb=>ok D _ (q1.other _ (frn hCn) sp0 hsb.2) (p1.back _ hDn) ?_⟩
  rw [nil_append,map_map] at q3
  exact q3.ints (fun t ht=>let ⟨_,_,q⟩:=aG ht;⟨k,q.symm⟩) fun o e=>(hsb.2 D dl).trans e
theorem uP {ws:List Int}{pi:PL}{pr:PE}{r:Expr}{a1:List Stmt}{q1 q2:Pos}{Q:Flow->Shared->Prop}(K:dq B Bc scope i xc)(hi:i∈C.U)(hc:iI C i Ci)(hI:fI P B C iter (vW P Bc C Ci target (bz i) (j1 xc)) pi)(hs:∀env x,foldedSetIterable iter env x=pure x)
  (h50:P.Ψ 50=some F50)(hn:P.gl 50=true/\(P.fd 50).name=y)(hx:sj Bc.sc y=true)(hl:dk P Bc Ci es ps)(hpl:∀v,ps (P.cx n) (V.set i (some v)) J (fun ts J=>.ret (.tup ts) J)=.ret (.tup [t,v]) J)(hfr:A.frames=some [env])(hf:env.frame=some env.locals)(hσ:J.self=none)(HHH:∀j∈ws,i6 P n t j J k)
  (X:At P B C n A env g V J s)(hp:pi (P.cx n) V J (fun xs J=>.ret (.tup xs) J)=.ret (.tup (ws.map .int)) J)(hr:aq P B C r pr (RN P))(hb:behindInMarks .NotEq r=false)(hpr:pr (P.cx n) V J (fun v J=>.ret v J)=.ret (.lst (ws.map fun _=>.int k)) J)(he:iD (.lst (ws.map fun _=>.int k)) (.lst (ws.map fun _=>.int k))=some false)
  (ok:∀g' s',(∃h tk,s'={s with heap:=h,toks:=tk})->At P B C n A env g' V J s'->Q .next s'):wpAny P.M A (exec (.If (.Compare (.ListComp (.Call (.Name y p4) es [] p5) [⟨target,iter,[],0⟩] scope pos) [.NotEq] [r] q1) a1 [] q2) env) Q E s:=by
 refine wpAny_If (wpAny_isTrue_Compare1 ?_ hb)
 show wpAny P.M A (eval _ env) _ E s
 rw [eval_ListComp]
 have fr:gh g s.heap [env]:=fun e he=>aa he▸X.env.fr hf
 refine uQ K hi hc hI hs h50 hn hx hl hpl hfr hf hσ HHH X hp fun D s₁ K1 nD ac=>?_
 have X1:=K1.at fr hσ X
 refine cB.run (t:=.lst (ws.map fun _=>.int k)) id (fun _ _ h=>h) hr X1 hpr fun y s2 ga p2 w2 ra=>?_
 have X2:=X1.post p2 w2
 obtain ⟨b,rfl,_,_,_,_,rb⟩:=ra
 have ac2:dM P ga s2.heap D (ws.map fun _=>.int k):=ac.ints (fun t ht=>let ⟨_,_,q⟩:=aG ht;⟨k,q.symm⟩) fun o e=>p2.keep D o e fun z=>(X.g.Z D z).1 nD
 refine Bt A ga J s2 _ _ (.lst (ws.map fun _=>.int k)) (.lst (ws.map fun _=>.int k)) false _ _ X2.rm w2 (.inr ⟨D,rfl,ac2⟩) (.inr ⟨b,rfl,rb⟩) he fun tk=>wpAny_truthy_bool ?_
 exact wpAny_execs_nil (ok ga _ (St.trans (St.trans K1.st p2.st) ⟨s2.heap,tk,rfl⟩) (X2.post (.toks ga s2 tk) w2))
end
end
end Mine
end
section
set_option tactic.hygienic false
namespace Mine
noncomputable section
open PySem PySem.W PyProof.Rows
theorem vF (a b:List Stmt)(env:Env):execs (a++b) env=execs a env >>=fun f=>match f with |.next=>execs b env |f=>pure f:=by
 induction a with
 |nil=>rfl
 |cons st a ih=>
  rw [List.cons_append,execs_cons,ih,execs_cons,bind_assoc]
  congr 1
  funext f
  cases f<;>rfl
theorem f7 {M:Model}{A:Around}{E:Value->Shared->Prop}{s:Shared}{env:Env}{a b:List Stmt}{Q:Flow->Shared->Prop}(h:wpAny M A (execs a env) (fun f s'=>match f with |.next=>wpAny M A (execs b env) Q E s' |f=>Q f s') E s):wpAny M A (execs (a++b) env) Q E s:=by
 rw [vF]
 exact wpAny_bind (wpAny_mono h (fun f s' q=>by cases f<;>first |exact q |exact wpAny_pure q) fun _ _ q=>q)
section
variable {P:Pg} {L:LT} {B:bn} {C C':Ct} {fr:Bool} {n:Nat} {A:Around} {env:Env} {g:Gh} {V ρ':aY} {J J':Sg} {s:Shared} {E:Value->Shared->Prop} {Q:Flow->Shared->Prop}
theorem cA.run {W:WP Flow}{p:PS}(h:cA P B C fr C' W p)(X:At P B C n A env g V J s)(e:p (P.cx n) V J .fall=.fall ρ' J')(hq:∀s' g',(∃h tk,s'={s with heap:=h,toks:=tk})->At P B C' n A env g' ρ' J' s'->Q .next s'):W A env Q E s:=
 h n A env g V J s .fall Q E X (by rw [e];exact fun q=>by cases q) (fun s' g' V1 J1 e' p X'=>by
  rw [e] at e'
  injection e' with h1 h2
  subst h1;subst h2
  exact hq s' g' p.st X') fun x s' g' t J1 e'=>by rw [e] at e';cases e'
theorem cA.ret {W:WP Flow}{p:PS}{t:T}{k:PK aY}(h:cA P B C false C' W p)(X:At P B C n A env g V J s)(hk:∀V J,k V J=.ret .none J)(ht:t≠.none)(e:p (P.cx n) V J k=.ret t J')(hq:∀x s' g',bf P g' s'.heap J'->(∃h tk,s'={s with heap:=h,toks:=tk})->Rp P g' s'.heap t x->Q (.ret x) s'):W A env Q E s:=
 h n A env g V J s k Q E X (by rw [e];exact fun q=>by cases q) (fun s' g' V1 J1 e' p X'=>by
  rw [e,hk] at e'
  injection e' with h1 h2
  exact (ht h1).elim) fun x s' g' t' J1 e' p w r=>by
   rw [e] at e'
   injection e' with h1 h2
   subst h1;subst h2
   exact hq x s' g' w p.st r.1
theorem wq {D:eQ P L}{ss:List Stmt}{p:PS}{n s:Nat}(h:(Dz D n B C fr ss s).map (fun r=>(r.1.1,r.1.2.1))=some (some C',p)):fH P B C fr C' ss p:=by
 obtain ⟨⟨⟨o,a⟩,m⟩,_,h⟩:=ar h
 obtain ⟨h1,h2⟩:=Prod.mk.inj h
 have h1:o=some C':=h1
 subst h1
 exact h2▸a.2
theorem jj {D:eQ P L}{e:Expr}{p:PT}{n s:Nat}(h:((DA D n).2 B C e s).map (·.1.1)=some p):bI P B C e p:=let ⟨r,_,h⟩:=ar h;h▸r.1.2
theorem qG {D:eQ P L}{es:List Expr}{p:PL}{n s:Nat}(h:(zc (DA D n).1 B C es s).map (·.1.1)=some p):dk P B C es p:=let ⟨r,_,h⟩:=ar h;h▸r.1.2
def eO (P:Pg)(B:bn)(C:Ct)(st:Stmt)(x:Nat×PL×PL×PE):Prop:=∀n A env g V J s t k (ws:List Int) (Q:Flow->Shared->Prop) (E:Value->Shared->Prop),(∀v,x.2.2.1 (P.cx n) (V.set x.1 (some v)) J (fun ts J=>.ret (.tup ts) J)=.ret (.tup [t,v]) J)->A.frames=some [env]->env.frame=some env.locals->J.self=none->(∀j∈ws,i6 P n t j J k)->At P B C n A env g V J s->
 x.2.1 (P.cx n) V J (fun xs J=>.ret (.tup xs) J)=.ret (.tup (ws.map .int)) J->x.2.2.2 (P.cx n) V J (fun v J=>.ret v J)=.ret (.lst (ws.map fun _=>.int k)) J->iD (.lst (ws.map fun _=>.int k)) (.lst (ws.map fun _=>.int k))=some false->(∀g' s',(∃h tk,s'={s with heap:=h,toks:=tk})->At P B C n A env g' V J s'->Q .next s')->wpAny P.M A (exec st env) Q E s
def A4 (D:eQ P L)(E:FE P)(B:bn)(C:Ct)(st:Stmt):Mo {x:Nat×PL×PL×PE // eO P B C st x}:=
 vS (α:=fun st=>{x:Nat×PL×PL×PE // eO P B C st x}) st mF fun h=>Stmt.If.elim (motive_2:=fun st=>Mo {x:Nat×PL×PL×PE // eO P B C st x}) st h fun t a b q2=>gk (α:=fun b=>{x:Nat×PL×PL×PE // eO P B C (.If t a b q2) x}) b
  (vC (α:=fun t=>{x:Nat×PL×PL×PE // eO P B C (.If t a [] q2) x}) t mF fun h=>Expr.Compare.elim (motive_1:=fun t=>Mo {x:Nat×PL×PL×PE // eO P B C (.If t a [] q2) x}) t h fun l ops rs q1=>n7 (α:=fun ops=>{x:Nat×PL×PL×PE // eO P B C (.If (.Compare l ops rs q1) a [] q2) x}) ops fun o=>CmpOp.casesOn (motive:=fun o=>Mo {x:Nat×PL×PL×PE // eO P B C (.If (.Compare l [o] rs q1) a [] q2) x}) o mF
   (n7 (α:=fun rs=>{x:Nat×PL×PL×PE // eO P B C (.If (.Compare l [.NotEq] rs q1) a [] q2) x}) rs fun r=>wj (α:=fun l=>{x:Nat×PL×PL×PE // eO P B C (.If (.Compare l [.NotEq] [r] q1) a [] q2) x}) l mF fun elt tg it fs sc p=>gk (α:=fun fs=>{x:Nat×PL×PL×PE // eO P B C (.If (.Compare (.ListComp elt [⟨tg,it,fs,0⟩] sc p) [.NotEq] [r] q1) a [] q2) x}) fs
    (kW (α:=fun elt=>{x:Nat×PL×PL×PE // eO P B C (.If (.Compare (.ListComp elt [⟨tg,it,[],0⟩] sc p) [.NotEq] [r] q1) a [] q2) x}) elt mF fun f es p5=>cc (α:=fun f=>{x:Nat×PL×PL×PE // eO P B C (.If (.Compare (.ListComp (.Call f es [] p5) [⟨tg,it,[],0⟩] sc p) [.NotEq] [r] q1) a [] q2) x}) f mF fun y p4=>
     mK (P:=P) B C (α:=fun tg=>{x:Nat×PL×PL×PE // eO P B C (.If (.Compare (.ListComp (.Call (.Name y p4) es [] p5) [⟨tg,it,[],0⟩] sc p) [.NotEq] [r] q1) a [] q2) x}) tg sc fun x tp i xc Bc Ci K hi hc hb=>mG (jr it) fun hp=>mU (FG E B C hb it) fun pi hI=>mG (Gi Bc y) fun hx=>mO L.1 y mF fun f hf=>mG (Nat.beq f 50) fun h5=>mG (jr r) fun hpr=>mU (zc E Bc Ci es) fun ps hl=>mW E B C r fun pr hr=>
      mR ⟨(i,pi,ps,pr),fun n A env g V J s t k ws Q E hpl hfr hf' hσ HHH X h1 h2 h3 ok=>let ⟨_,e1,e2⟩:=D.fn _ hf;have e5:=eq_of_beq_eq_true h5
       uP K (iu hi) (dF hc).1 hI (pl hp).fold (e5▸e1) (e5▸e2) hx hl hpl hfr hf' hσ HHH X h1 hr ((pl hpr).beh _) h2 h3 ok⟩)) mF mF mF mF mF mF mF mF)
theorem wO {D:eQ P L}{n m:Nat}{st:Stmt}{x:Nat×PL×PL×PE}(h:(A4 D (DA D n).1 B C st m).map (·.1.1)=some x):eO P B C st x:=let ⟨r,_,h⟩:=ar h;h▸r.1.2
theorem vk (G:fJ P)(hF:∀f F,P.Ψ f=some F->vZ P f F){m:Nat}{F:eP}{tab:List (Option (Str×NameKind))}{ps:List Str}{pre mid post bd:List Stmt}{U:List Nat}{y:Str}{k:NameKind}{s0:Int}{kk:Nat}{q1 q2 q3 q4:Pos}{p1 p3:PS}{l:Addr}{vs:List Value}{ns:List Int}
  (hL:P.Ψ 999=some F)(K:wf P 999 1 tab ps bd U)(hbd:bd=.Assign [.Name y q1] (.List [.Constant (.int s0) kk q2] q3) q4::(pre++(mid++post)))(ht:tab[1]?=some (some (y,k)))(hk:k=.local\/k=.cell)(hw:v6 (.List [.Constant (.int s0) kk q2] q3) y q1 q4.line (P.fd 999).scope=false)(hc:ch ⟨[],U,false⟩ 1 false ⟨[],U,false⟩=true)
  (s1:fH P ⟨(P.fd 999).scope,tab⟩ ⟨[],U,false⟩ false ⟨[],U,false⟩ pre p1)(s3:∃C',fH P ⟨(P.fd 999).scope,tab⟩ ⟨[],U,false⟩ false C' post p3)(hs:P.h₀=s.heap)(room:lf A (n+1))(hfr:A.frames=some [])(hl:s.heap.IsList l vs.toArray)(hi:IntsAre vs ns)(hn:ns.length<=63)
  (h1:p1 (P.cx n) (frame [.scr ns,.spot] m) ⟨s0,none⟩ .fall=.fall V J)(h2:∀A env g s (Q:Flow->Shared->Prop) (E:Value->Shared->Prop),A.frames=some [env]->env.frame=some env.locals->At P ⟨(P.fd 999).scope,tab⟩ ⟨[],U,false⟩ n A env g V J s->(∀g' s',(∃h tk,s'={s with heap:=h,toks:=tk})->At P ⟨(P.fd 999).scope,tab⟩ ⟨[],U,false⟩ n A env g' V J s'->Q .next s')->wpAny P.M A (execs mid env) Q E s)
  (h3:p3 (P.cx n) V J (fun _ J=>.ret .none J)=.ret (.bool true) J'):
  wpAny P.M A (PySem.call (.ref (P.fnA 999)) [.ref l]) (fun v s'=>v=.bool true/\∃h' tk,s'={s with heap:=h',toks:=tk}/\∀a o,s.heap.get? a=some o->h'.get? a=some o) (fun _ _=>False) s:=by
 subst hbd
 have hlen:=hi.length
 have r:Args P false (g0 s.heap) s.heap [.scr ns] [.ref l]:=show aO P (g0 s.heap) s.heap [.scr ns] [.ref l] from ⟨_,_,rfl,⟨l,_,rfl,by rw [hs];exact hl,by rw [size_toArray];have:lim=1000000:=rfl;lia -abstractProof,ye hi⟩,rfl⟩
 refine wpAny_call (codeAny_mono (R:=A8 fun v s'=>v=.bool true/\∃h' tk,s'={s with heap:=h',toks:=tk}/\∀a o,s.heap.get? a=some o->h'.get? a=some o) (m9 (V:=frame [.scr ns] (m+1)) (m:=false) (g:=g0 s.heap) G hL K (lt_of_le_of_lt (le_trans (le_add_right _ _) (le_add_right _ _)) room.1) (fun a o e=>hs▸e) (fun _ h=>h) (fun _ h=>h.elim)
  r.get.1 (fun i t e=>r.get.2 i t (dy e)) (fun i hi=>jw (K.un i hi)) fun s₁ env hl' same keep hW _ E1=>?_) fun r s' q=>wR q)
 have hfr':(A.deeper env).frames=some [env]:=by show A.frames.map _=_;rw [hfr];rfl
 refine wpAny_execs_cons (wpAny_Assign_Name (wpAny_List (wpAny_items_cons (wpAny_Constant_int (wpAny_items_nil ⟨(show 1<=sizeLine by decide),?_⟩)) rfl)) (by rw [gx E1.sc,hw]))
 have w2:∀a o,s₁.heap.get? a=some o->(s₁.heap.push (aX #[.int s0 s₁.toks] 0)).get? a=some o:=bM s₁ _
 have X:At P ⟨(P.fd 999).scope,tab⟩ ⟨[],U,false⟩ n (A.deeper env) env _ (frame [.scr ns] (m+1)) ⟨s0,none⟩ {s₁ with heap:=s₁.heap.push (aX #[.int s0 s₁.toks] 0),toks:=s₁.toks+1}:=⟨G,qk G hF n,room.deeper _,BX w2 E1,BW hs keep w2⟩
 refine ib (t:=.spot) X hc ht hk rfl fun sa pa X3=>f7 (cA.run s1 X3 h1 fun s4 g4 t4 X4=>f7 (h2 _ env g4 s4 _ _ hfr' hl' X4 fun g5 s5 t5 X5=>?_))
 obtain ⟨C',s3⟩:=s3
 refine cA.ret s3 X5 (fun _ _=>rfl) (by intro q;cases q) h3 fun x s6 g6 w6 t6 r6=>?_
 obtain ⟨h7,t7,e7⟩:=St.trans (St.trans (St.trans (St.trans same pa.st) t4) t5) t6
 exact ⟨r6,h7,t7,e7,fun a o e=>by have:=(w6.base a o (hs▸e)).2;rw [e7] at this;exact this⟩
end
end
end Mine
end
section
set_option maxRecDepth 100000
namespace Mine.L01
noncomputable section
open PySem
abbrev j9:PS:=
  (ai (bR (jp (dW (qE (p1 (eF .str) (pV 0)))) (jp (p2 vA (p1 bJ (pV 0)) (pC (.int 6))) cN))
  (ai (aF (pC (.bool false)))
  am)
  am)
  (ai (aF (p1 iH (bv (p1 AI (pV 0)) (bz 1) bB (pB (p2 Ew (pV 1) (pC (.str (ofString "abcdefghijklmnopqrstuvwxyz"))))))))
  am))
abbrev iQ:PS:=
  (ai (bR (p2 cQ (p2 aA (pV 0) (pC (.int 0))) (pC (.str (ofString "mark"))))
  (ai (aF (bo ak))
  am)
  am)
  (ai (aF (p1 gR (p3 cg (pV 0) (p1 dA (pC (.int 1))) mi)))
  am))
abbrev fQ:PS:=
  (ai (bR (jp (dW (qE (p1 (eF .tuple) (pV 0)))) (jp (p2 cQ (p1 bJ (pV 0)) (pC (.int 0))) (jp (dW (qE (p1 (eF .str) (p2 aA (pV 0) (pC (.int 0)))))) cN)))
  (ai (aF (pC (.bool false)))
  am)
  am)
  (ai (bR (p2 cQ (p2 aA (pV 0) (pC (.int 0))) (pC (.str (ofString "mark"))))
  (ai (aF (jv (pB (p2 cQ (p1 bJ (pV 0)) (pC (.int 2)))) (jv (aw 1 (ae (p2 aA (pV 0) (pC (.int 1))) ak)) (pB (p2 iD (p2 aA (pV 0) (pC (.int 1))) (pC (.str (ofString ""))))))))
  am)
  am)
  (ai (bR (p2 cQ (p2 aA (pV 0) (pC (.int 0))) (pC (.str (ofString "yes"))))
  (ai (aF (pB (p2 cQ (p1 bJ (pV 0)) (pC (.int 1)))))
  am)
  am)
  (ai (bR (p2 lr (p2 aA (pV 0) (pC (.int 0))) (aH (ae (pC (.str (ofString "not"))) (ae (pC (.str (ofString "next"))) (ae (pC (.str (ofString "always"))) (ae (pC (.str (ofString "again"))) ak))))))
  (ai (aF (pB (p2 cQ (p1 bJ (pV 0)) (pC (.int 2)))))
  am)
  am)
  (ai (aF (jv (pB (p2 lr (p2 aA (pV 0) (pC (.int 0))) (aH (ae (pC (.str (ofString "and"))) (ae (pC (.str (ofString "or"))) (ae (pC (.str (ofString "till"))) ak)))))) (pB (p2 cQ (p1 bJ (pV 0)) (pC (.int 3))))))
  am)))))
abbrev gH:PS:=
  (ai (bR (jp (p2 cQ (pV 1) (pC (.int 0))) (jp (dW (qE (aw 3 (ae (pV 0) ak)))) cN))
  (ai (aF (pC (.bool false)))
  am)
  am)
  (ai (aF (p1 iH (bv (bK (aw 2 (ae (pV 0) ak))) (bz 2) bB (aw 4 (ae (pV 2) (ae (p2 dU (pV 1) (pC (.int 1))) ak))))))
  am))
abbrev gI:PS:=
  (ai (aF (aw 4 (ae (pV 0) (ae (pC (.int 5)) ak))))
  am)
abbrev gG:PS:=
  (ai (bR (p2 lr (p2 aA (pV 0) (pC (.int 0))) (aH (ae (pC (.str (ofString "next"))) (ae (pC (.str (ofString "till"))) (ae (pC (.str (ofString "always"))) ak)))))
  (ai (aF (bo (ae (pV 0) ak)))
  am)
  am)
  (ai (bR (p2 cQ (p2 aA (pV 0) (pC (.int 0))) (pC (.str (ofString "again"))))
  (ai (aI 1 (aH (ae (pC (.str (ofString "till"))) (ae (aH (ae (pC (.str (ofString "yes"))) ak)) (ae (p2 aA (pV 0) (pC (.int 1))) ak)))))
  (ai (aF (bo (ae (pV 1) (ae (aH (ae (pC (.str (ofString "always"))) (ae (pV 1) ak))) ak))))
  am))
  am)
  (ai (aF (bo ak))
  am)))
abbrev iT:PS:=
  (ai (aI 1 (bo ak))
  (ai (dv (bK (aw 2 (ae (pV 0) ak))) (bz 2)
  (ai (jb 1 jH (bv (bK (aw 500 (ae (pV 2) ak))) (bz 3) (p2 iz (pV 3) (pV 1)) (pV 3)))
  am))
  (ai (jb 1 jH (bv (bK (aw 6 (ae (pV 0) ak))) (bz 4) (p2 iz (pV 4) (pV 1)) (pV 4)))
  (ai (aF (pV 1))
  am))))
abbrev cE:PS:=
  (ai (bR (dW (qE (aw 5 (ae (pV 0) ak))))
  (ai gu
  am)
  am)
  (ai (bR (p2 vA (p1 bJ (aw 500 (ae (pV 0) ak))) (pC (.int 4)))
  (ai gu
  am)
  am)
  (ai (aF (pV 0))
  am)))
abbrev eZ:PS:=
  (ai (aI 1 (bo (ae (aH ak) ak)))
  (ai (dv (bK (pV 0)) (bz 2)
  (ai (aI 1 (p2 bx (bv (bK (pV 1)) (bz 3) bB (p2 bx (pV 3) (aH (ae (pC (.bool false)) ak)))) (bv (bK (pV 1)) (bz 4) bB (p2 bx (pV 4) (aH (ae (pC (.bool true)) ak))))))
  am))
  (ai (aF (pV 1))
  am)))
abbrev kb:PS:=
  (ai (aF (p2 aA (pV 2) (xb .list eG (pV 1) (pV 0))))
  am)
abbrev pD:PS:=
  (ai (aI 4 (p2 aA (pV 0) (pC (.int 0))))
  (ai (bR (p2 cQ (pV 4) (pC (.str (ofString "mark"))))
  (ai (aF (pB (p2 cQ (pV 1) (p2 aA (pV 0) (pC (.int 1))))))
  am)
  am)
  (ai (bR (p2 cQ (pV 4) (pC (.str (ofString "yes"))))
  (ai (aF (pC (.bool true)))
  am)
  am)
  (ai (bR (p2 cQ (pV 4) (pC (.str (ofString "not"))))
  (ai (aF (sO (aw 10 (ae (p2 aA (pV 0) (pC (.int 1))) (ae (pV 1) (ae (pV 2) (ae (pV 3) ak)))))))
  am)
  am)
  (ai (bR (p2 cQ (pV 4) (pC (.str (ofString "and"))))
  (ai (aF (jv (aw 10 (ae (p2 aA (pV 0) (pC (.int 1))) (ae (pV 1) (ae (pV 2) (ae (pV 3) ak))))) (aw 10 (ae (p2 aA (pV 0) (pC (.int 2))) (ae (pV 1) (ae (pV 2) (ae (pV 3) ak)))))))
  am)
  am)
  (ai (bR (p2 cQ (pV 4) (pC (.str (ofString "or"))))
  (ai (aF (DB (aw 10 (ae (p2 aA (pV 0) (pC (.int 1))) (ae (pV 1) (ae (pV 2) (ae (pV 3) ak))))) (aw 10 (ae (p2 aA (pV 0) (pC (.int 2))) (ae (pV 1) (ae (pV 2) (ae (pV 3) ak)))))))
  am)
  am)
  (ai (bR (p2 cQ (pV 4) (pC (.str (ofString "again"))))
  (ai (aF (aw 9 (ae (aH (ae (pC (.str (ofString "always"))) (ae (aH (ae (pC (.str (ofString "till"))) (ae (aH (ae (pC (.str (ofString "yes"))) ak)) (ae (p2 aA (pV 0) (pC (.int 1))) ak)))) ak))) (ae (pV 2) (ae (pV 3) ak)))))
  am)
  am)
  (ai (aF (aw 9 (ae (pV 0) (ae (pV 2) (ae (pV 3) ak)))))
  am))))))))
abbrev md:PS:=
  (ai (bR (p2 cQ (p2 aA (pV 0) (pC (.int 0))) (pC (.str (ofString "next"))))
  (ai (aF (aw 10 (ae (p2 aA (pV 0) (pC (.int 1))) (ae (p2 aA (pV 3) (pC (.int 0))) (ae (pV 1) (ae (p2 aA (pV 3) (pC (.int 1))) ak))))))
  am)
  am)
  (ai (bR (p2 cQ (p2 aA (pV 0) (pC (.int 0))) (pC (.str (ofString "till"))))
  (ai (bR (qE (aw 10 (ae (p2 aA (pV 0) (pC (.int 2))) (ae (p2 aA (pV 2) (pC (.int 0))) (ae (pV 1) (ae (p2 aA (pV 2) (pC (.int 1))) ak))))))
  (ai (aF (pC (.bool true)))
  am)
  am)
  (ai (aF (jv (aw 10 (ae (p2 aA (pV 0) (pC (.int 1))) (ae (p2 aA (pV 2) (pC (.int 0))) (ae (pV 1) (ae (p2 aA (pV 2) (pC (.int 1))) ak))))) (aw 9 (ae (pV 0) (ae (pV 1) (ae (p2 aA (pV 3) (pC (.int 1))) ak))))))
  am))
  am)
  (ai (aF (jv (aw 10 (ae (p2 aA (pV 0) (pC (.int 1))) (ae (p2 aA (pV 2) (pC (.int 0))) (ae (pV 1) (ae (p2 aA (pV 2) (pC (.int 1))) ak))))) (aw 9 (ae (pV 0) (ae (pV 1) (ae (p2 aA (pV 3) (pC (.int 1))) ak))))))
  am)))
abbrev kg:PS:=
  (ai (dv (bK (pV 0)) (bz 3)
  (ai (bR (p2 iD (aw 9 (ae (pV 3) (ae (pV 0) (ae (p2 aA (pV 1) (pC (.int 1))) ak)))) (aw 11 (ae (pV 3) (ae (pV 0) (ae (pV 1) (ae (pV 2) ak))))))
  (ai (aF (pC (.bool false)))
  am)
  am)
  am))
  (ai (aF (pC (.bool true)))
  am))
abbrev eX:PS:=
  (ai (aF (p2 bx (bo (ae (pC .none) ak)) (bv (bK (aw 500 (ae (pV 0) ak))) (bz 1) (p2 lr (p2 aA (pV 1) (pC (.int 0))) (aH (ae (pC (.str (ofString "till"))) (ae (pC (.str (ofString "always"))) ak)))) (pV 1))))
  am)
abbrev mh:PS:=
  (ai (bR (p2 yb (pV 0) (pC .none))
  (ai (aF (pC (.bool true)))
  am)
  am)
  (ai (bR (p2 cQ (p2 aA (pV 0) (pC (.int 0))) (pC (.str (ofString "till"))))
  (ai (aF (DB (sO (aw 9 (ae (pV 0) (ae (pV 2) (ae (pV 3) ak))))) (aw 10 (ae (p2 aA (pV 0) (pC (.int 2))) (ae (pV 1) (ae (pV 2) (ae (pV 3) ak)))))))
  am)
  am)
  (ai (aF (DB (aw 9 (ae (pV 0) (ae (pV 2) (ae (pV 3) ak)))) (sO (aw 10 (ae (p2 aA (pV 0) (pC (.int 1))) (ae (pV 1) (ae (pV 2) (ae (pV 3) ak))))))))
  am)))
abbrev fP:PS:=
  (ai (aI 1 (bo ak))
  (ai (aI 2 sP)
  (ai (dv (bK (p1 (nR 10 4) (pV 0))) (bz 3)
  (ai (bR (p2 eC (pV 3) (pV 2))
  (ai (zo 2 er (pV 3) (pC (.bool true)))
  (ai (aI 4 (bo (ae (aH (ae (pV 3) (ae (pC (.int 0)) ak))) ak)))
  (ai (gr 20000 (p2 iD (pV 4) (bo ak))
  (ai (wY 4 [5,6])
  (ai (bR (p2 cQ (pV 6) (p1 bJ (p2 idxD (p1 (nR 10 6) (pV 0)) (pV 5))))
  (ai (jb 1 dC (pV 5))
  am)
  (ai (jb 4 dC (aH (ae (pV 5) (ae (p2 bx (pV 6) (pC (.int 1))) ak))))
  (ai (aI 7 (p2 aA (p2 idxD (p1 (nR 10 6) (pV 0)) (pV 5)) (pV 6)))
  (ai (bR (p2 eC (pV 7) (pV 2))
  (ai (zo 2 er (pV 7) (pC (.bool true)))
  (ai (jb 4 dC (aH (ae (pV 7) (ae (pC (.int 0)) ak))))
  am))
  am)
  am))))
  am)))
  am)))
  am)
  am))
  (ai (aF (pV 1))
  am))))
abbrev gJ:PS:=
  (ai (aI 1 (aw 35 (ae (pV 0) ak)))
  (ai (aI 2 sP)
  (ai (aI 3 (bo ak))
  (ai (dv (bK (p1 sF (aw 34 (ae (pV 0) ak)))) (bz 4)
  (ai (bR (p2 eC (pV 4) (pV 2))
  (ai (zo 2 er (pV 4) (pC (.bool true)))
  (ai (aI 5 (bo (ae (pV 4) ak)))
  (ai (aI 6 (pC (.int 0)))
  (ai (gr 400 (p2 ue (pV 6) (p1 bJ (pV 5)))
  (ai (dv (bK (p2 idxD (pV 1) (p2 aA (pV 5) (pV 6)))) (bz 7)
  (ai (bR (p2 eC (pV 7) (pV 2))
  (ai (zo 2 er (pV 7) (pC (.bool true)))
  (ai (jb 5 dC (pV 7))
  am))
  am)
  am))
  (ai (aI 6 (p2 bx (pV 6) (pC (.int 1))))
  am)))
  (ai (jb 3 dC (pV 5))
  am)))))
  am)
  am))
  (ai (aF (pV 3))
  am)))))
abbrev fR:PS:=
  (ai (aF (DB (pB (p2 vA (p1 bJ (pV 1)) (pC (.int 1)))) (pB (p2 lr (p2 aA (pV 1) (pC (.int 0))) (p2 idxD (p1 (nR 10 6) (pV 0)) (p2 aA (pV 1) (pC (.int 0))))))))
  am)
abbrev py:PS:=
  (ai (dv (c9 (ae (p1 bJ (p1 (nR 10 1) (pV 0))) ak)) (bz 2)
  (ai (bR (dW (qE (p1 yU (bv (bK (pV 1)) (bz 3) bB (ua 10 1005 (pV 0) (ae (pV 3) (ae (pV 2) ak)))))))
  (ai (aF (pV 2))
  am)
  am)
  am))
  (ai (aF (pC .none))
  am))
abbrev j8:PS:=
  (ai (aI 3 (p1 rE (bv (bK (pV 1)) (bz 7) bB (aH (ae (pV 7) (ae (pC .none) ak))))))
  (ai (aI 4 (p1 gR (pV 1)))
  (ai (gr 400 (p2 iD (pV 4) (bo ak))
  (ai (oE 4 5)
  (ai (bR (p2 lr (pV 5) (pV 2))
  (ai (aF (aw 40 (ae (pV 3) (ae (pV 5) ak))))
  am)
  am)
  (ai (dv (bK (p2 idxD (p1 (nR 10 6) (pV 0)) (pV 5))) (bz 6)
  (ai (bR (p2 eC (pV 6) (pV 3))
  (ai (zo 3 er (pV 6) (pV 5))
  (ai (jb 4 dC (pV 6))
  am))
  am)
  am))
  am))))
  (ai (aF (bo ak))
  am))))
abbrev gF:PS:=
  (ai (aI 2 (bo ak))
  (ai (gr 400 (p2 Ev (pV 1) (pC .none))
  (ai (jb 2 dC (pV 1))
  (ai (aI 1 (p2 idxD (pV 0) (pV 1)))
  am)))
  (ai (aF (p1 sF (pV 2)))
  am)))
abbrev j7:PS:=
  (ai (aI 2 (bo (ae (p2 aA (pV 1) (pC (.int 0))) ak)))
  (ai (dv (c9 (ae (p1 bJ (p1 (nR 10 1) (pV 0))) ak)) (bz 3)
  (ai (aI 4 (bv (bK (pV 1)) (bz 6) (qE (ua 10 1005 (pV 0) (ae (pV 6) (ae (pV 3) ak)))) (pV 6)))
  (ai (aI 2 (p2 bx (pV 2) (p3 cg (aw 39 (ae (pV 0) (ae (p3 cg (pV 2) (p1 dA (p1 mm (pC (.int 1)))) mi) (ae (pV 4) ak)))) (p1 dA (pC (.int 1))) mi)))
  am)))
  (ai (aI 5 (bv (bK (p2 idxD (p1 (nR 10 6) (pV 0)) (p2 aA (pV 2) (p1 mm (pC (.int 1)))))) (bz 7) (p2 lr (pV 7) (pV 1)) (pV 7)))
  (ai (aF (p2 bx (pV 2) (p3 cg (aw 39 (ae (pV 0) (ae (pV 5) (ae (p3 cg (pV 1) mi (p1 dA (pC (.int 1)))) ak)))) mi (p1 dA (p1 mm (pC (.int 1)))))))
  am))))
abbrev gK:PS:=
  (ai (aI 2 (p3 cg (aw 39 (ae (pV 0) (ae (p3 cg (p1 (nR 10 4) (pV 0)) mi (p1 dA (p1 (nR 10 5) (pV 0)))) (ae (p3 cg (pV 1) mi (p1 dA (pC (.int 1)))) ak)))) mi (p1 dA (p1 mm (pC (.int 1))))))
  (ai (aF (aH (ae (pC (.str (ofString "breaks"))) (ae (bv (bK (pV 2)) (bz 3) bB (p2 aA (pV 3) (pC (.int 0)))) (ae (bv (bK (aw 41 (ae (pV 0) (ae (pV 1) ak)))) (bz 4) bB (p2 aA (pV 4) (pC (.int 0)))) ak)))))
  am))
abbrev jt:PS:=
  (ai (aI 2 (qV 10 1001 (ae (pV 0) (ae (pV 1) ak))))
  (ai (aI 3 (aw 36 (ae (pV 2) ak)))
  (ai (aI 4 (bo ak))
  (ai (dv (rt (pV 3)) (zm 5 6)
  (ai (aI 7 (pC (.int 0)))
  (ai (bR (qE (aw 37 (ae (pV 2) (ae (pV 6) ak))))
  (ai (aI 7 (aw 38 (ae (pV 2) (ae (pV 6) ak))))
  (ai (bR (p2 yb (pV 7) (pC .none))
  (ai (aF (aw 42 (ae (pV 2) (ae (pV 6) ak))))
  am)
  am)
  am))
  am)
  (ai (jb 4 jH (bv (bK (pV 6)) (bz 8) bB (aH (ae (p2 aA (pV 8) (pC (.int 0))) (ae (p2 aA (pV 8) (pC (.int 1))) (ae (p2 dU (p2 dU (p1 bJ (pV 3)) (pC (.int 1))) (pV 5)) (ae (pV 7) ak)))))))
  am))))
  (ai (aF (aH (ae (pC (.str (ofString "keeps"))) (ae (pV 4) ak))))
  am)))))
abbrev iR:PS:=
  (ai (aF (jv (p1 (eF .int) (pV 0)) (jv (sO (p1 (eF .bool) (pV 0))) (pB (mj DD ue (pC (.int 0)) (pV 0) (pV 1))))))
  am)
abbrev eY:PS:=
  (ai (bR (jp (dW (qE (p1 (eF .list) (pV 0)))) (jp (p2 cQ (p1 bJ (pV 0)) (pC (.int 0))) cN))
  (ai gu
  am)
  am)
  (ai (dv (rt (pV 0)) (zm 2 3)
  (ai (bR (jp (dW (qE (aw 15 (ae (pV 3) (ae (pV 1) ak))))) (jp (p2 lr (pV 3) (p3 cg (pV 0) mi (p1 dA (pV 2)))) cN))
  (ai gu
  am)
  am)
  am))
  am))
abbrev ew:PS:=
  (ai (bR (p2 ue (pV 1) (p1 bJ (pV 0)))
  (ai (aF (p2 aA (pV 0) (pV 1)))
  am)
  am)
  (ai (aF (pC (.int 0)))
  am))
abbrev gN:PS:=
  (ai (ju 1 (p2 bx (oG 1) (pC (.int 1))))
  (ai (aI 2 (p2 dU (oG 1) (pC (.int 1))))
  (ai (bR (p2 ue (pV 2) (p1 bJ (pV 0)))
  (ai (aF (p2 aA (pV 0) (pV 2)))
  am)
  am)
  (ai (bR (lh (p2 vA (p1 bJ (pV 0)) (pC (.int 4))) (lh (p2 ue (pV 2) (pC (.int 50))) bB))
  (ai (aF (p2 bS (p2 iX (p2 bx (p2 aA (pV 0) (p2 bS (pV 2) (p1 bJ (pV 0)))) (p2 iX (pC (.int 7919)) (pV 2))) (pC (.int 48271))) (pC (.int 1000003))))
  am)
  am)
  (ai (aF (pC (.int 0)))
  am)))))
abbrev fS:PS:=
  (ai (aI 1 (pC (.str (ofString "abcdefghijklmnopqrstuvwxyz"))))
  (ai (aI 2 (xb .str uk (pC (.str (ofString ""))) (bv (c9 (ae (pC (.int 6)) ak)) (bz 8) bB (p2 aA (pV 1) (p2 bS (p2 bx (p2 dO (pV 0) (pC (.int 7))) (p2 iX (pC (.int 5)) (pV 8))) (pC (.int 26)))))))
  (ai (bR (p2 cQ (p2 bS (pV 0) (pC (.int 3))) (pC (.int 2)))
  (ai (aI 3 (p2 bx (pC (.int 1)) (p2 bS (p2 dO (pV 0) (pC (.int 3))) (pC (.int 4)))))
  (ai (aF (bv (c9 (ae (pC (.int 3)) ak)) (bz 9) bB (p3 cg (pV 2) mi (p1 dA (p2 bx (pV 3) (pV 9))))))
  am))
  am)
  (ai (aI 3 (p2 bS (p2 dO (pV 0) (pC (.int 3))) (pC (.int 6))))
  (ai (aI 4 (p2 bS (p2 dO (pV 0) (pC (.int 18))) (p2 bx (pV 3) (pC (.int 1)))))
  (ai (aI 5 (bo ak))
  (ai (dv (c9 (ae (pC (.int 3)) ak)) (bz 6)
  (ai (aI 7 (p2 aA (pV 1) (p2 bS (p2 bx (p2 dO (pV 0) (pC (.int 90))) (p2 iX (pC (.int 7)) (pV 6))) (pC (.int 26)))))
  (ai (jb 5 dC (p2 bx (p2 bx (p3 cg (pV 2) mi (p1 dA (pV 4))) (pV 7)) (p3 cg (pV 2) (p1 dA (pV 4)) (p1 dA (pV 3)))))
  am)))
  (ai (aF (pV 5))
  am))))))))
abbrev gM:PS:=
  (ai (aI 4 (aw 18 (ae (pV 0) (ae (pV 1) ak))))
  (ai (aI 5 (p2 dO (pV 4) (pC (.int 13))))
  (ai (bR (jp (p2 ue (pV 3) (pC (.int 2))) (jp (p2 ue (p2 bS (pV 4) (pC (.int 13))) (pC (.int 2))) cN))
  (ai (bR (p2 cQ (p2 bS (pV 5) (pC (.int 9))) (pC (.int 4)))
  (ai (aF (aH (ae (pC (.str (ofString "yes"))) ak)))
  am)
  am)
  (ai (aF (aH (ae (pC (.str (ofString "mark"))) (ae (p2 aA (pV 2) (p2 bS (pV 5) (pC (.int 3)))) ak))))
  am))
  am)
  (ai (aI 6 (pC (.str (ofString "not and or next till always again till always next not"))))
  (ai (aI 7 (p2 aA (xb .str o5 (pV 6) (pC (.str (ofString " ")))) (p2 dU (p2 bS (pV 4) (pC (.int 13))) (pC (.int 2)))))
  (ai (aI 8 (aw 20 (ae (pV 0) (ae (pV 1) (ae (pV 2) (ae (p2 dU (pV 3) (pC (.int 1))) ak))))))
  (ai (bR (p2 lr (pV 7) (aH (ae (pC (.str (ofString "not"))) (ae (pC (.str (ofString "next"))) (ae (pC (.str (ofString "always"))) (ae (pC (.str (ofString "again"))) ak))))))
  (ai (aF (aH (ae (pV 7) (ae (pV 8) ak))))
  am)
  am)
  (ai (aF (aH (ae (pV 7) (ae (pV 8) (ae (aw 20 (ae (pV 0) (ae (pV 1) (ae (pV 2) (ae (p2 dU (pV 3) (pC (.int 1))) ak))))) ak)))))
  am))))))))
abbrev iV:PS:=
  (ai (aI 1 (bo (ae (pV 0) ak)))
  (ai (dv (bK (p3 cg (pV 0) (p1 dA (pC (.int 1))) mi)) (bz 2)
  (ai (bR (qE (p1 (eF .tuple) (pV 2)))
  (ai (aI 1 (p2 bx (pV 1) (aw 21 (ae (pV 2) ak))))
  am)
  am)
  am))
  (ai (aF (pV 1))
  am)))
abbrev fT:PS:=
  (ai (aI 1 (bo ak))
  (ai (dv (bK (aw 21 (ae (pV 0) ak))) (bz 2)
  (ai (aI 3 (bo ak))
  (ai (bR (p2 lr (p2 aA (pV 2) (pC (.int 0))) (aH (ae (pC (.str (ofString "next"))) (ae (pC (.str (ofString "till"))) (ae (pC (.str (ofString "always"))) ak)))))
  (ai (aI 3 (bo (ae (pV 2) ak)))
  am)
  (ai (bR (p2 cQ (p2 aA (pV 2) (pC (.int 0))) (pC (.str (ofString "again"))))
  (ai (aI 3 (bo (ae (aH (ae (pC (.str (ofString "till"))) (ae (aH (ae (pC (.str (ofString "yes"))) ak)) (ae (p2 aA (pV 2) (pC (.int 1))) ak)))) (ae (aH (ae (pC (.str (ofString "always"))) (ae (aH (ae (pC (.str (ofString "till"))) (ae (aH (ae (pC (.str (ofString "yes"))) ak)) (ae (p2 aA (pV 2) (pC (.int 1))) ak)))) ak))) ak))))
  am)
  am)
  am))
  (ai (aI 1 (p2 bx (pV 1) (bv (bK (pV 3)) (bz 4) (p2 iz (pV 4) (pV 1)) (pV 4))))
  am))))
  (ai (aF (pV 1))
  am)))
abbrev iU:PS:=
  (ai (bR (p2 cQ (pV 1) (pC (.int 0)))
  (ai (aF (aH (ae (pV 2) (ae (p1 mm (pC (.int 1))) ak))))
  am)
  am)
  (ai (aI 1 (p2 dU (pV 1) (pC (.int 1))))
  (ai (aI 3 (bo ak))
  (ai (dv (bK (pV 0)) (bz 4)
  (ai (bR (lh (qE (p1 (eF .tuple) (pV 4))) (lh (p2 DE (pV 1) (pC (.int 0))) bB))
  (ai (qy [4,1] (aw 67 (ae (pV 4) (ae (pV 1) (ae (pV 2) ak)))))
  am)
  am)
  (ai (jb 3 dC (pV 4))
  am)))
  (ai (aF (aH (ae (p1 j2 (pV 3)) (ae (pV 1) ak))))
  am)))))
abbrev cz:PS:=
  (ai (aI 2 (aH (ae (pC (.str (ofString "mark"))) (ae (p2 aA (pV 1) (pC (.int 0))) ak))))
  (ai (aI 3 (bo (ae (aH (ae (pC (.str (ofString "mark"))) (ae (pC (.str (ofString ""))) ak))) (ae (aH (ae (pC (.str (ofString "mark"))) (ae (pC (.str (ofString "A"))) ak))) (ae (aH (ae (pC (.str (ofString "mark"))) (ae (pC (.str (ofString "abcdefg"))) ak))) (ae (aH (ae (pC (.str (ofString "mark"))) (ae (pC (.int 5)) ak))) (ae (aH (ae (pC (.str (ofString "mark"))) ak)) (ae (aH (ae (pC (.str (ofString "mark"))) (ae (p2 aA (pV 1) (pC (.int 0))) (ae (p2 aA (pV 1) (pC (.int 1))) ak)))) ak))))))))
  (ai (aI 3 (p2 bx (pV 3) (bo (ae (aH (ae (pC (.str (ofString "yes"))) (ae (pC (.int 1)) ak))) (ae (aH (ae (pC (.str (ofString "no"))) ak)) (ae (aH (ae (pC (.str (ofString "not"))) ak)) (ae (aH (ae (pC (.str (ofString "not"))) (ae (pV 2) (ae (pV 2) ak)))) (ae (aH (ae (pC (.str (ofString "and"))) (ae (pV 2) ak))) (ae (aH (ae (pC (.str (ofString "or"))) (ae (pV 2) (ae (pV 2) (ae (pV 2) ak))))) ak)))))))))
  (ai (aI 3 (p2 bx (pV 3) (bo (ae (aH (ae (pC (.str (ofString "next"))) (ae (p2 aA (pV 1) (pC (.int 0))) ak))) (ae (bo ak) (ae (aH (ae (pC (.str (ofString "till"))) (ae (pV 2) (ae (pC .none) ak)))) (ae (aH (ae (pC (.str (ofString "always"))) (ae (bo (ae (pV 2) ak)) ak))) (ae (aH (ae (pC (.str (ofString "again"))) (ae (pV 2) (ae (pV 2) ak)))) (ae (pC .none) ak)))))))))
  (ai (aI 3 (p2 bx (pV 3) (bo (ae (pC (.str (ofString "yes"))) (ae (aH ak) (ae (aH (ae (pC (.str (ofString "mark"))) (ae (p2 bx (p2 aA (pV 1) (pC (.int 0))) (pC (.str (ofString " ")))) ak))) (ae (pC (.int 7)) (ae (aH (ae (bo (ae (pC (.str (ofString "yes"))) ak)) ak)) (ae sP (ae (aH (ae (pC (.str (ofString "mark"))) (ae (pV 2) ak))) (ae (aH (ae (pC (.str (ofString "until"))) (ae (pV 2) (ae (pV 2) ak)))) ak)))))))))))
  (ai (aF (p2 aA (pV 3) (p2 bS (pV 0) (pC (.int 26)))))
  am))))))
abbrev gO:PS:=
  (ai (aF (p2 bx (pC (.int 1)) (p1 vg (p2 bx (bv (bK (p3 cg (pV 0) (p1 dA (pC (.int 1))) mi)) (bz 1) (qE (p1 (eF .tuple) (pV 1))) (aw 69 (ae (pV 1) ak))) (bo (ae (pC (.int 0)) ak))))))
  am)
abbrev ci:PS:=
  (ai (ai (bR (lh (p2 cQ (pV 1) (pC (.int 0))) (lh (p2 iD (aw 7 (ae (pV 0) ak)) (pV 0)) bB))
  (ai (aF (pC (.int 8)))
  am)
  am)
  (ai (bR (p2 cQ (pV 1) (pC (.int 1)))
  (ai (jc (qV 10 1001 (ae (qV 0 1006 (ae (bo (ae (pC (.str (ofString ""))) ak)) (ae (bo (ae (bo (ae (pC (.int 0)) ak)) ak)) (ae (bo (ae (pC (.int 0)) ak)) ak)))) (ae (pV 0) ak))))
  am)
  am)
  (ai (bR (p2 cQ (pV 1) (pC (.int 2)))
  (ai (jc (aw 43 (ae (qV 0 1006 (ae (bo (ae (pC (.str (ofString ""))) ak)) (ae (bo (ae (bo (ae (pC (.int 0)) ak)) ak)) (ae (bo (ae (pC (.int 0)) ak)) ak)))) (ae (pV 0) ak))))
  am)
  am)
  am)))
  (ai (aF (p1 mm (pC (.int 1))))
  am))
abbrev gL:PS:=
  (ai (aI 3 (aH (ae (pC (.str (ofString "mark"))) (ae (p2 aA (pV 2) (pC (.int 0))) ak))))
  (ai (dv (c9 (ae (p2 bS (aw 18 (ae (pV 0) (ae (pV 1) ak))) (pC (.int 5))) ak)) (bz 4)
  (ai (aI 5 (aw 18 (ae (pV 0) (ae (pV 1) ak))))
  (ai (aI 3 (p2 aA (bo (ae (aH (ae (pC (.str (ofString "next"))) (ae (pV 3) ak))) (ae (aH (ae (pC (.str (ofString "again"))) (ae (pV 3) ak))) (ae (aH (ae (pC (.str (ofString "till"))) (ae (pV 3) (ae (aH (ae (pC (.str (ofString "mark"))) (ae (p2 aA (pV 2) (pC (.int 1))) ak))) ak)))) ak)))) (p2 bS (pV 5) (pC (.int 3)))))
  am)))
  (ai (aF (pV 3))
  am)))
abbrev dG:PS:=
  (ai (aI 4 (aw 18 (ae (pV 0) (ae (pV 1) ak))))
  (ai (bR (p2 cQ (p2 bS (pV 4) (pC (.int 6))) (pC (.int 0)))
  (ai (aI 5 (p2 bS (p2 dO (pV 4) (pC (.int 6))) (p1 bJ (aw 21 (ae (pV 3) ak)))))
  (ai (aF (aH (ae (p2 aA (aw 67 (ae (pV 3) (ae (pV 5) (ae (aw 68 (ae (p2 dO (pV 4) (pC (.int 60))) (ae (pV 2) ak))) ak)))) (pC (.int 0))) (ae (pC (.bool true)) ak))))
  am))
  am)
  (ai (bR (p2 cQ (p2 bS (pV 4) (pC (.int 6))) (pC (.int 1)))
  (ai (aF (aH (ae (aw 71 (ae (pV 0) (ae (pV 1) (ae (pV 2) ak)))) (ae (pC (.bool false)) ak))))
  am)
  am)
  (ai (bR (p2 cQ (p2 bS (pV 4) (pC (.int 6))) (pC (.int 2)))
  (ai (dv (c9 (ae (p2 bS (p2 dO (pV 4) (pC (.int 6))) (pC (.int 4))) ak)) (bz 6)
  (ai (aI 3 (p2 aA (bo (ae (aH (ae (pC (.str (ofString "not"))) (ae (pV 3) ak))) (ae (aH (ae (pC (.str (ofString "and"))) (ae (aH (ae (pC (.str (ofString "yes"))) ak)) (ae (pV 3) ak)))) ak))) (p2 bS (p2 dO (p2 dO (pV 4) (pC (.int 24))) (p2 bx (pV 6) (pC (.int 1)))) (pC (.int 2)))))
  am))
  am)
  am)
  (ai (aF (aH (ae (pV 3) (ae (pC (.bool false)) ak))))
  am)))))
abbrev cw:PS:=
  (ai (aI 2 (aw 22 (ae (pV 1) ak)))
  (ai (bR (jp (dW (qE (p1 (eF .list) (pV 0)))) (jp (p2 iD (p1 bJ (pV 0)) (p1 bJ (pV 2))) cN))
  (ai (aF (pC (.bool false)))
  am)
  am)
  (ai (dv (c9 (ae (p1 bJ (pV 0)) ak)) (bz 3)
  (ai (bR (jp (p2 iz (p2 aA (pV 0) (pV 3)) (pV 2)) (jp (p2 iD (xb .list eG (pV 0) (p2 aA (pV 0) (pV 3))) (pV 3)) cN))
  (ai (aF (pC (.bool false)))
  am)
  am)
  (ai (bR (p2 iD (bv (bK (p3 cg (aw 21 (ae (p2 aA (pV 0) (pV 3)) ak)) (p1 dA (pC (.int 1))) mi)) (bz 4) (p2 lr (pV 4) (p3 cg (pV 0) (p1 dA (pV 3)) mi)) (pV 4)) (bo ak))
  (ai (aF (pC (.bool false)))
  am)
  am)
  am)))
  (ai (aF (pC (.bool true)))
  am))))
abbrev js:PS:=
  (ai (aI 5 (aw 5 (ae (pV 3) ak)))
  (ai (aI 6 (jv (sO (pV 4)) (pB (p2 ue (aw 69 (ae (pV 3) ak)) (pC (.int 6))))))
  (ai (bR (jp (dW (qE (p1 (eF .bool) (pV 5)))) (jp (p2 iD (pV 5) (pV 6)) cN))
  (ai (aF (pC (.bool false)))
  am)
  am)
  (ai (aI 7 (p1 mm (pC (.int 1))))
  (ai (bR (dW (qE (pV 6)))
  (ai (aI 7 (pC (.int 0)))
  am)
  (ai (bR (p2 vA (p1 bJ (aw 22 (ae (pV 3) ak))) (pC (.int 4)))
  (ai (aI 7 (pC (.int 1)))
  am)
  am)
  am))
  (ai (aI 8 (p2 dU (pC (.int 3)) (p2 iX (pC (.int 2)) (p1 oO (jv (pB (p2 ue (pV 7) (pC (.int 0)))) (pB (p2 vA (p1 bJ (aw 22 (ae (pV 3) ak))) (pC (.int 2)))))))))
  am))))))
abbrev t9:PS:=
  (ai (aI 2 (aw 19 (ae (aw 17 (ae (pV 0) (ae (pC (.int 0)) ak))) ak)))
  (ai (qy [3,4] (aw 72 (ae (pV 0) (ae (pV 1) (ae (pV 2) (ae (aw 20 (ae (pV 0) (ae (pV 1) (ae (pV 2) (ae (pC (.int 5)) ak))))) ak))))))
  js))
abbrev w9:PS:=
  (ai (bR (p2 iD (bv (c9 (ae (pV 8) ak)) (bz 11) bB (aw 50 (ae (pV 3) (ae (pV 11) ak)))) (p2 uX (bo (ae (pV 7) ak)) (pV 8)))
  (ai (aF (pC (.bool false)))
  am)
  am)
  am)
abbrev mf:PS:=
  (ai (bR (dW (qE (pV 6)))
  (ai (aF (pC (.bool true)))
  am)
  am)
  (ai (aI 9 (aw 500 (ae (pV 3) ak)))
  (ai (aI 10 (p1 gR (pV 9)))
  (ai (jb 9 dC (pC (.str (ofString "more"))))
  (ai (aF (jv (aw 73 (ae (pV 10) (ae (pV 3) ak))) (jv (pB (p2 cQ (aw 500 (ae (pV 3) ak)) (pV 10))) (pB (p2 cQ (pV 9) (p2 bx (pV 10) (bo (ae (pC (.str (ofString "more"))) ak))))))))
  am)))))
abbrev eA:PS:=
  (ai (jc (aw 7 (ae (pV 2) ak)))
  (ai (sM 10 0 (aw 500 (ae (pV 2) ak)))
  (ai (sM 10 1 (aw 13 (ae (pV 2) ak)))
  (ai (sM 10 2 (pV 1))
  (ai (sM 10 3 sP)
  (ai (sM 10 4 (bo ak))
  (ai (dv (bK (ua 0 1009 (pV 1) ak)) (bz 3)
  (ai (dv (bK (aw 8 (ae (e8 10 0) ak))) (bz 4)
  (ai (bR (dW (qE (aw 10 (ae (pV 2) (ae (ua 0 1007 (pV 1) (ae (pV 3) ak)) (ae (e8 10 0) (ae (pV 4) ak)))))))
  (ai (qX 10 4 (aH (ae (pV 3) (ae (pV 4) ak))))
  am)
  am)
  am))
  am))
  (ai (sM 10 5 (p1 bJ (pE 10 4)))
  (ai (sM 10 6 sP)
  (ai (jc (sN 10 1002 ak))
  am))))))))))
abbrev iW:PS:=
  (ai (aI 1 (p1 rE (pG 10 4 (bz 5) (aH (ae (pV 5) (ae (pC (.bool true)) ak))))))
  (ai (aI 2 (pC (.int 0)))
  (ai (gr 400 (p2 ue (pV 2) (p1 bJ (pE 10 4)))
  (ai (aI 3 (Cg 10 4 aA (pV 2)))
  (ai (qW 10 6 (pV 3) (sN 10 1003 (ae (pV 3) ak)))
  (ai (dv (bK (Cg 10 6 idxD (pV 3))) (bz 4)
  (ai (bR (p2 eC (pV 4) (pV 1))
  (ai (zo 1 er (pV 4) (pC (.bool true)))
  (ai (qX 10 4 (pV 4))
  am))
  am)
  am))
  (ai (aI 2 (p2 bx (pV 2) (pC (.int 1))))
  am)))))
  am)))
abbrev fU:PS:=
  (ai (aI 2 (aH (ae (ua 0 1007 (e8 10 2) (ae (p2 aA (pV 1) (pC (.int 0))) ak)) (ae (p2 aA (pV 1) (pC (.int 1))) ak))))
  (ai (aI 3 (bo ak))
  (ai (dv (bK (ua 0 1008 (e8 10 2) (ae (p2 aA (pV 1) (pC (.int 0))) ak))) (bz 4)
  (ai (jb 3 jH (bv (bK (sN 10 1004 (ae (pV 2) (ae (ua 0 1007 (e8 10 2) (ae (pV 4) ak)) ak)))) (bz 5) bB (aH (ae (pV 4) (ae (pV 5) ak)))))
  am))
  (ai (aF (pV 3))
  am))))
abbrev cj:PS:=
  (ai (bR (p2 eC (aH (ae (pV 1) (ae (pV 2) ak))) (pE 10 3))
  (ai (aI 3 (bv (bK (aw 8 (ae (e8 10 0) ak))) (bz 4) (qE (aw 12 (ae (e8 10 0) (ae (pV 1) (ae (aH (ae (pV 2) (ae (pV 4) ak))) ak))))) (pV 4)))
  (ai (qW 10 3 (aH (ae (pV 1) (ae (pV 2) ak))) (pV 3))
  am))
  am)
  (ai (aF (Cg 10 3 idxD (aH (ae (pV 1) (ae (pV 2) ak)))))
  am))
abbrev gP:PS:=
  (ai (aF (aw 14 (ae (p2 aA (e8 10 1) (pV 2)) (ae (ua 0 1007 (e8 10 2) (ae (p2 aA (pV 1) (pC (.int 0))) ak)) (ae (e8 10 0) (ae (p2 aA (pV 1) (pC (.int 1))) ak))))))
  am)
abbrev cO:PS:=
  (ai (bR (jp (dW (qE (p1 (eF .list) (pV 1)))) (jp (dW (mj DD DD (pC (.int 1)) (p1 bJ (pV 1)) (pC (.int 12)))) cN))
  (ai gu
  am)
  am)
  (ai (bR (dW (qE (p1 iH (bv (bK (pV 1)) (bz 5) bB (aw 1 (ae (pV 5) ak))))))
  (ai gu
  am)
  am)
  (ai (bR (jp (dW (qE (p1 (eF .list) (pV 2)))) (jp (p2 iD (p1 bJ (pV 2)) (p1 bJ (pV 1))) cN))
  (ai gu
  am)
  am)
  (ai (dv (bK (pV 2)) (bz 4)
  (ai (jc (aw 16 (ae (pV 4) (ae (p1 bJ (pV 1)) ak))))
  am))
  (ai (jc (aw 16 (ae (pV 3) (ae (p1 bJ (pV 1)) ak))))
  (ai (sM 0 0 (p1 gR (pV 1)))
  (ai (sM 0 1 (bv (bK (pV 2)) (bz 6) bB (p1 gR (pV 6))))
  (ai (sM 0 2 (p1 gR (pV 3)))
  am))))))))
abbrev eB:PS:=
  (ai (aF (p2 aA (e8 0 0) (pV 1)))
  am)
abbrev dN:PS:=
  (ai (aF (p1 gR (p2 aA (e8 0 1) (pV 1))))
  am)
abbrev dw:PS:=
  (ai (aF (p1 gR (e8 0 2)))
  am)
def rows:List (Nat×eP):=[(1,⟨1,1,j9⟩),
 (2,⟨1,0,iQ⟩),
 (3,⟨1,0,fQ⟩),
 (4,⟨2,1,gH⟩),
 (5,⟨1,0,gI⟩),
 (6,⟨1,1,gG⟩),
 (500,⟨1,4,iT⟩),
 (7,⟨1,0,cE⟩),
 (8,⟨1,4,eZ⟩),
 (9,⟨3,0,kb⟩),
 (10,⟨4,1,pD⟩),
 (11,⟨4,0,md⟩),
 (12,⟨3,1,kg⟩),
 (13,⟨1,1,eX⟩),
 (14,⟨4,0,mh⟩),
 (34,⟨1,7,fP⟩),
 (35,⟨1,4,uI⟩),
 (36,⟨1,7,gJ⟩),
 (37,⟨2,0,fR⟩),
 (38,⟨2,2,py⟩),
 (39,⟨3,5,j8⟩),
 (40,⟨2,1,gF⟩),
 (41,⟨2,6,j7⟩),
 (42,⟨2,3,gK⟩),
 (43,⟨2,7,jt⟩),
 (15,⟨2,0,iR⟩),
 (16,⟨2,2,eY⟩),
 (17,⟨2,0,ew⟩),
 (18,⟨2,1,gN⟩),
 (19,⟨1,9,fS⟩),
 (20,⟨4,5,gM⟩),
 (21,⟨1,2,iV⟩),
 (22,⟨1,4,fT⟩),
 (67,⟨3,2,iU⟩),
 (68,⟨2,2,cz⟩),
 (69,⟨1,1,gO⟩),
 (70,⟨1,1,gu⟩),
 (50,⟨2,1,ci⟩),
 (71,⟨3,3,gL⟩),
 (72,⟨4,3,dG⟩),
 (73,⟨2,3,cw⟩),
 (999,⟨1,11,gu⟩),
 (1001,⟨3,2,eA⟩),
 (1002,⟨1,5,iW⟩),
 (1003,⟨2,4,fU⟩),
 (1004,⟨3,2,cj⟩),
 (1005,⟨3,0,gP⟩),
 (1006,⟨4,3,cO⟩),
 (1007,⟨2,0,eB⟩),
 (1008,⟨2,0,dN⟩),
 (1009,⟨1,0,dw⟩)]
noncomputable def Ψ (f:Nat):Option eP:=(rows.find? fun r=>Nat.beq r.1 f).map (·.2)
end
end Mine.L01
end
section
set_option maxRecDepth 100000
set_option maxHeartbeats 4000000
namespace Mine.L01
noncomputable section
open PySem PySem.W PyProof.Rows
def be:List FI:=[(1,bN pw_uf020006_01 11,(ofString "is_mark"),true,[lo "thing"],[1],101010100000000),
 (2,bN pw_uf020006_01 12,(ofString "parts_of"),true,[lo "saying"],[],0),
 (3,bN pw_uf020006_01 13,(ofString "has_form"),true,[lo "thing"],[],0),
 (4,bN pw_uf020006_01 14,(ofString "is_within"),true,[lo "thing",ce "deep"],[2],200000000),
 (5,bN pw_uf020006_01 15,(ofString "is_saying"),true,[lo "thing"],[],0),
 (6,bN pw_uf020006_01 16,(ofString "own_bonds"),true,[lo "saying",lo "ahead"],[],0),
 (500,bN pw_uf020006_01 17,(ofString "bonds_in"),true,[lo "saying",ce "found",lo "part"],[3,4],4010000000003010000000100),
 (7,bN pw_uf020006_01 18,(ofString "need_saying"),true,[lo "saying"],[],0),
 (8,bN pw_uf020006_01 20,(ofString "all_guesses"),true,[lo "bonds",lo "found",lo "bond"],[3,4],40003000000000000),
 (9,bN pw_uf020006_01 21,(ofString "guessed"),true,[lo "bond",lo "bonds",lo "guess"],[],0),
 (10,bN pw_uf020006_01 22,(ofString "is_so"),true,[lo "saying",lo "mark",lo "bonds",lo "guess",lo "word"],[],0),
 (11,bN pw_uf020006_01 23,(ofString "wanted"),true,[lo "bond",lo "bonds",lo "now",lo "then"],[],0),
 (12,bN pw_uf020006_01 24,(ofString "goes_on"),true,[lo "bonds",lo "now",lo "then",lo "bond"],[],0),
 (13,bN pw_uf020006_01 25,(ofString "promises_of"),true,[lo "saying"],[1],100),
 (14,bN pw_uf020006_01 26,(ofString "is_met"),true,[lo "promise",lo "mark",lo "bonds",lo "guess"],[],0),
 (34,bN pw_uf020006_01 30,(ofString "left_order"),true,[lo "web",lo "found",lo "met",lo "start",lo "stack",lo "knot",lo "at",lo "other"],[],2000000050000000001000100010001000000010000010001000000040200010001000100000001000100),
 (35,bN pw_uf020006_01 31,(ofString "led_from"),true,[lo "web",lo "found",lo "knot",lo "other"],[4],0),
 (36,bN pw_uf020006_01 32,(ofString "clumps_of"),true,[lo "web",lo "backs",lo "met",lo "found",lo "start",lo "clump",lo "at",lo "other"],[],40000000100060000000000000100010001000001000002040000000100010001000000010001000000),
 (37,bN pw_uf020006_01 33,(ofString "goes_round"),true,[lo "web",lo "clump"],[],1000000),
 (38,bN pw_uf020006_01 34,(ofString "unmet"),true,[ce "web",lo "clump",ce "number"],[3],3000000),
 (39,bN pw_uf020006_01 35,(ofString "path_to"),true,[lo "web",lo "starts",lo "goals",lo "came",lo "waiting",lo "here",lo "other"],[7],1000100010001000000000400000300020400010000070100),
 (40,bN pw_uf020006_01 36,(ofString "path_back"),true,[lo "came",lo "knot",lo "found"],[],100000100000204000100),
 (41,bN pw_uf020006_01 37,(ofString "ring_in"),true,[ce "web",ce "clump",lo "found",ce "number",lo "goals",lo "behind"],[6,7],1000700020000000000060002000000000000),
 (42,bN pw_uf020006_01 38,(ofString "broken_by"),true,[lo "web",lo "clump",lo "way"],[3,4],4000003000000),
 (43,bN pw_uf020006_01 39,(ofString "judged"),true,[lo "machine",lo "saying",lo "web",ce "clumps",lo "rows",ce "at",lo "clump",ce "number"],[8],500000000080100000000000000000000000000010000000000),
 (15,bN pw_uf020006_01 42,(ofString "is_place"),true,[lo "thing",lo "many"],[],0),
 (16,bN pw_uf020006_01 43,(ofString "need_places"),true,[lo "thing",lo "many",lo "at",lo "place"],[],0),
 (17,bN pw_uf020006_01 46,(ofString "_law_cell_at"),true,[lo "_law_script",lo "_law_k"],[],0),
 (18,bN pw_uf020006_01 47,(ofString "_law_draw"),true,[lo "_law_script",lo "_law_spot",lo "_law_k"],[],0),
 (19,bN pw_uf020006_01 48,(ofString "_law_names"),true,[ce "_law_cell",ce "_law_letters",ce "_law_rest",ce "_law_size",lo "_law_at",lo "_law_found",lo "_law_k",lo "_law_letter"],[8,9],600010000000000000100000000000000090000000000000800000000),
 (20,bN pw_uf020006_01 49,(ofString "_law_made"),true,[lo "_law_script",lo "_law_spot",lo "_law_names_here",lo "_law_deep_here",lo "_law_cell",lo "_law_more",lo "_law_kinds",lo "_law_kind",lo "_law_one"],[],0),
 (21,bN pw_uf020006_01 50,(ofString "_law_all"),true,[lo "_law_saying",lo "_law_found",lo "_law_part"],[],0),
 (22,bN pw_uf020006_01 51,(ofString "_law_bonds"),true,[lo "_law_saying",ce "_law_found",lo "_law_one",lo "_law_more"],[4],40000000000000000000000000000000000000000000000),
 (67,bN pw_uf020006_01 53,(ofString "_law_put"),true,[lo "_law_saying",lo "_law_at",lo "_law_other",lo "_law_made_here",lo "_law_part"],[],1000000010000000001000000000000),
 (68,bN pw_uf020006_01 54,(ofString "_law_no_saying"),true,[lo "_law_cell",lo "_law_names_here",lo "_law_good",lo "_law_some"],[],0),
 (69,bN pw_uf020006_01 55,(ofString "_law_deep"),true,[lo "_law_saying"],[1],100),
 (70,bN pw_uf020006_01 56,(ofString "_law_word"),true,[lo "_law_e",lo "_law_found"],[],0),
 (50,bN pw_uf020006_01 57,(ofString "_law_told"),true,[lo "_law_thing",lo "_law_way",lo "_law_e"],[],0),
 (71,bN pw_uf020006_01 58,(ofString "_law_many"),true,[lo "_law_script",lo "_law_spot",lo "_law_names_here",lo "_law_saying",lo "_law_k",lo "_law_cell"],[],0),
 (72,bN pw_uf020006_01 59,(ofString "_law_spoilt"),true,[lo "_law_script",lo "_law_spot",lo "_law_names_here",lo "_law_saying",lo "_law_cell",lo "_law_at",lo "_law_k"],[],0),
 (73,bN pw_uf020006_01 60,(ofString "_law_row_right"),true,[ce "_law_found",lo "_law_saying",lo "_law_due",ce "_law_k"],[4],40000000000000000000000000000),
 (999,bN pw_uf020006_01 61,(ofString "law"),true,[lo "_law_script",lo "_law_spot",lo "_law_names_here",ce "_law_saying",lo "_law_is_none",lo "_law_found",lo "_law_due",lo "_law_word_here",lo "_law_ways",lo "_law_told_here",lo "_law_kept"],[11],0),
 (1001,pO pw_uf020006_01 28 0,(ofString "__init__"),false,[lo "self",lo "machine",lo "saying",lo "place",lo "guess"],[],100000000000000000000000000),
 (1002,pO pw_uf020006_01 28 1,(ofString "spin"),false,[lo "self",lo "met",lo "at",lo "knot",lo "other"],[5],10001000100010000000000000204000000050100),
 (1003,pO pw_uf020006_01 28 2,(ofString "led_to"),false,[lo "self",lo "knot",lo "now",lo "found",ce "place"],[5],40000050100000000010000000000),
 (1004,pO pw_uf020006_01 28 3,(ofString "guesses_behind"),false,[ce "self",ce "now",ce "mark",lo "some"],[4],10000000000040002000100),
 (1005,pO pw_uf020006_01 28 4,(ofString "meets"),false,[lo "self",lo "knot",lo "number"],[],0),
 (1006,pO pw_uf020006_01 44 0,(ofString "__init__"),false,[lo "self",lo "marks",lo "ways",lo "begins",lo "row"],[5,6],60000000000000000000000000000000500000000),
 (1007,pO pw_uf020006_01 44 1,(ofString "mark"),false,[lo "self",lo "place"],[],0),
 (1008,pO pw_uf020006_01 44 2,(ofString "leads"),false,[lo "self",lo "place"],[],0),
 (1009,pO pw_uf020006_01 44 3,(ofString "starts"),false,[lo "self"],[],0)]
noncomputable def n8:LT:=([((ofString "is_mark"),1),((ofString "parts_of"),2),((ofString "has_form"),3),((ofString "is_within"),4),((ofString "is_saying"),5),((ofString "own_bonds"),6),((ofString "bonds_in"),500),((ofString "need_saying"),7),((ofString "all_guesses"),8),((ofString "guessed"),9),((ofString "is_so"),10),((ofString "wanted"),11),((ofString "goes_on"),12),((ofString "promises_of"),13),((ofString "is_met"),14),((ofString "left_order"),34),((ofString "led_from"),35),((ofString "clumps_of"),36),((ofString "goes_round"),37),((ofString "unmet"),38),((ofString "path_to"),39),((ofString "path_back"),40),((ofString "ring_in"),41),((ofString "broken_by"),42),((ofString "judged"),43),((ofString "is_place"),15),((ofString "need_places"),16),((ofString "_law_cell_at"),17),((ofString "_law_draw"),18),((ofString "_law_names"),19),((ofString "_law_made"),20),((ofString "_law_all"),21),((ofString "_law_bonds"),22),((ofString "_law_put"),67),((ofString "_law_no_saying"),68),((ofString "_law_deep"),69),((ofString "_law_word"),70),((ofString "_law_told"),50),((ofString "_law_many"),71),((ofString "_law_spoilt"),72),((ofString "_law_row_right"),73)],
 [((ofString "__init__"),1006),((ofString "mark"),1007),((ofString "leads"),1008),((ofString "starts"),1009)],[((ofString "__init__"),1001),((ofString "spin"),1002),((ofString "led_to"),1003),((ofString "guesses_behind"),1004),((ofString "meets"),1005)],
 [((ofString "LETTERS"),.str (ofString "abcdefghijklmnopqrstuvwxyz")),((ofString "MOST_BONDS"),.int 4),((ofString "MOST_DEEP"),.int 5),((ofString "MOST_LETTERS"),.int 6),((ofString "MOST_PLACES"),.int 12)])
noncomputable def ks:List Nat:=rows.map (·.1)
theorem yq:tH q Ψ ks be n8:=⟨by kernel_rfl,fun _ _ _ _ _=>by kernel_rfl,fun _ _ _ _ _ _=>by kernel_rfl,fun _ _ _ _ _ _ _=>by kernel_rfl,fun _ _ _ _ _ _ _ _=>by kernel_rfl,fun _ _ _ _ _ _ _ _ _=>by kernel_rfl,by kernel_rfl,fun b=>by cases b<;>kernel_rfl,by kernel_rfl,fun b=>by cases b<;>kernel_rfl,fun b=>by cases b<;>kernel_rfl,by kernel_rfl⟩
theorem zB (P:Pg)(D:eQ P n8):ks.map (FH D be)=ks.map (F2 Ψ):=by kernel_rfl
theorem Ab (P:Pg)(D:eQ P n8)(F:eP)(e:Ψ 35=some F):Dp P be 35 F.body:=by
 have h:F.body=uI:=congrArg eP.body (Option.some.inj e.symm)
 rw [h]
 exact ⟨⟨[],[4],false⟩,Cv (D.o false) (by decide+kernel) rfl rfl rfl rfl rfl rfl rfl (.inl rfl) (.inl rfl) (.inl rfl) (by decide+kernel) (by decide+kernel) rf rfl rf⟩
theorem Cd (P:Pg)(D:eQ P n8):(Dz D 60 ⟨su be 999,fq be 999⟩ ⟨[],jf be 999,false⟩ false ((qv be 999).tail.take 8) 1000000).map (fun r=>(r.1.1,r.1.2.1))=some (some ⟨[],jf be 999,false⟩,t9):=by kernel_rfl
theorem BL (P:Pg)(D:eQ P n8):(Dz D 60 ⟨su be 999,fq be 999⟩ ⟨[],jf be 999,false⟩ false (((qv be 999).tail.drop 8).take 1) 1100).map (fun r=>(r.1.1,r.1.2.1))=some (some ⟨[],jf be 999,false⟩,w9):=by kernel_rfl
theorem zI (P:Pg)(D:eQ P n8):(Dz D 60 ⟨su be 999,fq be 999⟩ ⟨[],jf be 999,false⟩ false ((qv be 999).tail.drop 9) 10000000100000000).map (fun r=>r.1.2.1)=some mf:=by kernel_rfl
theorem AE {mean:ExcName->Option Value}{mg mb:Str->Option Value}{h:Heap}(T:Top q (looseW q []) mean mg mb h)(P:Pg):∀p∈n8.2.2.2,∃u,mg p.1=some u/\∀g h,Rp P g h p.2 u:=all_cons (vL T (by kernel_rfl) (by decide+kernel)) (all_cons (iq T (by kernel_rfl)) (all_cons (iq T (by kernel_rfl)) (all_cons (iq T (by kernel_rfl)) (all_cons (iq T (by kernel_rfl)) (fun _ h=>nomatch h)))))
theorem FO:rw_uf020006_01.wellSaid=true:=by kernel_rfl
theorem Ha:(chainsOk q&&opensWell rw_uf020006_01.row.prog&&(frees rw_uf020006_01.row.toRowW&&rw_uf020006_01.row.within.isEmpty))=true:=by kernel_rfl
end
end Mine.L01
end
section
set_option maxRecDepth 100000
set_option maxHeartbeats 4000000
namespace Mine.L01
noncomputable section
open PySem PySem.W PyProof.Rows
structure Dv (P:Pg):Prop where
 G:fJ P
 D:eQ P n8
 ψ:P.Ψ=Ψ
 gl:P.gl=pX be
 fk:∀f F,Ψ f=some F->wf P f F.np (fq be f) (iy be Ψ f) (qv be f) (jf be f)
 sc:∀f F,Ψ f=some F->(P.fd f).scope=su be f/\(P.fd f).name=lj be f
 call:∀n,fm P n
 K:∃K:Frag,K.In P.h₀/\AJ K P.mg=true
 o:∀x∈ofString "WalkError"::gW,OwnCls x (n4 P.mg x) yM "ValueError.__new__" P.mg P.h₀
noncomputable def Bo (b:Bool):Str:=bif b then ofString "TooMany" else ofString "BadSaying"
noncomputable def Bp (b:Bool):Int:=bif b then 1 else 0
def tK (t:T)(b:Bool):Prop:=∀m,30<=m->∀J,af Ψ m 5 [t] J=.ret (.bool b) J/\(b=true->∃bs,af Ψ m 500 [t] J=.ret (.lst bs) J/\4 < bs.length)
section
variable {P:Pg} (HHH:Dv P) {b:Bool} {n:Nat} {t:T} {J:Sg}
include HHH
theorem xr (hb:tK t b)(hn:30<=n):bZ P (n+1) 7 [t] J (n4 P.mg (Bo b)):=by
 have K:=HHH.fk 7 _ rfl
 have h:=hb n hn J
 have e:af P.Ψ n=af Ψ n:=by rw [HHH.ψ]
 cases b with
 |false=>
  refine xt HHH.G (by rw [HHH.ψ];rfl) K (fun k _=>HHH.call k) (by rw [(HHH.sc 7 _ rfl).1];exact jj (D:=HHH.D) (n:=20) (s:=0) (by kernel_rfl)) ⟨HHH.o _ (.tail _ (.head _)),?_,by decide+kernel⟩ (by rw [e];exact h.1)
  rw [(HHH.sc 7 _ rfl).1];decide+kernel
 |true=>
  obtain ⟨bs,h1,h2⟩:=h.2 rfl
  refine vd HHH.G (by rw [HHH.ψ];rfl) K (fun k _=>HHH.call k) (by rw [(HHH.sc 7 _ rfl).1];exact jj (D:=HHH.D) (n:=20) (s:=0) (by kernel_rfl)) (by rw [(HHH.sc 7 _ rfl).1];exact jj (D:=HHH.D) (n:=20) (s:=0) (by kernel_rfl)) ⟨HHH.o _ (.tail _ (.tail _ (.head _))),?_,by decide+kernel⟩ (by rw [e];exact h.1) (by rw [e];exact h1) h2
  rw [(HHH.sc 7 _ rfl).1];decide+kernel
theorem AZ {mt:T}(hb:tK t b)(hn:30<=n):bZ P (n+2) 1001 [.self,mt,t] J (n4 P.mg (Bo b)):=
 uL (F7:=⟨1,0,cE⟩) HHH.G (by rw [HHH.ψ];rfl) (HHH.fk 1001 _ rfl) (fun k _=>HHH.call k) (by rw [HHH.ψ];rfl) ⟨by rw [HHH.gl];rfl,(HHH.sc 7 _ rfl).2⟩ (by rw [(HHH.sc 1001 _ rfl).1];decide+kernel) (by rw [(HHH.sc 1001 _ rfl).1];exact qG (D:=HHH.D) (n:=20) (s:=0) (by kernel_rfl)) (xr HHH hb hn)
theorem xW {mt:T}(hb:tK t b)(hn:30<=n):bZ P (n+3) 43 [mt,t] J (n4 P.mg (Bo b)):=
 pR HHH.G (by rw [HHH.ψ];rfl) (HHH.fk 43 _ rfl) (fun k _=>HHH.call k) (HHH.D.o false) (.head _) (HHH.D.g false) (by rw [(HHH.sc 43 _ rfl).1];decide+kernel) (fun _=>rfl) (by rw [(HHH.sc 43 _ rfl).1];decide+kernel) (by rw [(HHH.sc 43 _ rfl).1];exact qG (D:=HHH.D) (n:=20) (s:=0) (by kernel_rfl)) (AZ HHH hb hn)
theorem xe {x:Str}(hx:x∈ofString "WalkError"::gW):P.mg x=some (.ref (n4 P.mg x)):=(HHH.o x hx).bound
theorem CL:∃Kf:Frag,Kf.In P.h₀/\exmOne Kf (.ref (n4 P.mg (Bo b))) (.ref (n4 P.mg (ofString "WalkError")))=some true/\y6 P (n4 P.mg (Bo b)) (Bp b):=by
 obtain ⟨Kf,h1,h2⟩:=HHH.K
 have hx:CS Kf P.mg (Bo b) (bif b then [false,true,false,false] else [true,false,false,false])=true:=by
  cases b with
  |false=>exact (kR h2).1
  |true=>exact (kR h2).2
 obtain ⟨h3,hx⟩:=kR hx
 obtain ⟨h4,hx⟩:=kR hx
 obtain ⟨h5,hx⟩:=kR hx
 have h6:=eq_of_beq hx
 have m:=fun x hx=>xe HHH (x:=x) (.tail _ hx)
 refine ⟨Kf,h1,eq_of_beq h4,fun A g J s e R hd hu w I ze hR=>?_⟩
 have wk:∀b1 b2 b3 b4,gW.map (fun y=>kitOne Kf (.ref (n4 P.mg (Bo b))) (.ref (n4 P.mg y)))=[b1,b2,b3,b4].map some->tf (.lst [.bool b1,.bool b2,.bool b3,.bool b4]) (.bool true)=some (.int 1)->eG (.lst [.bool b1,.bool b2,.bool b3,.bool b4]) (.bool true)=some (.int (Bp b))->codeAny P.M A (.call (.ref (P.fnA 70)) ⟨[.ref e],[]⟩) R s:=fun b1 b2 b3 b4 q q1 q2=>by
  simp only [gW,map_cons,map_nil,List.cons.injEq,and_true] at q
  obtain ⟨k1,k2,k3,k4⟩:=q
  exact zq (P:=P) (F:=⟨1,1,gu⟩) HHH.G (by rw [HHH.ψ];rfl) (HHH.fk 70 _ rfl) (y0:=ofString "_law_e") rfl rfl (by decide+kernel) (by rw [(HHH.sc 70 _ rfl).1];decide+kernel) (by decide+kernel) (by decide+kernel) (by decide+kernel) (by decide+kernel) (by rw [(HHH.sc 70 _ rfl).1];decide+kernel) (by rw [(HHH.sc 70 _ rfl).1];decide+kernel)
   (m _ (.head _)) (m _ (.tail _ (.head _))) (m _ (.tail _ (.tail _ (.head _)))) (m _ (.tail _ (.tail _ (.tail _ (.head _))))) (Aw h3) h1 k1 k2 k3 k4 (eq_of_beq h5) q1 q2 hd hu w I ze hR
 cases b with
 |false=>exact wk true false false false h6 (by kernel_rfl) (by kernel_rfl)
 |true=>exact wk false true false false h6 (by kernel_rfl) (by kernel_rfl)
omit HHH in
theorem En {J:Sg}{k:PK T}{ts:List T}{i:Int}(h:J.self=none){o:du}(e:o=.ret .none ⟨i,some (0,ts)⟩)(hi:i=J.spot):og 0 o k=k (.obj 0 ts) J:=by
 subst e;subst hi
 obtain ⟨a,b⟩:=J
 cases h
 with_unfolding_all rfl
@[reducible] def xa:PE:=qV 0 1006 (ae (bo (ae (pC (.str (ofString ""))) ak)) (ae (bo (ae (bo (ae (pC (.int 0)) ak)) ak)) (ae (bo (ae (pC (.int 0)) ak)) ak)))
noncomputable def F4:T:=.obj 0 [.lst [.str (ofString "")],.lst [.lst [.int 0]],.lst [.int 0]]
omit HHH in
theorem Cq (m:Nat)(i:Int):af Ψ (m+10) 1006 [.self,.lst [.str (ofString "")],.lst [.lst [.int 0]],.lst [.int 0]] ⟨i,some (0,[])⟩=.ret .none ⟨i,some (0,[.lst [.str (ofString "")],.lst [.lst [.int 0]],.lst [.int 0]])⟩:=by kernel_rfl
theorem xG {V:aY}(hσ:J.self=none)(hn:30<=n)(k:PK T):xa (P.cx n) V J k=k F4 J:=by
 obtain ⟨m,rfl⟩:∃m,n=m+10:=⟨n - 10,by omega⟩
 obtain ⟨i,q⟩:=J
 cases hσ
 refine En rfl ?_ rfl
 show af P.Ψ (m+10) 1006 _ _=_
 rw [HHH.ψ]
 exact Cq m i
theorem BN (hσ:J.self=none)(hb:tK t b)(hn:30<=n):∀j∈[0,1,2],i6 P (n+4) t j J (Bp b):=by
 obtain ⟨Kf,h1,h2,h3⟩:=CL HHH (b:=b)
 have on:∀{j},sr P (n+3) ⟨(P.fd 50).scope,fq be 50⟩ ⟨[],jf be 50,false⟩ (frame [t,.int j] 1) J (n4 P.mg (Bo b)) _->i6 P (n+4) t j J (Bp b):=fun hbd=>
  zw (F:=⟨2,1,ci⟩) (F70:=⟨1,1,gu⟩) HHH.G (by rw [HHH.ψ];rfl) (HHH.fk 50 _ rfl) (fun k _=>HHH.call k) (by rw [HHH.ψ];rfl) ⟨by rw [HHH.gl];rfl,(HHH.sc 70 _ rfl).2⟩ (by rw [(HHH.sc 50 _ rfl).1];decide+kernel) (xe HHH (.head _)) rfl rfl (by decide+kernel) h1 h2 h3 hσ hbd
 have hA:∀{B:bn} {C:Ct} {e:Expr} {q:PT},bI P B C e q->bI P B C e q:=fun h=>h
 intro j hj
 rcases an hj with rfl |hj
 .exact on (BR (F7:=⟨1,0,cE⟩) (by rw [HHH.ψ];rfl) ⟨by rw [HHH.gl];rfl,(HHH.sc 7 _ rfl).2⟩ (by rw [(HHH.sc 50 _ rfl).1];decide+kernel) rfl (by rw [(HHH.sc 50 _ rfl).1];exact jj (D:=HHH.D) (n:=20) (s:=0) (by kernel_rfl)) (by rw [(HHH.sc 50 _ rfl).1];exact qG (D:=HHH.D) (n:=20) (s:=0) (by kernel_rfl)) (xr HHH hb (Nat.le_add_right_of_le hn)))
 rcases an hj with rfl |hj
 .exact on (BQ (pm:=xa) (mt:=F4) (HHH.D.o false) (.head _) (HHH.D.g false) (by rw [(HHH.sc 50 _ rfl).1];decide+kernel) (fun _=>rfl) (by rw [(HHH.sc 50 _ rfl).1];exact jj (D:=HHH.D) (n:=20) (s:=0) (by kernel_rfl)) (by rw [(HHH.sc 50 _ rfl).1];exact jj (D:=HHH.D) (n:=20) (s:=0) (by kernel_rfl)) (by rw [(HHH.sc 50 _ rfl).1];exact qG (D:=HHH.D) (n:=20) (s:=0) (by kernel_rfl)) (xG HHH hσ (Nat.le_add_right_of_le hn)) (AZ HHH hb (Nat.le_add_right_of_le hn)))
 .cases aa hj
  exact on (BP (F43:=⟨2,7,jt⟩) (pm:=xa) (mt:=F4) (by rw [HHH.ψ];rfl) ⟨by rw [HHH.gl];rfl,(HHH.sc 43 _ rfl).2⟩ (by rw [(HHH.sc 50 _ rfl).1];decide+kernel) (by rw [(HHH.sc 50 _ rfl).1];exact jj (D:=HHH.D) (n:=20) (s:=0) (by kernel_rfl)) (by rw [(HHH.sc 50 _ rfl).1];exact jj (D:=HHH.D) (n:=20) (s:=0) (by kernel_rfl)) (by rw [(HHH.sc 50 _ rfl).1];exact jj (D:=HHH.D) (n:=20) (s:=0) (by kernel_rfl)) (by rw [(HHH.sc 50 _ rfl).1];exact qG (D:=HHH.D) (n:=20) (s:=0) (by kernel_rfl)) (xG HHH hσ (Nat.le_add_right_of_le hn)) (xW HHH hb hn))
end
structure Dq (n:Nat) (ns:List Int) (V:aY) (J:Sg):Prop where
 pre:t9 ⟨af Ψ n⟩ (frame [.scr ns,.spot] 10) ⟨1,none⟩ .fall=.fall V J
 tst:w9 ⟨af Ψ n⟩ V J .fall=.fall V J\/(J.self=none/\∃x0 x1 x2 x4 x5 x6 t b,tK t b/\V=[x0,x1,x2,some t,x4,x5,x6,some (.int (Bp b)),some (.int 3),none,none,none])
 post:∃J',mf ⟨af Ψ n⟩ V J (fun _ J=>.ret .none J)=.ret (.bool true) J'
theorem zx (P:Pg)(D:eQ P n8):(A4 D (DA D 20).1 ⟨su be 999,fq be 999⟩ ⟨[],jf be 999,false⟩ ((((qv be 999).tail.drop 8)[0]?).getD (.Pass default)) 11).map (·.1.1)=some (11,c9 (ae (pV 8) ak),ae (pV 3) (ae (pV 11) ak),p2 uX (bo (ae (pV 7) ak)) (pV 8)):=by kernel_rfl
theorem zv {P:Pg}(HHH:Dv P){n:Nat}{t:T}{b:Bool}{x0 x1 x2 x4 x5 x6:Option T}{J:Sg}(hn:30<=n)(hσ:J.self=none)(hb:tK t b){A:Around}{env:Env}{g:Gh}{s:Shared}{Q:Flow->Shared->Prop}{E:Value->Shared->Prop}(hfr:A.frames=some [env])(hf:env.frame=some env.locals)
  (X:At P ⟨(P.fd 999).scope,fq be 999⟩ ⟨[],jf be 999,false⟩ (n+4) A env g [x0,x1,x2,some t,x4,x5,x6,some (.int (Bp b)),some (.int 3),none,none,none] J s)(ok:∀g' s',(∃h tk,s'={s with heap:=h,toks:=tk})->At P ⟨(P.fd 999).scope,fq be 999⟩ ⟨[],jf be 999,false⟩ (n+4) A env g' [x0,x1,x2,some t,x4,x5,x6,some (.int (Bp b)),some (.int 3),none,none,none] J s'->Q .next s'):
  wpAny P.M A (execs (((qv be 999).tail.drop 8).take 1) env) Q E s:=by
 rw [(HHH.sc 999 _ rfl).1] at X ok
 refine wpAny_execs_cons (wO (zx P HHH.D) (n+4) A env g _ J s t (Bp b) [0,1,2] _ E (fun v=>rfl) hfr hf hσ (BN HHH hσ hb hn) X (by with_unfolding_all rfl) (by cases b<;>with_unfolding_all rfl) (by cases b<;>kernel_rfl) fun g' s' e X'=>wpAny_execs_nil (ok g' s' e X'))
theorem zO {mean:ExcName->Option Value}{mg mb:Str->Option Value}{h:Heap}{x:Str}{newId:String}{bm:List Value}(T:Top q (looseW q []) mean mg mb h)(hs:specOf q x=some (newId,bm)):OwnCls x (n4 mg x) bm newId mg h:=by
 obtain ⟨C,O,_⟩:=T.ownAt hs
 have:=O.own
 rw [Di this.bound]
 exact this
theorem DP:∀x∈ofString "WalkError"::gW,specOf q x=some ("ValueError.__new__",yM):=fun x hx=>zg (l:=ofString "WalkError"::gW) (f:=specOf q) (g:=fun _=>some ("ValueError.__new__",yM)) (by kernel_rfl) hx
theorem Gk (f:Nat)(F:eP)(h:DQ f=true)(e:Ψ f=some F):F.body=gu:=by
 rcases Bool.or_eq_true_iff.mp h with h |h
 .cases eq_of_beq_eq_true h;exact (congrArg eP.body (Option.some.inj e)).symm
 .cases eq_of_beq_eq_true h;exact (congrArg eP.body (Option.some.inj e)).symm
theorem vi {pg:Program}{w:World}{mean:ExcName->Option Value}{mg mb:Str->Option Value}{A:Around}{s:Shared}{fa l:Addr}{vs:List Value}{ns:List Int}{n:Nat}{V:aY}{J:Sg}(T:Top q (looseW q []) mean mg mb s.heap)(TE:TopE q (looseW q []) mg s.heap)(hK:∃K:Frag,K.In s.heap/\AJ K mg=true)
  (room:lf A (n+5))(hfr:A.frames=some [])(hmg:mg (lj be 999)=some (.ref fa))(hl:s.heap.IsList l vs.toArray)(hi:IntsAre vs ns)(hn:ns.length<=63)(h30:30<=n)(R:Dq (n+4) ns V J):
  wpAny (model pg w) A (PySem.call (.ref fa) [.ref l]) (fun v s'=>v=.bool true/\∃h' tk,s'={s with heap:=h',toks:=tk}/\∀a o,s.heap.get? a=some o->h'.get? a=some o) (fun _ _=>False) s:=by
 have hk:∀f F,Ψ f=some F->f∈ks:=fun f F e=>CB e
 obtain ⟨H,K⟩:=G5 (p:=Dw q mg s.heap) fun b=>by
  obtain ⟨c,C,N,mN,h1,h2,h3⟩:=C6 (x:=EV b) TE (by have:=congrArg Option.isSome (yq.a b);rw [Option.isSome_map] at this;exact this)
  exact ⟨(c,C,N,mN),h1,h2,h3⟩
 obtain ⟨fA,fD,hF⟩:=BZ (fun f F e=>yq.fnAt T K (hk f F e)) (f₀:=999) rfl
 let P:Pg:=⟨pg,w,s.heap,fun c=>(H (Nat.beq c 0)).2.1,Ψ,fA,fD,pX be,mg,mb⟩
 have D:eQ P n8:=yq.laid (P:=P) K (fun b=>by cases b<;>rfl) rfl (AE T P) hF
 have fb:∀f F,Ψ f=some F->EA (su be f) (fq be f) (iy be Ψ f) (jf be f) F.np=true:=fun f F e=>by have:=(kR (aB yq.p f (hk f F e))).2;unfold Cj at this;rw [e] at this;exact this
 have hok:∀f F,P.Ψ f=some F->vZ P f F:=fun f F e=>Ar (hF f F e) (fb f F e) (FM (zB P D) (Ab P D) Gk (hk f F e) e)
 have G:fJ P:=Ao T yq.n fun f F e=>⟨_,_,_,_,_,hF f F e⟩
 have HHH:Dv P:=⟨G,D,rfl,rfl,fun f F e=>yp (hF f F e) (fb f F e),fun f F e=>⟨(hF f F e).sc,(hF f F e).name⟩,fun n=>qk G hok n n (le_refl n),hK,fun x hx=>zO T (DP x hx)⟩
 have hfa:fA 999=fa:=Value.ref.inj (Option.some.inj (((hF 999 _ rfl).ns rfl).symm.trans hmg))
 subst hfa
 obtain ⟨J',hpost⟩:=R.post
 refine vk (P:=P) G hok (m:=10) (pre:=(qv be 999).tail.take 8) (mid:=((qv be 999).tail.drop 8).take 1) (post:=(qv be 999).tail.drop 9) rfl (HHH.fk 999 _ rfl) rfl rfl (.inl rfl) (by rw [(HHH.sc 999 _ rfl).1];decide+kernel) (by decide+kernel) (by rw [(HHH.sc 999 _ rfl).1];exact wq (Cd P D)) (by rw [(HHH.sc 999 _ rfl).1];exact A0 (zI P D)) rfl room hfr hl hi hn R.pre (fun A env g s Q E hfr hf X ok=>?_) hpost
 rcases R.tst with h | ⟨hσ,x0,x1,x2,x4,x5,x6,t,b,hb,rfl⟩
 .rw [(HHH.sc 999 _ rfl).1] at X ok
  exact cA.run (wq (BL P D)) X h fun s' g' e X'=>ok g' s' e X'
 .exact zv HHH h30 hσ hb hfr hf X ok
end
end Mine.L01
end
section
set_option tactic.hygienic false
namespace Mine.Ltl
noncomputable section
open PySem
inductive Sy where
 |mark (x:Str)
 |yes
 |not (a:Sy)
 |and (a c:Sy)
 |or (a c:Sy)
 |next (a:Sy)
 |till (a c:Sy)
 |always (a:Sy)
 |again (a:Sy)
noncomputable instance:DecidableEq Sy:=fun a b=>Classical.propDecidable (a=b)
noncomputable def nx (n b i:Nat):Nat:=if i+1=n then b else i+1
def U (n b:Nat)(p q:Nat->Bool):Nat->Nat->Bool
 | 0,_=>false
 |k+1,i=>q i||(p i&&U n b p q k (nx n b i))
def it (n b:Nat):Nat->Nat->Nat
 | 0,i=>i
 |t+1,i=>it n b t (nx n b i)
def FN (p q:Nat->Bool):List Nat->Bool
 | []=>false
 |k::m=>q k||(p k&&FN p q m)
noncomputable def bU:Sy->List Sy
 |.next a=>[.next a]
 |.till a c=>[.till a c]
 |.always a=>[.always a]
 |.again a=>[.till .yes a,.always (.till .yes a)]
 |_=>[]
noncomputable def bT:Sy->List Sy
 |.mark _=>[]
 |.yes=>[]
 |.not a=>[a]
 |.and a c=>[a,c]
 |.or a c=>[a,c]
 |.next a=>[a]
 |.till a c=>[a,c]
 |.always a=>[a]
 |.again a=>[a]
noncomputable def ext (f xs:List Sy):List Sy:=f++xs.filter fun x=>!f.contains x
def av:Sy->List Sy
 |.mark x=>ext [] (bU (.mark x))
 |.yes=>ext [] (bU .yes)
 |.not a=>ext (ext [] (av a)) (bU (.not a))
 |.and a c=>ext (ext (ext [] (av a)) (av c)) (bU (.and a c))
 |.or a c=>ext (ext (ext [] (av a)) (av c)) (bU (.or a c))
 |.next a=>ext (ext [] (av a)) (bU (.next a))
 |.till a c=>ext (ext (ext [] (av a)) (av c)) (bU (.till a c))
 |.always a=>ext (ext [] (av a)) (bU (.always a))
 |.again a=>ext (ext [] (av a)) (bU (.again a))
noncomputable def all:Sy->List Sy
 |.mark x=>[.mark x]
 |.yes=>[.yes]
 |.not a=>.not a::all a
 |.and a c=>.and a c::(all a++all c)
 |.or a c=>.or a c::(all a++all c)
 |.next a=>.next a::all a
 |.till a c=>.till a c::(all a++all c)
 |.always a=>.always a::all a
 |.again a=>.again a::all a
def lb (s:Sy):List Sy:=(all s).foldl (fun f t=>ext f (bU t)) []
theorem fW {f xs:List Sy}{x:Sy}:x∈ext f xs↔x∈f\/x∈xs:=by
 simp only [ext,mem_append,List.mem_filter,not_eq_true',List.contains_eq_mem,decide_eq_false_iff_not]
 constructor
 .rintro (h |h)
  .exact .inl h
  .exact .inr h.1
 .rintro (h |h)
  .exact .inl h
  .by_cases q:x∈f
   .exact .inl q
   .exact .inr ⟨h,q⟩
theorem aW {f xs:List Sy}(h1:f.Nodup)(h2:xs.Nodup):(ext f xs).Nodup:=by
 rw [ext,nodup_append]
 refine ⟨h1,h2.filter _,fun a ha b hb e=>?_⟩
 subst e
 simp [ha] at hb
theorem b0 (s:Sy):(bU s).Nodup:=by
 cases s with
 |again a=>exact List.nodup_cons.mpr ⟨fun h=>(nomatch aa h),pairwise_singleton _ _⟩
 |next |till |always=>exact pairwise_singleton _ _
 |_=>exact .nil
theorem gy (s:Sy):s∈all s:=by cases s<;>exact .head _
theorem bh:∀s:Sy,(av s).Nodup
 |.mark x=>aW .nil (b0 _)
 |.yes=>aW .nil (b0 _)
 |.not a=>aW (aW .nil (bh a)) (b0 _)
 |.and a c=>aW (aW (aW .nil (bh a)) (bh c)) (b0 _)
 |.or a c=>aW (aW (aW .nil (bh a)) (bh c)) (b0 _)
 |.next a=>aW (aW .nil (bh a)) (b0 _)
 |.till a c=>aW (aW (aW .nil (bh a)) (bh c)) (b0 _)
 |.always a=>aW (aW .nil (bh a)) (b0 _)
 |.again a=>aW (aW .nil (bh a)) (b0 _)
theorem zU {x s:Sy}{f l:List Sy}(ih:x∈f↔∃t∈l,x∈bU t):x∈ext f (bU s)↔∃t∈s::l,x∈bU t:=by
 rw [fW,ih]
 exact ⟨fun h=>h.elim (fun ⟨t,a,b⟩=>⟨t,.tail _ a,b⟩) fun b=>⟨s,.head _,b⟩,fun ⟨t,a,b⟩=>(an a).elim (fun e=>.inr (e▸b)) fun a=>.inl ⟨t,a,b⟩⟩
theorem zh {x:Sy}{f g l m:List Sy}(ih:x∈f↔∃t∈l,x∈bU t)(ih':x∈g↔∃t∈m,x∈bU t):x∈ext f g↔∃t∈l++m,x∈bU t:=by
 rw [fW,ih,ih']
 exact ⟨fun h=>h.elim (fun ⟨t,a,b⟩=>⟨t,mem_append_left _ a,b⟩) fun ⟨t,a,b⟩=>⟨t,mem_append_right _ a,b⟩,fun ⟨t,a,b⟩=>(ag a).elim (fun a=>.inl ⟨t,a,b⟩) fun a=>.inr ⟨t,a,b⟩⟩
theorem zV {x:Sy}:x∈([]:List Sy)↔∃t∈([]:List Sy),x∈bU t:=⟨fun h=>(nomatch h),fun ⟨_,h,_⟩=>(nomatch h)⟩
theorem aS {x:Sy}:∀{s:Sy},x∈av s↔∃t∈all s,x∈bU t
 |.mark _=>zU zV
 |.yes=>zU zV
 |.not a=>zU (zh zV (aS (s:=a)))
 |.and a c=>zU (zh (zh zV (aS (s:=a))) (aS (s:=c)))
 |.or a c=>zU (zh (zh zV (aS (s:=a))) (aS (s:=c)))
 |.next a=>zU (zh zV (aS (s:=a)))
 |.till a c=>zU (zh (zh zV (aS (s:=a))) (aS (s:=c)))
 |.always a=>zU (zh zV (aS (s:=a)))
 |.again a=>zU (zh zV (aS (s:=a)))
theorem sW:∀(ts f:List Sy),f.Nodup->(ts.foldl (fun f t=>ext f (bU t)) f).Nodup/\∀x,x∈ts.foldl (fun f t=>ext f (bU t)) f↔x∈f\/∃t∈ts,x∈bU t
 | [],f,h=>⟨h,fun x=>by simp⟩
 |t::r,f,h=>by
  obtain ⟨h1,h2⟩:=sW r (ext f (bU t)) (aW h (b0 t))
  refine ⟨h1,fun x=>?_⟩
  simp only [List.foldl_cons]
  rw [h2,fW]
  simp [or_assoc]
theorem sV (s:Sy):(lb s).length=(av s).length:=by
 obtain ⟨h1,h2⟩:=sW (all s) [] .nil
 refine ((List.perm_ext_iff_of_nodup h1 (bh s)).mpr fun x=>?_).length_eq
 rw [h2,aS];simp
noncomputable def look (bs:List Sy)(g:List Bool)(x:Sy):Bool:=(g[bs.idxOf x]?).getD false
def so (m:Str)(bs:List Sy)(g:List Bool):Sy->Bool
 |.mark x=>PyData.eqv (.str m) (.str x)
 |.yes=>true
 |.not a=>!so m bs g a
 |.and a c=>so m bs g a&&so m bs g c
 |.or a c=>so m bs g a||so m bs g c
 |.next a=>look bs g (.next a)
 |.till a c=>look bs g (.till a c)
 |.always a=>look bs g (.always a)
 |.again a=>look bs g (.always (.till .yes a))
def jZ (bs:List Sy)(m:Str)(g:List Bool)(m':Str)(g':List Bool):Sy->Bool
 |.next a=>so m' bs g' a
 |.till a c=>so m bs g c||(so m bs g a&&look bs g' (.till a c))
 |.always a=>so m bs g a&&look bs g' (.always a)
 |_=>false
def CM (bs:List Sy)(m:Str)(g:List Bool)(m':Str)(g':List Bool):Bool:=bs.all fun x=>look bs g x==jZ bs m g m' g' x
def bF (bs:List Sy)(m:Str)(g:List Bool):Sy->Bool
 |.till a c=>!look bs g (.till a c)||so m bs g c
 |.always a=>look bs g (.always a)||!so m bs g a
 |_=>true
section
variable {bs:List Sy} {m m':Str} {g g':List Bool} {a c:Sy}
theorem qB:jZ bs m g m' g' (.till a c)=(so m bs g c||(so m bs g a&&look bs g' (.till a c))):=rfl
theorem n6:jZ bs m g m' g' (.always a)=(so m bs g a&&look bs g' (.always a)):=rfl
theorem xx:bF bs m g (.till a c)=(!look bs g (.till a c)||so m bs g c):=rfl
theorem sS:bF bs m g (.always a)=(look bs g (.always a)||!so m bs g a):=rfl
end
def dQ (bs:List Sy)(s:Sy):Prop:=∀t∈all s,∀x∈bU t,x∈bs
theorem jO {s p t:Sy}(hp:p∈bT s)(ht:t∈all p):t∈all s:=by
 cases s with
 |mark |yes=>cases hp
 |not |next |always |again=>cases aa hp;exact .tail _ ht
 |and |or |till=>
  refine .tail _ ?_
  rcases an hp with rfl |hp
  .exact mem_append_left _ ht
  .cases aa hp;exact mem_append_right _ ht
theorem cv {bs:List Sy}{s p:Sy}(h:dQ bs s)(hp:p∈bT s):dQ bs p:=fun t ht x hx=>h t (jO hp ht) x hx
theorem eS {bs:List Sy}{s:Sy}(h:dQ bs s):∀x∈bU s,x∈bs:=h s (gy s)
theorem jJ (s:Sy):dQ (av s) s:=fun t ht x hx=>aS.mpr ⟨t,ht,hx⟩
theorem Ft {s a t u:Sy}(h:t∈s::all a)(k:u∈all t)(e:all s=s::all a)(ih:t∈all a->u∈all a):u∈s::all a:=(an h).elim (fun q=>e▸q▸k) fun h=>.tail _ (ih h)
theorem Gl {s a c t u:Sy}(h:t∈s::(all a++all c))(k:u∈all t)(e:all s=s::(all a++all c))(ih:t∈all a->u∈all a)(ih':t∈all c->u∈all c):u∈s::(all a++all c):=
 (an h).elim (fun q=>e▸q▸k) fun h=>.tail _ ((ag h).elim (fun h=>mem_append_left _ (ih h)) fun h=>mem_append_right _ (ih' h))
theorem bV:∀{s t u:Sy},t∈all s->u∈all t->u∈all s
 |.mark x,t,u,h,k=>aa h▸k
 |.yes,t,u,h,k=>aa h▸k
 |.not a,t,u,h,k=>Ft h k rfl fun h=>bV h k
 |.and a c,t,u,h,k=>Gl h k rfl (fun h=>bV h k) fun h=>bV h k
 |.or a c,t,u,h,k=>Gl h k rfl (fun h=>bV h k) fun h=>bV h k
 |.next a,t,u,h,k=>Ft h k rfl fun h=>bV h k
 |.till a c,t,u,h,k=>Gl h k rfl (fun h=>bV h k) fun h=>bV h k
 |.always a,t,u,h,k=>Ft h k rfl fun h=>bV h k
 |.again a,t,u,h,k=>Ft h k rfl fun h=>bV h k
theorem ti {bs:List Sy}{s t:Sy}(h:dQ bs s)(ht:t∈all s):dQ bs t:=fun u hu x hx=>h u (bV ht hu) x hx
theorem nP {s x p:Sy}(hx:x∈av s)(hp:p∈bT x):dQ (av s) p:=by
 obtain ⟨t,ht,hx'⟩:=aS.mp hx
 have ct:=ti (jJ s) ht
 cases t with
 |next |till |always=>cases aa hx';exact cv ct hp
 |again a=>
  have ca:dQ (av s) a:=cv ct (.head _)
  have cy:dQ (av s) .yes:=fun u hu y hy=>by cases aa hu;cases hy
  rcases an hx' with rfl |hx'
  .rcases an hp with rfl |hp
   .exact cy
   .cases aa hp;exact ca
  .cases aa hx'
   cases aa hp
   intro u hu y hy
   rcases an hu with rfl |hu
   .cases aa hy;exact aS.mpr ⟨_,ht,.head _⟩
   .exact (ag hu).elim (fun hu=>cy u hu y hy) fun hu=>ca u hu y hy
 |_=>cases hx'
theorem ir {s x:Sy}(hx:x∈av s):(∃a,x=.next a)\/(∃a c,x=.till a c)\/∃a,x=.always a:=by
 obtain ⟨t,_,hx'⟩:=aS.mp hx
 cases t with
 |next=>exact .inl ⟨_,aa hx'⟩
 |till=>exact .inr (.inl ⟨_,_,aa hx'⟩)
 |always=>exact .inr (.inr ⟨_,aa hx'⟩)
 |again=>
  rcases an hx' with h |h
  .exact .inr (.inl ⟨_,_,h⟩)
  .exact .inr (.inr ⟨_,aa h⟩)
 |_=>cases hx'
end
end Mine.Ltl
end
section
set_option tactic.hygienic false
section
namespace Mine
noncomputable section
section
variable {α:Type} {th:α->List α}
inductive lg (th:α->List α):α->α->Prop
 |refl (a:α):lg th a a
 |step {a b c:α}:b∈th a->lg th b c->lg th a c
theorem lg.trans {a b c:α}(h:lg th a b)(h':lg th b c):lg th a c:=by
 induction h with
 |refl=>exact h'
 |step e _ ih=>exact .step e (ih h')
theorem lg.one {a b:α}(h:b∈th a):lg th a b:=.step h (.refl _)
inductive ia (th:α->List α) (P:α->Prop):α->α->Prop
 |refl {a:α}:P a->ia th P a a
 |step {a b c:α}:P a->b∈th a->ia th P b c->ia th P a c
theorem ia.mono {P Q:α->Prop}(h:∀a,P a->Q a){a b:α}(r:ia th P a b):ia th Q a b:=by
 induction r with
 |refl p=>exact .refl (h _ p)
 |step p e _ ih=>exact .step (h _ p) e ih
def Fv (th:α->List α)(L:List α):Prop:=∀A x B,L=A++x::B->∀u∈A++[x],∀v∈th u,v∈A++[x]\/lg th v x
inductive qr (th:α->List α) (P:α->Prop):Nat->α->α->Prop
 |refl {a:α}:P a->qr th P 0 a a
 |step {n:Nat} {a b c:α}:P a->b∈th a->qr th P n b c->qr th P (n+1) a c
theorem ia.n {P:α->Prop}{a b:α}(r:ia th P a b):∃n,qr th P n a b:=by
 induction r with
 |refl p=>exact ⟨0,.refl p⟩
 |step p e _ ih=>obtain ⟨n,h⟩:=ih;exact ⟨n+1,.step p e h⟩
theorem qr.head {P:α->Prop}{n:Nat}{a b:α}(r:qr th P n a b):P a:=by cases r<;>assumption
theorem vb {A:List α}{x:α}(h:∀u∈A++[x],∀v∈th u,v∈A++[x]\/lg th v x){P:α->Prop}{s:α}:∀{n:Nat} {y:α},qr th P n y s->y∈A++[x]->s∈A++[x]\/∃v m,m < n/\lg th v x/\qr th P m v s:=by
 intro n y r
 induction r with
 |refl _=>exact .inl
 |step p e r ih=>
  intro hy
  rcases h _ hy _ e with h1 |h1
  .rcases ih h1 with h2 | ⟨v,m,h2,h3,h4⟩
   .exact .inl h2
   .exact .inr ⟨v,m,Nat.lt_succ_of_lt h2,h3,h4⟩
  .exact .inr ⟨_,_,lt_succ_self _,h1,r⟩
theorem xf {L A B:List α}{s:α}(h:Fv th L)(hn:L.Nodup)(e:L=A++s::B):∀(n:Nat) (y:α),qr th (fun a=>a∈A++[s]) n y s->lg th s y:=by
 intro n
 induction n using Nat.strongRecOn with
 |ind n ih=>
  intro y r
  rcases ag r.head with hy |hy
  .obtain ⟨A',A'',rfl⟩:=List.append_of_mem hy
   have sA:s∉A'++[y]:=fun q=>by
    rw [e] at hn
    refine (aJ hn).2.2 s ?_ s (.head _) rfl
    rcases ag q with q |q
    .exact mem_append_left _ q
    .exact mem_append_right _ (aa q▸.head _)
   have h1:=h A' y (A''++s::B) (by rw [e,List.append_assoc];rfl)
   rcases vb h1 r (mem_append_right _ (.head _)) with h2 | ⟨v,m,h2,h3,h4⟩
   .exact absurd h2 sA
   .exact (ih m h2 v h4).trans h3
  .rw [aa hy];exact .refl _
end
theorem fV {w:Type}{l:List w}{y:w}(h:l.Nodup)(hy:y∉l):(l++[y]).Nodup:=nodup_append.mpr ⟨h,pairwise_singleton _ _,fun a ha b hb q=>hy (aa hb▸q▸ha)⟩
section
variable {α:Type} {th:α->List α} {K:List α}
structure qx (th:α->List α) (K found:List α) (st:List (α×Nat)) (bF:List α):Prop where
 sub:∀x∈bF,x∈K
 same:∀x,x∈bF↔x∈found\/x∈st.map Prod.fst
 nd:(found++st.map Prod.fst).Nodup
 fin:∀x∈found,∀y∈th x,y∈bF
 take:∀p∈st,p.2<=(th p.1).length/\∀y∈(th p.1).take p.2,y∈bF
 chain:∀A p B,st=A++p::B->∀q∈A,lg th q.1 p.1
 ord:Fv th found
 ndm:bF.Nodup
theorem pK {w:Type}{A B:List w}{x:w}{p:Prop}(e:[]=A++x::B):p:=absurd e.symm (List.append_ne_nil_of_right_ne_nil _ nofun)
theorem qx.nil:qx th K [] [] []:=⟨fun _ h=>(nomatch h),fun x=>⟨.inl,fun h=>h.elim id id⟩,.nil,fun _ h=>(nomatch h),fun _ h=>(nomatch h),fun A p B e=>pK e,fun A x B e=>pK e,.nil⟩
theorem ei {w:Type}{S A B:List w}{p q:w}(h:S++[p]=A++q::B):(A=S/\q=p/\B=[])\/∃B',B=B'++[p]/\S=A++q::B':=by
 rcases eq_nil_or_concat B with rfl | ⟨B',b,rfl⟩
 .have:=List.append_inj' h rfl
  exact .inl ⟨this.1.symm,(List.singleton_inj.mp this.2).symm,rfl⟩
 .rw [concat_eq_append] at h ⊢
  have h2:S++[p]=(A++q::B')++[b]:=by rw [h,List.append_assoc];rfl
  have:=List.append_inj' h2 rfl
  exact .inr ⟨B',by rw [List.singleton_inj.mp this.2],this.1⟩
theorem qx.start {found bF:List α}{s:α}(D:qx th K found [] bF)(hs:s∈K)(hm:s∉bF):qx th K found [(s,0)] (bF++[s]) where
 sub x hx:=(ag hx).elim (D.sub x) fun h=>aa h▸hs
 same x:=mem_append.trans (or_congr_left ((D.same x).trans (or_iff_left fun h=>nomatch h)))
 nd:=by
  have:=D.nd
  rw [map_nil,append_nil] at this
  exact fV this fun q=>hm ((D.same s).mpr (.inl q))
 fin x hx y hy:=mem_append_left _ (D.fin x hx y hy)
 take p hp:=by cases aa hp;exact ⟨zero_le _,fun y hy=>by rw [List.take_zero] at hy;cases hy⟩
 chain A p B e q hq:=by
  rcases A with _ | ⟨a,A⟩
  .cases hq
  .exact pK (List.cons.inj e).2
 ord:=D.ord
 ndm:=fV D.ndm hm
theorem qx.leave {found bF:List α}{S:List (α×Nat)}{k:α}{n:Nat}(D:qx th K found (S++[(k,n)]) bF)(hn:n=(th k).length):qx th K (found++[k]) S bF where
 sub:=D.sub
 same x:=by rw [D.same,map_append,mem_append,mem_append,or_comm (a:=x∈S.map _)];exact or_assoc.symm
 nd:=by
  have:=D.nd
  rw [map_append,<-List.append_assoc] at this
  have h1:=aJ this
  rw [List.append_assoc]
  have h2:=aJ h1.1
  rw [nodup_append]
  refine ⟨h2.1,List.nodup_cons.mpr ⟨fun q=>h1.2.2 k (mem_append_right _ q) k (.head _) rfl,h2.2.1⟩,fun a ha b hb q=>?_⟩
  rcases an hb with hb |hb
  .exact h1.2.2 a (mem_append_left _ ha) b (by rw [hb];exact .head _) q
  .exact h2.2.2 a ha b hb q
 fin x hx y hy:=by
  rcases ag hx with hx |hx
  .exact D.fin x hx y hy
  .rw [aa hx] at hy
   refine (D.take (k,n) (mem_append_right _ (.head _))).2 y ?_
   rw [hn,take_length];exact hy
 take p hp:=D.take p (mem_append_left _ hp)
 chain A p B e q hq:=D.chain A p (B++[(k,n)]) (by rw [e,List.append_assoc];rfl) q hq
 ord A x B e:=by
  rcases ei e with ⟨rfl,rfl,rfl⟩ | ⟨B',rfl,e'⟩
  .intro u hu v hv
   have hv':v∈bF:=by
    rcases ag hu with hu |hu
    .exact D.fin u hu v hv
    .rw [aa hu] at hv
     refine (D.take (x,n) (mem_append_right _ (.head _))).2 v ?_
     rw [hn,take_length];exact hv
   rcases (D.same v).mp hv' with h |h
   .exact .inl (mem_append_left _ h)
   .rw [map_append] at h
    rcases ag h with h |h
    .obtain ⟨q,hq,rfl⟩:=aG h
     exact .inr (D.chain S (x,n) [] rfl q hq)
    .exact .inl (mem_append_right _ h)
  .exact D.ord A x B' e'
 ndm:=D.ndm
theorem qx.on {found bF:List α}{S:List (α×Nat)}{k y:α}{n:Nat}(D:qx th K found (S++[(k,n)]) bF)(hn:(th k)[n]?=some y)(hy:y∈bF):qx th K found (S++[(k,n+1)]) bF where
 sub:=D.sub
 same x:=by have:=D.same x;rw [map_append] at this ⊢;exact this
 nd:=by have:=D.nd;rw [map_append] at this ⊢;exact this
 fin:=D.fin
 take p hp:=by
  rcases ag hp with hp |hp
  .exact D.take p (mem_append_left _ hp)
  .cases aa hp
   have h1:=D.take (k,n) (mem_append_right _ (.head _))
   have h2:=(aj hn).1
   refine ⟨h2,fun z hz=>?_⟩
   rw [List.take_succ,hn] at hz
   rcases ag hz with hz |hz
   .exact h1.2 z hz
   .rw [aa hz];exact hy
 chain A p B e q hq:=by
  rcases ei e with ⟨rfl,rfl,rfl⟩ | ⟨B',rfl,e'⟩
  .exact D.chain A (k,n) [] rfl q hq
  .exact D.chain A p (B'++[(k,n)]) (by rw [e',List.append_assoc];rfl) q hq
 ord:=D.ord
 ndm:=D.ndm
theorem qT {S:List (α×Nat)}{k y:α}{n m:Nat}:(S++[(k,m)]++[(y,0)]).map Prod.fst=(S++[(k,n)]).map Prod.fst++[y]:=by rw [map_append,map_append,map_append];rfl
theorem qx.push {found bF:List α}{S:List (α×Nat)}{k y:α}{n:Nat}(D:qx th K found (S++[(k,n)]) bF)(hn:(th k)[n]?=some y)(hk:y∈K)(hy:y∉bF):qx th K found (S++[(k,n+1)]++[(y,0)]) (bF++[y]) where
 sub x hx:=(ag hx).elim (D.sub x) fun h=>aa h▸hk
 same x:=by rw [qT (n:=n),mem_append,mem_append,D.same];exact or_assoc
 nd:=by rw [qT (n:=n),<-List.append_assoc];exact fV D.nd fun q=>hy ((D.same y).mpr (ag q))
 fin x hx z hz:=mem_append_left _ (D.fin x hx z hz)
 take p hp:=by
  rcases ag hp with hp |hp
  .rcases ag hp with hp |hp
   .exact (D.take p (mem_append_left _ hp)).imp id fun h z hz=>mem_append_left _ (h z hz)
   .cases aa hp
    have h1:=D.take (k,n) (mem_append_right _ (.head _))
    refine ⟨(aj hn).1,fun z hz=>?_⟩
    rw [List.take_succ,hn] at hz
    rcases ag hz with hz |hz
    .exact mem_append_left _ (h1.2 z hz)
    .exact mem_append_right _ hz
  .cases aa hp
   exact ⟨zero_le _,fun z hz=>by rw [List.take_zero] at hz;cases hz⟩
 chain A p B e q hq:=by
  rcases ei e with ⟨rfl,rfl,rfl⟩ | ⟨B',rfl,e'⟩
  .have ky:lg th k y:=.one (mem_of_getElem? hn)
   rcases ag hq with hq |hq
   .exact (D.chain S (k,n) [] rfl q hq).trans ky
   .cases aa hq;exact ky
  .rcases ei e' with ⟨rfl,rfl,rfl⟩ | ⟨B',rfl,e''⟩
   .exact D.chain A (k,n) [] rfl q hq
   .exact D.chain A p (B'++[(k,n)]) (by rw [e'',List.append_assoc];rfl) q hq
 ord:=D.ord
 ndm:=fV D.ndm hy
end
end
end Mine
end
section
namespace Mine
noncomputable section
section
variable {α:Type} [DecidableEq α] {th:α->List α} {K:List α}
def ee (th:α->List α)(bF:List α):List α->Nat
 | []=>0
 |x::r=>(if x∈bF then 0 else (th x).length+2)+ee th bF r
theorem jX {bF:List α}{x:α}{r:List α}:ee th bF (x::r)=(if x∈bF then 0 else (th x).length+2)+ee th bF r:=rfl
theorem tL {bF:List α}{y:α}:∀K:List α,ee th (bF++[y]) K<=ee th bF K
 | []=>le_refl _
 |x::r=>by
  rw [jX,jX]
  refine add_le_add ?_ (tL r)
  by_cases h:x∈bF
  .rw [if_pos h,if_pos (mem_append_left _ h)];exact le_refl _
  .rw [if_neg h]
   by_cases h':x∈bF++[y]
   .rw [if_pos h'];exact zero_le _
   .rw [if_neg h'];exact le_refl _
theorem jW {bF:List α}{y:α}(hy:y∉bF):∀{K:List α},y∈K->ee th (bF++[y]) K+((th y).length+2)<=ee th bF K
 |x::r,h=>by
  rw [jX,jX]
  by_cases q:x=y
  .subst q
   rw [if_neg hy,if_pos (mem_append_right _ (.head _)),zero_add,add_comm];exact add_le_add_left (tL r) _
  .have ih:=jW (K:=r) hy ((an h).elim (fun e=>absurd e.symm q) id)
   by_cases hx:x∈bF
   .rw [if_pos hx,if_pos (mem_append_left _ hx),zero_add,zero_add];exact ih
   .rw [if_neg hx,if_neg fun h=>(ag h).elim hx fun h=>q (aa h),add_assoc];exact add_le_add_left ih _
noncomputable def fM (th:α->List α):List (α×Nat)->Nat
 | []=>0
 |p::r=>(th p.1).length - p.2+1+fM th r
omit [DecidableEq α] in
theorem wA {p:α×Nat}{r:List (α×Nat)}:fM th (p::r)=(th p.1).length - p.2+1+fM th r:=rfl
omit [DecidableEq α] in
theorem jl:∀(a b:List (α×Nat)),fM th (a++b)=fM th a+fM th b
 | [],b=>(zero_add _).symm
 |p::a,b=>by rw [List.cons_append,wA,wA,jl a b,add_assoc (_+1)]
omit [DecidableEq α] in
theorem aZ:∀{l m:List α},l.Nodup->(∀x∈l,x∈m)->l.length<=m.length
 | [],m,_,_=>zero_le _
 |x::l,m,hn,hs=>by
  obtain ⟨a,b,rfl⟩:=List.append_of_mem (hs x (.head _))
  have:=aZ (l:=l) (m:=a++b) (aT hn).2 fun y hy=>by
   rcases ag (hs y (.tail _ hy)) with h |h
   .exact mem_append_left _ h
   .rcases an h with h |h
    .exact absurd (h▸hy) (aT hn).1
    .exact mem_append_right _ h
  rw [List.length_append] at this ⊢
  rw [length_cons,length_cons];lia
end
section
variable {α:Type} {th:α->List α} {K:List α}
structure BF (th:α->List α) (K bF:List α) (s:α) (C:List α):Prop where
 nd:(bF++C).Nodup
 sub:∀x∈C,x∈K
 to:∀x∈C,ia th (fun a=>a∈C) x s
 hd:s∈C
theorem BF.start {bF:List α}{s:α}(hm:bF.Nodup)(hs:s∈K)(h:s∉bF):BF th K bF s [s] where
 nd:=fV hm h
 sub x hx:=aa hx▸hs
 to x hx:=by rw [aa hx];exact .refl (.head _)
 hd:=.head _
theorem BF.push {bF C:List α}{s y c:α}(HHH:BF th K bF s C)(hy:y∉bF++C)(hk:y∈K)(hc:c∈C)(e:c∈th y):BF th K bF s (C++[y]) where
 nd:=by
  rw [<-List.append_assoc];exact fV HHH.nd hy
 sub x hx:=(ag hx).elim (HHH.sub x) fun h=>aa h▸hk
 to x hx:=by
  have m:∀a,a∈C->a∈C++[y]:=fun a h=>mem_append_left _ h
  rcases ag hx with h |h
  .exact (HHH.to x h).mono m
  .rw [aa h];exact .step (mem_append_right _ (.head _)) e ((HHH.to c hc).mono m)
 hd:=mem_append_left _ HHH.hd
structure zl (th:α->List α) (K:List α) (Cs:List (List α)):Prop where
 nd:Cs.flatten.Nodup
 sub:∀x∈Cs.flatten,x∈K
 ne:∀C∈Cs,C≠[]
 scc:∀C∈Cs,∀a∈C,∀b∈C,lg th a b
 back:∀A C B,Cs=A++C::B->∀c∈C,∀x∈K,c∈th x->x∈A.flatten++C
theorem zl.nil:zl th K []:=⟨.nil,fun _ h=>(nomatch h),fun _ h=>(nomatch h),fun _ h=>(nomatch h),fun A C B e=>pK e⟩
theorem ia.r {P:α->Prop}{a b:α}(r:ia th P a b):lg th a b:=by
 induction r with
 |refl _=>exact .refl _
 |step _ e _ ih=>exact .step e ih
theorem df {z:Type}(Cs:List (List z))(C:List z):(Cs++[C]).flatten=Cs.flatten++C:=by rw [flatten_append,flatten_cons,List.flatten_nil,append_nil]
theorem zl.add {Cs:List (List α)}{L A B C:List α}{s:α}(HHH:zl th K Cs)(ho:Fv th L)(hn:L.Nodup)(hL:∀x∈K,x∈L)(e:L=A++s::B)(hB:∀x∈B,x∈Cs.flatten)(c:BF th K Cs.flatten s C)(cl:∀c∈C,∀x∈K,c∈th x->x∈Cs.flatten++C):zl th K (Cs++[C]) where
 nd:=by rw [df];exact c.nd
 sub x hx:=by rw [df] at hx;exact (ag hx).elim (HHH.sub x) (c.sub x)
 ne D hD:=(ag hD).elim (HHH.ne D) fun h=>by rw [aa h];exact fun q=>by have:=c.hd;rw [q] at this;cases this
 scc D hD:=by
  rcases ag hD with h |h
  .exact HHH.scc D h
  .rw [aa h]
   intro a ha b hb
   refine (c.to a ha).r.trans ?_
   have inA:∀x,x∈C->x∈A++[s]:=fun x hx=>by
    have:=hL x (c.sub x hx)
    rw [e] at this
    rcases ag this with h |h
    .exact mem_append_left _ h
    .rcases an h with h |h
     .exact mem_append_right _ (h▸.head _)
     .exact absurd rfl ((aJ c.nd).2.2 x (hB x h) x hx)
   obtain ⟨n,r⟩:=((c.to b hb).mono inA).n
   exact xf ho hn e n b r
 back A' D B' q:=by
  rcases ei q with ⟨rfl,rfl,rfl⟩ | ⟨B'',rfl,q'⟩
  .exact cl
  .exact HHH.back A' D B'' q'
theorem zl.within {A B:List (List α)}{C:List α}(HHH:zl th K (A++C::B)){u s d:α}(hu:u∈C)(e:s∈th u)(hK:∀k∈K,∀y∈th k,y∈K)(r:lg th s d)(hd:d∈C):s∈C:=by
 have uK:u∈K:=HHH.sub u (by rw [flatten_append,flatten_cons];exact mem_append_right _ (mem_append_left _ hu))
 have back:∀x y,lg th x y->x∈K->y∈A.flatten++C->x∈A.flatten++C:=fun x y r=>by
  induction r with
  |refl _=>exact fun _ h=>h
  | @step a b c e _ ih=>
   intro ha hc
   rcases ag (ih (hK a ha b e) hc) with h |h
   .obtain ⟨D,hD,hb⟩:=List.mem_flatten.mp h
    obtain ⟨A',B',rfl⟩:=List.append_of_mem hD
    have:=HHH.back A' D (B'++C::B) (by rw [List.append_assoc];rfl) b hb a ha e
    rw [flatten_append,flatten_cons]
    rcases ag this with h |h
    .exact mem_append_left _ (mem_append_left _ h)
    .exact mem_append_left _ (mem_append_right _ (mem_append_left _ h))
   .exact HHH.back A C B rfl b h a ha e
 rcases ag (back s d r (hK u uK s e) (mem_append_right _ hd)) with h |h
 .obtain ⟨D,hD,hb⟩:=List.mem_flatten.mp h
  obtain ⟨A',B',rfl⟩:=List.append_of_mem hD
  have:=HHH.back A' D (B'++C::B) (by rw [List.append_assoc];rfl) s hb u uK e
  have nd:=HHH.nd
  rw [flatten_append,flatten_append,flatten_cons] at nd
  refine absurd rfl ((aJ nd).2.2 u ?_ u (by rw [flatten_cons];exact mem_append_left _ hu))
  rcases ag this with h |h
  .exact mem_append_left _ h
  .exact mem_append_right _ (mem_append_left _ h)
 .exact h
end
end
end Mine
end
section
namespace Mine
noncomputable section
section
variable {α:Type} {th:α->List α}
def eN (th:α->List α)(P:List α):Prop:=∀(i:Nat) (a b:α),P[i]?=some a->P[i+1]?=some b->b∈th a
theorem eN.one (a:α):eN th [a]:=fun i x y _ h=>by
 rw [List.getElem?_eq_none (by simp)] at h;cases h
theorem eN.app {P Q:List α}(hP:eN th P)(hQ:eN th Q)(h:∀a b,P.getLast?=some a->Q.head?=some b->b∈th a):eN th (P++Q):=fun i a b ha hb=>by
 by_cases h1:i+1 < P.length
 .rw [getElem?_append_left (Nat.lt_of_succ_lt h1)] at ha
  rw [getElem?_append_left h1] at hb
  exact hP i a b ha hb
 .by_cases h2:i < P.length
  .have e:i+1=P.length:=le_antisymm h2 (bW h1)
   rw [getElem?_append_left h2] at ha
   rw [getElem?_append_right (bW h1),e,Nat.sub_self] at hb
   refine h a b ?_ ?_
   .rw [List.getLast?_eq_getElem?,<-e];exact ha
   .rw [List.head?_eq_getElem?];exact hb
  .rw [getElem?_append_right (bW h2)] at ha
   rw [getElem?_append_right (bW h1),Nat.succ_sub (bW h2)] at hb
   exact hQ _ a b ha hb
theorem eN.drop {P:List α}(hP:eN th P)(n:Nat):eN th (P.drop n):=fun i a b ha hb=>by
 rw [List.getElem?_drop] at ha hb
 exact hP (n+i) a b ha hb
inductive kU (f:α->Option α):α->List α->Prop
 |nil {x:α}:f x=none->kU f x [x]
 |cons {x y:α} {p:List α}:f x=some y->kU f y p->kU f x (x::p)
structure sw (th:α->List α) (K starts goals done wait:List α) (f:α->Option α):Prop where
 nd:(done++wait).Nodup
 sub:∀x∈done++wait,x∈K
 st:∀x∈starts,x∈done++wait
 par:∀x∈done++wait,(f x=none->x∈starts)/\∀y,f x=some y->x∈th y
 back:∀x∈done++wait,∃p,kU f x p/\p.length<=(done++wait).length/\∀y∈p,y∈done++wait
 clo:∀x∈done,x∉goals/\∀y∈th x,y∈done++wait
theorem sw.start {K starts goals:List α}(hn:starts.Nodup)(hs:∀x∈starts,x∈K):sw th K starts goals [] starts (fun _=>none) where
 nd:=hn
 sub:=hs
 st:=fun _ h=>h
 par x hx:=⟨fun _=>hx,fun y h=>by cases h⟩
 back x hx:=⟨[x],.nil rfl,List.length_pos_of_mem hx,fun y hy=>aa hy▸hx⟩
 clo x hx:=nomatch hx
theorem kU.mono {f f':α->Option α}{x:α}{p:List α}(h:kU f x p):(∀y∈p,f' y=f y)->kU f' x p:=by
 induction h with
 |nil e=>exact fun h=>.nil ((h _ (.head _)).trans e)
 |cons e _ ih=>exact fun h=>.cons ((h _ (.head _)).trans e) (ih fun y hy=>h y (.tail _ hy))
theorem sw.push [DecidableEq α] {K starts goals done wait:List α}{f:α->Option α}{here y:α}(B:sw th K starts goals done wait f)(hh:here∈done++wait)(e:y∈th here)(hk:y∈K)(hy:y∉done++wait):sw th K starts goals done (wait++[y]) (fun x=>if x=y then some here else f x):=by
 have ne:∀x,x∈done++wait->x≠y:=fun x hx q=>hy (q▸hx)
 have mem:∀x,x∈done++(wait++[y])↔x∈done++wait\/x=y:=fun x=>by rw [<-List.append_assoc,mem_append,mem_singleton]
 refine ⟨?_,fun x hx=>?_,fun x hx=>(mem x).mpr (.inl (B.st x hx)),fun x hx=>?_,fun x hx=>?_,fun x hx=>⟨(B.clo x hx).1,fun z hz=>(mem z).mpr (.inl ((B.clo x hx).2 z hz))⟩⟩
 .rw [<-List.append_assoc];exact fV B.nd hy
 .exact ((mem x).mp hx).elim (B.sub x) fun h=>h▸hk
 .rcases (mem x).mp hx with h |rfl
  .rw [if_neg (ne x h)];exact B.par x h
  .rw [if_pos rfl];exact ⟨fun h=>(by cases h),fun z h=>Option.some.inj h▸e⟩
 .rw [<-List.append_assoc,List.length_append]
  have old:∀x,x∈done++wait->∃p,kU (fun x=>if x=y then some here else f x) x p/\p.length<=(done++wait).length/\∀z∈p,z∈done++wait:=fun x hx=>by
   obtain ⟨p,h1,h2,h3⟩:=B.back x hx
   exact ⟨p,h1.mono fun z hz=>if_neg (ne z (h3 z hz)),h2,h3⟩
  rcases (mem x).mp hx with h |rfl
  .obtain ⟨p,h1,h2,h3⟩:=old x h
   exact ⟨p,h1,le_trans h2 (le_add_right _ _),fun z hz=>mem_append_left _ (h3 z hz)⟩
  .obtain ⟨p,h1,h2,h3⟩:=old here hh
   refine ⟨x::p,.cons (if_pos rfl) h1,succ_le_succ h2,fun z hz=>?_⟩
   rcases an hz with rfl |hz
   .exact mem_append_right _ (.head _)
   .exact mem_append_left _ (h3 z hz)
theorem sw.done {K starts goals done wait:List α}{f:α->Option α}{here:α}(B:sw th K starts goals done (here::wait) f)(hg:here∉goals)(hc:∀y∈th here,y∈done++here::wait):sw th K starts goals (done++[here]) wait f:=by
 have e:(done++[here])++wait=done++here::wait:=by rw [List.append_assoc];rfl
 refine ⟨by rw [e];exact B.nd,by rw [e];exact B.sub,by rw [e];exact B.st,by rw [e];exact B.par,by rw [e];exact B.back,fun x hx=>?_⟩
 rw [e]
 rcases ag hx with h |h
 .exact B.clo x h
 .rw [aa h];exact ⟨hg,hc⟩
theorem sw.none {K starts goals done:List α}{f:α->Option α}(B:sw th K starts goals done [] f){s g:α}(hs:s∈starts)(hg:g∈goals)(r:lg th s g):False:=by
 have:∀x y,lg th x y->x∈done->y∈goals->False:=fun x y r=>by
  induction r with
  |refl a=>exact fun hx hg=>(B.clo a hx).1 hg
  |step e _ ih=>
   intro hx hg
   have:=(B.clo _ hx).2 _ e
   rw [append_nil] at this
   exact ih this hg
 have h:=B.st s hs
 rw [append_nil] at h
 exact this s g r h hg
structure AU (th:α->List α) (K starts:List α) (g:α) (P:List α):Prop where
 walk:eN th P
 hd:∃a,P.head?=some a/\a∈starts
 lst:P.getLast?=some g
 sub:∀x∈P,x∈K
 len:P.length<=K.length
theorem kU.way {K starts goals done wait:List α}{f:α->Option α}(B:sw th K starts goals done wait f){x:α}{p:List α}(h:kU f x p):(∀y∈p,y∈done++wait)->eN th p.reverse/\(∃a,p.reverse.head?=some a/\a∈starts)/\p.reverse.getLast?=some x:=by
 induction h with
 | @nil x e=>exact fun h=>⟨.one _,⟨x,rfl,(B.par x (h x (.head _))).1 e⟩,rfl⟩
 | @cons x y p e _ ih=>
  intro h
  obtain ⟨h1,⟨a,h2,h3⟩,h4⟩:=ih fun z hz=>h z (.tail _ hz)
  rw [List.reverse_cons]
  refine ⟨h1.app (.one _) fun u v hu hv=>?_,⟨a,?_,h3⟩,by rw [List.getLast?_append];rfl⟩
  .rw [h4] at hu;cases hu;cases hv
   exact (B.par x (h x (.head _))).2 _ e
  .rw [head?_append,h2];rfl
theorem sw.way {K starts goals done wait:List α}{f:α->Option α}(B:sw th K starts goals done wait f){x:α}(hx:x∈done++wait):∃p,kU f x p/\(∀y∈p,y∈done++wait)/\AU th K starts x p.reverse:=by
 obtain ⟨p,h1,h2,h3⟩:=B.back x hx
 obtain ⟨h4,h5,h6⟩:=h1.way B h3
 exact ⟨p,h1,h3,h4,h5,h6,fun y hy=>B.sub y (h3 y (List.mem_reverse.mp hy)),by rw [length_reverse];exact le_trans h2 (aZ B.nd B.sub)⟩
end
end
end Mine
end
namespace Mine
noncomputable section
open Ltl
section
variable {α:Type} {th:α->List α}
theorem eN.left {P Q:List α}(h:eN th (P++Q)):eN th P:=fun i a b ha hb=>
 h i a b ((getElem?_append_left (aj ha).1).trans ha) ((getElem?_append_left (aj hb).1).trans hb)
theorem eN.snoc {P:List α}{a b:α}(h:eN th (P++[b]))(e:P.getLast?=some a):b∈th a:=by
 obtain ⟨Q,rfl⟩:=List.getLast?_eq_some_iff.mp e
 refine h Q.length a b ?_ ?_
 .rw [List.append_assoc,getElem?_append_right (le_refl _),Nat.sub_self];rfl
 .rw [List.append_assoc,getElem?_append_right (le_add_right _ 1),Nat.add_sub_cancel_left];rfl
theorem eN.close {K S F P:List α}{z c:α}(h:eN th (F++[z]))(W:AU th K S c P)(hS:∀x∈S,x∈th z):eN th (F++[z]++P.dropLast)/\∃y,(F++[z]++P.dropLast).getLast?=some y/\c∈th y:=by
 obtain ⟨Q,rfl⟩:=List.getLast?_eq_some_iff.mp W.lst
 obtain ⟨a,ha,hs⟩:=W.hd
 rw [List.dropLast_concat]
 refine ⟨h.app W.walk.left fun u v hu hv=>?_,?_⟩
 .rw [getLast?_concat] at hu;cases hu
  rw [head?_append,hv] at ha;cases ha
  exact hS _ hs
 .rcases eq_nil_or_concat Q with rfl | ⟨R,y,rfl⟩
  .cases ha
   exact ⟨z,by rw [append_nil,getLast?_concat],hS _ hs⟩
  .rw [concat_eq_append] at W ⊢
   exact ⟨y,by rw [<-List.append_assoc,getLast?_concat],W.walk.snoc getLast?_concat⟩
structure BE (th:α->List α) (S:List α) (P R:List α):Prop where
 walk:eN th (P++R)
 hd:∃a,(P++R).head?=some a/\a∈S
 back:∃c y,R.head?=some c/\R.getLast?=some y/\c∈th y
theorem AU.lasso {K S P R:List α}{c:α}(W:AU th K S c P)(h:eN th R)(hc:R.head?=some c)(hb:∃y,R.getLast?=some y/\c∈th y):BE th S P.dropLast R:=by
 obtain ⟨Q,rfl⟩:=List.getLast?_eq_some_iff.mp W.lst
 obtain ⟨a,ha,hs⟩:=W.hd
 obtain ⟨y,h1,h2⟩:=hb
 rw [List.dropLast_concat]
 refine ⟨W.walk.left.app h fun u v hu hv=>?_,⟨a,?_,hs⟩,c,y,hc,h1,h2⟩
 .rw [hc] at hv;cases hv
  exact W.walk.snoc hu
 .rw [head?_append] at ha ⊢
  rw [hc];exact ha
end
end
end Mine
namespace Mine
noncomputable section
open PySem Mine.Ltl
noncomputable def aU:Sy->T
 |.mark x=>.tup [.str (ofString "mark"),.str x]
 |.yes=>.tup [.str (ofString "yes")]
 |.not a=>.tup [.str (ofString "not"),aU a]
 |.and a c=>.tup [.str (ofString "and"),aU a,aU c]
 |.or a c=>.tup [.str (ofString "or"),aU a,aU c]
 |.next a=>.tup [.str (ofString "next"),aU a]
 |.till a c=>.tup [.str (ofString "till"),aU a,aU c]
 |.always a=>.tup [.str (ofString "always"),aU a]
 |.again a=>.tup [.str (ofString "again"),aU a]
noncomputable def f0:Sy->PyData
 |.mark x=>.tuple [.str (ofString "mark"),.str x]
 |.yes=>.tuple [.str (ofString "yes")]
 |.not a=>.tuple [.str (ofString "not"),f0 a]
 |.and a c=>.tuple [.str (ofString "and"),f0 a,f0 c]
 |.or a c=>.tuple [.str (ofString "or"),f0 a,f0 c]
 |.next a=>.tuple [.str (ofString "next"),f0 a]
 |.till a c=>.tuple [.str (ofString "till"),f0 a,f0 c]
 |.always a=>.tuple [.str (ofString "always"),f0 a]
 |.again a=>.tuple [.str (ofString "again"),f0 a]
noncomputable def dep:Sy->Nat
 |.mark _=>1
 |.yes=>1
 |.not a=>dep a+1
 |.and a c=>max (dep a) (dep c)+1
 |.or a c=>max (dep a) (dep c)+1
 |.next a=>dep a+1
 |.till a c=>max (dep a) (dep c)+1
 |.always a=>dep a+1
 |.again a=>dep a+1
theorem io (n:Nat)(s:Str):cu n (.str s)=some (.str s):=by cases n<;>rfl
theorem qg (n:Nat)(i:Int):cu n (.int i)=some (.int i):=by cases n<;>rfl
theorem yx (n:Nat)(b:Bool):cu n (.bool b)=some (.bool b):=by cases n<;>rfl
theorem nX {f:T->Option PyData}{x:T}{r:List T}{d:PyData}{ds:List PyData}(h:f x=some d)(hr:fi f r=some ds):fi f (x::r)=some (d::ds):=by
 show (match f x with |none=>none |some d=>(fi f r).map (d::·))=_
 rw [h,hr];rfl
theorem qf {n:Nat}{xs:List T}{ds:List PyData}(h:fi (cu n) xs=some ds):cu (n+1) (.tup xs)=some (.tuple ds):=congrArg (Option.map PyData.tuple) h
theorem rI {n:Nat}{w:Str}{a:T}{d:PyData}(h:cu n a=some d):cu (n+1) (.tup [.str w,a])=some (.tuple [.str w,d]):=qf (nX (io _ _) (nX h rfl))
theorem yy {n:Nat}{w:Str}{a c:T}{d e:PyData}(h:cu n a=some d)(h':cu n c=some e):cu (n+1) (.tup [.str w,a,c])=some (.tuple [.str w,d,e]):=qf (nX (io _ _) (nX h (nX h' rfl)))
theorem dP:∀(s:Sy) (n:Nat),dep s<=n->cu n (aU s)=some (f0 s)
 |.mark x,n+1,_=>rI (io _ _)
 |.yes,n+1,_=>qf (nX (io _ _) rfl)
 |.not a,n+1,h=>rI (dP a n (le_of_succ_le_succ h))
 |.next a,n+1,h=>rI (dP a n (le_of_succ_le_succ h))
 |.always a,n+1,h=>rI (dP a n (le_of_succ_le_succ h))
 |.again a,n+1,h=>rI (dP a n (le_of_succ_le_succ h))
 |.and a c,n+1,h=>yy (dP a n (le_trans (le_max_left _ _) (le_of_succ_le_succ h))) (dP c n (le_trans (le_max_right _ _) (le_of_succ_le_succ h)))
 |.or a c,n+1,h=>yy (dP a n (le_trans (le_max_left _ _) (le_of_succ_le_succ h))) (dP c n (le_trans (le_max_right _ _) (le_of_succ_le_succ h)))
 |.till a c,n+1,h=>yy (dP a n (le_trans (le_max_left _ _) (le_of_succ_le_succ h))) (dP c n (le_trans (le_max_right _ _) (le_of_succ_le_succ h)))
noncomputable def idx:Sy->Nat
 |.mark _=>0
 |.yes=>1
 |.not _=>2
 |.and _ _=>3
 |.or _ _=>4
 |.next _=>5
 |.till _ _=>6
 |.always _=>7
 |.again _=>8
theorem jI {a c:Sy}(h1:PyData.eqv (f0 a) (f0 c)=false)(h2:Nat.beq (idx a) (idx c)=false):PyData.eqv (f0 a) (f0 c)=true↔a=c:=⟨fun h=>(by rw [h1] at h;cases h),fun h=>(by rw [h,beq_refl] at h2;cases h2)⟩
theorem f9:∀a c:Sy,PyData.eqv (f0 a) (f0 c)=true↔a=c
 |.mark x,c=>by
  cases c with
  |mark y=>
   show ((x==y)&&true)=true↔_
   rw [Bool.and_true,beq_iff_eq];exact ⟨fun h=>(by rw [h]),fun h=>(by cases h;rfl)⟩
  |_=>exact jI rfl rfl
 |.yes,c=>by
  cases c with
  |yes=>exact ⟨fun _=>rfl,fun _=>rfl⟩
  |_=>exact jI rfl rfl
 |.not a,c=>by
  cases c with
  |not c=>
   show (PyData.eqv (f0 a) (f0 c)&&true)=true↔_
   rw [Bool.and_true,f9 a c];exact ⟨fun h=>(by rw [h]),fun h=>(by cases h;rfl)⟩
  |_=>exact jI rfl rfl
 |.next a,c=>by
  cases c with
  |next c=>
   show (PyData.eqv (f0 a) (f0 c)&&true)=true↔_
   rw [Bool.and_true,f9 a c];exact ⟨fun h=>(by rw [h]),fun h=>(by cases h;rfl)⟩
  |_=>exact jI rfl rfl
 |.always a,c=>by
  cases c with
  |always c=>
   show (PyData.eqv (f0 a) (f0 c)&&true)=true↔_
   rw [Bool.and_true,f9 a c];exact ⟨fun h=>(by rw [h]),fun h=>(by cases h;rfl)⟩
  |_=>exact jI rfl rfl
 |.again a,c=>by
  cases c with
  |again c=>
   show (PyData.eqv (f0 a) (f0 c)&&true)=true↔_
   rw [Bool.and_true,f9 a c];exact ⟨fun h=>(by rw [h]),fun h=>(by cases h;rfl)⟩
  |_=>exact jI rfl rfl
 |.and a b,c=>by
  cases c with
  |and c d=>
   show (PyData.eqv (f0 a) (f0 c)&&(PyData.eqv (f0 b) (f0 d)&&true))=true↔_
   rw [Bool.and_true,and_eq_true,f9 a c,f9 b d];exact ⟨fun h=>(by rw [h.1,h.2]),fun h=>(by cases h;exact ⟨rfl,rfl⟩)⟩
  |_=>exact jI rfl rfl
 |.or a b,c=>by
  cases c with
  |or c d=>
   show (PyData.eqv (f0 a) (f0 c)&&(PyData.eqv (f0 b) (f0 d)&&true))=true↔_
   rw [Bool.and_true,and_eq_true,f9 a c,f9 b d];exact ⟨fun h=>(by rw [h.1,h.2]),fun h=>(by cases h;exact ⟨rfl,rfl⟩)⟩
  |_=>exact jI rfl rfl
 |.till a b,c=>by
  cases c with
  |till c d=>
   show (PyData.eqv (f0 a) (f0 c)&&(PyData.eqv (f0 b) (f0 d)&&true))=true↔_
   rw [Bool.and_true,and_eq_true,f9 a c,f9 b d];exact ⟨fun h=>(by rw [h.1,h.2]),fun h=>(by cases h;exact ⟨rfl,rfl⟩)⟩
  |_=>exact jI rfl rfl
structure ja {α:Type} (e:α->T) (d:α->PyData) (n:Nat) (P:α->Prop):Prop where
 dat:∀a m,P a->n<=m->cu m (e a)=some (d a)
 eq:∀a c,PyData.eqv (d a) (d c)=true↔a=c
theorem kC (n:Nat):ja aU f0 n (fun s=>dep s<=n):=⟨fun a m h hm=>dP a m (le_trans h hm),f9⟩
theorem Ax:ja T.str PyData.str 0 (fun _=>True):=⟨fun a m _ _=>io m a,fun _ _=>beq_iff_eq⟩
theorem rC:ja T.bool PyData.bool 0 (fun _=>True):=⟨fun a m _ _=>yx m a,fun _ _=>beq_iff_eq⟩
theorem Ay:ja (fun n:Nat=>T.int n) (fun n:Nat=>PyData.int n) 0 (fun _=>True):=⟨fun a m _ _=>qg m a,fun a c=>by show (((a:Int)==(c:Int))=true)↔_;rw [beq_iff_eq];exact ⟨fun h=>ofNat.inj h,fun h=>by rw [h]⟩⟩
section
variable {α:Type} {e:α->T} {d:α->PyData} {n:Nat} {P:α->Prop}
theorem ja.all (E:ja e d n P){m:Nat}(hm:n<=m):∀l:List α,(∀a∈l,P a)->fi (cu m) (l.map e)=some (l.map d)
 | [],_=>rfl
 |a::l,h=>by rw [map_cons,fi,E.dat a m (h a (.head _)) hm];simp only [E.all hm l fun b hb=>h b (.tail _ hb)];rfl
theorem ja.eqs (E:ja e d n P):∀l l':List α,PyData.eqvAll (l.map d) (l'.map d)=true↔l=l'
 | [],[]=>⟨fun _=>rfl,fun _=>rfl⟩
 | [],_::_=>⟨fun h=>(by cases h),fun h=>(by cases h)⟩
 |_::_,[]=>⟨fun h=>(by cases h),fun h=>(by cases h)⟩
 |a::l,c::l'=>by
  show (PyData.eqv (d a) (d c)&&PyData.eqvAll (l.map d) (l'.map d))=true↔_
  rw [and_eq_true,E.eq,E.eqs l l']
  exact ⟨fun h=>(by rw [h.1,h.2]),fun h=>(by cases h;exact ⟨rfl,rfl⟩)⟩
theorem ja.tup (E:ja e d n P):ja (fun l:List α=>T.tup (l.map e)) (fun l=>PyData.tuple (l.map d)) (n+1) (fun l=>∀a∈l,P a):=
 ⟨fun l m h hm=>by
  obtain ⟨m,rfl⟩:=Nat.exists_eq_add_of_le' hm
  show (fi (cu (m+n)) (l.map e)).map PyData.tuple=_
  rw [E.all (le_add_left _ _) l h];rfl,fun a c=>E.eqs a c⟩
theorem ja.lst (E:ja e d n P):ja (fun l:List α=>T.lst (l.map e)) (fun l=>PyData.list (l.map d)) (n+1) (fun l=>∀a∈l,P a):=
 ⟨fun l m h hm=>by
  obtain ⟨m,rfl⟩:=Nat.exists_eq_add_of_le' hm
  show (fi (cu (m+n)) (l.map e)).map PyData.list=_
  rw [E.all (le_add_left _ _) l h];rfl,fun a c=>E.eqs a c⟩
variable [DecidableEq α]
theorem ja.eqb (E:ja e d n P)(a c:α):PyData.eqv (d a) (d c)=decide (a=c):=by
 cases h:PyData.eqv (d a) (d c) with
 |true=>exact (decide_eq_true ((E.eq a c).mp h)).symm
 |false=>exact (decide_eq_false fun q=>by rw [(E.eq a c).mpr q] at h;cases h).symm
theorem ja.is (E:ja e d n P)(hn:n<=cG){a c:α}(ha:P a)(hc:P c):cQ (e a) (e c)=some (decide (a=c)):=by
 rw [cQ,E.dat a cG ha hn,E.dat c cG hc hn];exact congrArg some (E.eqb a c)
theorem ja.isN (E:ja e d n P)(hn:n<=cG){a c:α}(ha:P a)(hc:P c):iD (e a) (e c)=some (!decide (a=c)):=by rw [iD,E.is hn ha hc];rfl
theorem ja.mem (E:ja e d n P)(hn:n<=cG){a:α}{l:List α}(ha:P a)(hl:∀c∈l,P c){s:T}(hs:iM s=some (l.map e)):lr (e a) s=some (decide (a∈l)):=by
 rw [lr,hs]
 show o2 (cu cG (e a)) (nc (l.map e)) _=_
 rw [E.dat a cG ha hn,nc,E.all hn l hl]
 refine congrArg some ?_
 show (l.map d).any _=_
 rw [Bool.eq_iff_iff,any_eq_true,decide_eq_true_eq]
 constructor
 .rintro ⟨y,hy,h⟩
  obtain ⟨c,hc,rfl⟩:=aG hy
  rw [<-(E.eq c a).mp h];exact hc
 .exact fun h=>⟨d a,eL ⟨a,h,rfl⟩,(E.eq a a).mpr rfl⟩
theorem ja.nin (E:ja e d n P)(hn:n<=cG){a:α}{l:List α}(ha:P a)(hl:∀c∈l,P c){s:T}(hs:iM s=some (l.map e)):iz (e a) s=some (!decide (a∈l)):=by rw [iz,E.mem hn ha hl hs];rfl
omit [DecidableEq α] in
theorem mP {z:Type}(f:α->z)(p:z->Bool):∀l:List α,(l.map f).findIdx? p=l.findIdx? (p ∘ f)
 | []=>rfl
 |a::l=>by rw [map_cons,findIdx?_cons,findIdx?_cons,mP f p l];rfl
theorem mQ {a:α}:∀{l:List α},a∈l->l.findIdx? (fun c=>decide (c=a))=some (l.idxOf a)
 | [],h=>by cases h
 |c::l,h=>by
  rw [findIdx?_cons,List.idxOf_cons]
  by_cases q:c=a
  .rw [decide_eq_true q,beq_iff_eq.mpr q];rfl
  .rw [decide_eq_false q,beq_eq_false_iff_ne.mpr q]
   have:a∈l:=by cases h with
    |head=>exact absurd rfl q
    |tail _ h=>exact h
   rw [mQ this];rfl
theorem ja.idx (E:ja e d n P)(hn:n<=cG){a:α}{l:List α}(ha:P a)(hl:∀c∈l,P c)(hm:a∈l):eG (.lst (l.map e)) (e a)=some (.int (l.idxOf a)):=by
 show o2 (cu cG (e a)) (nc (l.map e)) _=_
 rw [E.dat a cG ha hn,nc,E.all hn l hl]
 show o1 ((l.map d).findIdx? fun y=>PyData.eqv y (d a)) _=_
 rw [mP,show (fun y=>PyData.eqv y (d a)) ∘ d=fun c=>decide (c=a) from funext fun c=>E.eqb c a,mQ hm];rfl
end
end
end Mine
namespace Mine
noncomputable section
open PySem
theorem au {o r:du}{t:T}{J:Sg}{k:PK T}(h:o=.ret t J)(h2:k t J=r):f8 o k=r:=by rw [h,f8];exact h2
theorem az {α:Type}{o:Option α}{a:α}{J:Sg}{k:PK α}{r:du}(h:o=some a)(h2:k a J=r):up o J k=r:=by rw [h];exact h2
theorem mt {α:Type}{o:Option α}{a:α}{f:α->du}{b r:du}(h:o=some a)(h2:f a=r):(match (generalizing:=false) o with |some a=>f a |none=>b)=r:=by rw [h];exact h2
theorem EX {c:Bool}{a b r:du}(h:c=true)(h2:a=r):(bif c then a else b)=r:=by rw [h];exact h2
theorem rW {c:Bool}{a b r:du}(h:c=false)(h2:b=r):(bif c then a else b)=r:=by rw [h];exact h2
@[reducible] noncomputable def C8 (bd:PB)(body:PS)(c:jQ)(v:T)(V:aY)(J:S5)(k:PK aY):du:=match bd v V with
 |none=>.bad
 |some ρ'=>body c ρ' J k
theorem tR {l:List T}{lo hi:Option Int}:cg (.lst l) lo hi=some (.lst (cut lo hi l)):=by unfold cg;rfl
def bu (Q:T->Sg->Prop)(o:du):Prop:=∃t J,o=.ret t J/\Q t J
section
variable {Q:T->Sg->Prop}
theorem b8 {t:T}{J:Sg}(h:Q t J):bu Q (.ret t J):=⟨t,J,rfl,h⟩
theorem gp {o:du}{t:T}{J:Sg}{k:PK T}(h:o=.ret t J)(h2:bu Q (k t J)):bu Q (f8 o k):=by rw [h,f8];exact h2
theorem cR {P:T->Sg->Prop}{o:du}{k:PK T}(h:bu P o)(h2:∀t J,P t J->bu Q (k t J)):bu Q (f8 o k):=by obtain ⟨t,J,rfl,h⟩:=h;rw [f8];exact h2 t J h
theorem aM {α:Type}{o:Option α}{a:α}{J:Sg}{k:PK α}(h:o=some a)(h2:bu Q (k a J)):bu Q (up o J k):=by rw [h];exact h2
theorem dX {α:Type}{o:Option α}{a:α}{f:α->du}{b:du}(h:o=some a)(h2:bu Q (f a)):bu Q (match (generalizing:=false) o with |some a=>f a |none=>b):=by rw [h];exact h2
theorem n9 {V:aY}{i:Nat}{t:T}{J:Sg}{k:PK T}(h:b9 V i=some t)(h2:bu Q (k t J)):bu Q (up (b9 V i) J k):=by rw [h];exact h2
theorem gq {c:Bool}{a b:du}(h1:c=true->bu Q a)(h2:c=false->bu Q b):bu Q (bif c then a else b):=by
 cases c with
 |true=>exact h1 rfl
 |false=>exact h2 rfl
theorem rX {x y:du}(h:bu Q y):bu Q (bif false then x else y):=h
theorem EY {x y:du}(h:bu Q x):bu Q (bif true then x else y):=h
theorem CR {l:List T}{x y:du}(hl:Nat.ble l.length 100=true)(h:bu Q x):bu Q (bif cq l.length then x else y):=by
 rw [show cq l.length=true from ble_eq_true_of_le (le_trans (le_of_ble_eq_true hl) (by decide))];exact h
theorem mI {α:Type}{e:α->T}{bd:PB}{body:PS}{c:jQ}{k:PK aY}(I:List α->aY->Sg->Prop){l:List α}
  (h:∀pre a suf V J,l=pre++a::suf->I pre V J->∀k,(∀ρ' J',I (pre++[a]) ρ' J'->bu Q (k ρ' J'))->bu Q (C8 bd body c (e a) V J k))(h1:∀V J,I l V J->bu Q (k V J)):
  ∀{suf pre:List α} {V:aY} {J:Sg},l=pre++suf->I pre V J->bu Q (dB bd body c (suf.map e) V J k)
 | [],pre,V,J,hl,hi=>h1 V J (by rw [hl,append_nil];exact hi)
 |a::suf,pre,V,J,hl,hi=>h pre a suf V J hl hi _ fun ρ' J' hi'=>mI I h h1 (suf:=suf) (pre:=pre++[a]) (by rw [hl,List.append_assoc];rfl) hi'
theorem jY {t:PT}{body:PS}{c:jQ}{k:PK aY}{S:Type}(I:S->aY->Sg->Prop)(go:S->Bool)(ms:S->Nat)(ht:∀s V J,I s V J->∀k:PK Bool,bu Q (k (go s) J)->bu Q (t c V J k))
  (hb:∀s V J,I s V J->go s=true->∀k,(∀s' ρ' J',ms s' < ms s->I s' ρ' J'->bu Q (k ρ' J'))->bu Q (body c V J k))(h1:∀s V J,I s V J->go s=false->bu Q (k V J)):
  ∀{n:Nat} {s:S} {V:aY} {J:Sg},ms s < n->I s V J->bu Q (iJ t body c n V J k)
 | 0,s,V,J,h,_=>absurd h (Nat.not_lt_zero _)
 |n+1,s,V,J,h,hi=>by rw [qA];exact ht s V J hi _ (gq (fun e=>hb s V J hi e _ fun s' ρ' J' h' hi'=>jY I go ms ht hb h1 (n:=n) (lt_of_lt_of_le h' (le_of_lt_succ h)) hi') (h1 s V J hi))
end
theorem fC {α:Type}{e:α->T}{bd:PB}{cond:PT}{elt:PE}{c:jQ}{V:aY}{J:Sg}{k:PK (List T)}{r:du}(p:α->Bool)(f:α->T):∀{l:List α} {acc:List T},
  (∀a∈l,∃ρ',bd (e a) V=some ρ'/\(∀k,cond c ρ' J k=k (p a) J)/\(p a=true->∀k,elt c ρ' J k=k (f a) J))->k (acc++(l.filter p).map f) J=r->bO bd cond elt c V (l.map e) J acc k=r
 | [],acc,_,hk=>by rw [List.filter_nil,map_nil,append_nil] at hk;rw [map_nil,qh];exact hk
 |a::l,acc,h,hk=>by
  obtain ⟨ρ',h1,h2,h3⟩:=h a (.head _)
  have ih:=fun acc=>fC (e:=e) (bd:=bd) (cond:=cond) (elt:=elt) (c:=c) (V:=V) (J:=J) (k:=k) (r:=r) p f (l:=l) (acc:=acc) fun b hb=>h b (.tail _ hb)
  rw [map_cons,lJ]
  simp only [h1,h2]
  cases e:p a with
  |false=>rw [List.filter_cons_of_neg (by rw [e];decide)] at hk;exact ih acc hk
  |true=>
   rw [cond_true,h3 e]
   rw [List.filter_cons_of_pos e,map_cons] at hk
   exact ih (acc++[f a]) (by rw [List.append_assoc];exact hk)
theorem dg {α:Type}{e:α->T}{bd:PB}{elt:PE}{c:jQ}{V:aY}{J:Sg}{k:PK (List T)}{r:du}(f:α->T){l:List α}(h:∀a∈l,∃ρ',bd (e a) V=some ρ'/\∀k,elt c ρ' J k=k (f a) J)(hk:k (l.map f) J=r):bO bd bB elt c V (l.map e) J [] k=r:=
 fC (fun _=>true) f (fun a ha=>let ⟨ρ',h1,h2⟩:=h a ha;⟨ρ',h1,fun _=>rfl,fun _=>h2⟩) (by rw [List.filter_eq_self.mpr fun _ _=>rfl];exact hk)
theorem uA {Q:T->Sg->Prop}{α:Type}{e:α->T}{bd:PB}{cond:PT}{elt:PE}{c:jQ}{V:aY}{J:Sg}{k:PK (List T)}(p:α->Bool)(f:α->T){l:List α}
  (h:∀a∈l,∃ρ',bd (e a) V=some ρ'/\(∀k,cond c ρ' J k=k (p a) J)/\(p a=true->∀k,elt c ρ' J k=k (f a) J))(hk:bu Q (k ((l.filter p).map f) J)):bu Q (bO bd cond elt c V (l.map e) J [] k):=by
 rw [fC p f h rfl];exact hk
theorem f6 {Q:T->Sg->Prop}{α:Type}{e:α->T}{bd:PB}{elt:PE}{c:jQ}{V:aY}{J:Sg}{k:PK (List T)}(f:α->T){l:List α}(h:∀a∈l,∃ρ',bd (e a) V=some ρ'/\∀k,elt c ρ' J k=k (f a) J)(hk:bu Q (k (l.map f) J)):bu Q (bO bd bB elt c V (l.map e) J [] k):=by
 rw [dg f h rfl];exact hk
structure sg {α:Type} (e:α->T) (H:α->Ky):Prop where
 ky:∀a,xT (e a)=some (H a)
 inj:∀a c,H a=H c->a=c
section
variable {α:Type} {e:α->T} {H:α->Ky} [DecidableEq α]
omit [DecidableEq α] in
theorem sg.kys (K:sg e H):∀l:List α,fy (l.map e)=some (l.map H)
 | []=>rfl
 |a::l=>by
  have:=K.kys l
  rw [fy] at this ⊢
  rw [map_cons,vB,K.ky a,this];rfl
theorem sg.at_ (K:sg e H)(l:List α)(a:α):pQ (l.map H) (H a)=if a∈l then some (l.idxOf a) else none:=by
 unfold pQ
 rw [mP]
 have:(fun x=>decide (x=H a)) ∘ H=fun c=>decide (c=a):=funext fun c=>by
  show decide (H c=H a)=_
  by_cases q:c=a
  .rw [q,decide_eq_true rfl,decide_eq_true rfl]
  .rw [decide_eq_false q,decide_eq_false fun h=>q (K.inj c a h)]
 rw [this]
 by_cases h:a∈l
 .rw [if_pos h,mQ h]
 .rw [if_neg h,List.findIdx?_eq_none_iff]
  exact fun x hx=>decide_eq_false fun q=>h (q▸hx)
theorem sg.fd (K:sg e H)(l:List α)(a:α):kA (l.map e) (e a)=some (if a∈l then some (l.idxOf a) else none):=by
 rw [kA,K.kys,K.ky];exact congrArg some (K.at_ l a)
theorem pY {z:Type}(f:α->z):∀{l:List α} {a:α},a∈l->(l.map f)[l.idxOf a]?=some (f a)
 |c::l,a,h=>by
  rw [List.idxOf_cons]
  by_cases q:c=a
  .rw [beq_iff_eq.mpr q,cond_true,q];rfl
  .rw [beq_eq_false_iff_ne.mpr q,cond_false,map_cons,List.getElem?_cons_succ]
   exact pY f (by cases h with
    |head=>exact absurd rfl q
    |tail _ h=>exact h)
theorem sg.get (K:sg e H){l:List α}{f:α->T}{a:α}(h:a∈l):idxD (.dct (l.map e) (l.map f)) (e a)=some (f a):=by
 show o1 (kA (l.map e) (e a)) _=_
 rw [K.fd,if_pos h];exact pY f h
theorem sg.has (K:sg e H){l:List α}{vs:List T}(a:α):Bj (e a) (.dct (l.map e) vs)=some (decide (a∈l)):=by
 show o1 (kA (l.map e) (e a)) _=_
 rw [K.fd]
 by_cases h:a∈l
 .rw [if_pos h,decide_eq_true h];rfl
 .rw [if_neg h,decide_eq_false h];rfl
theorem sg.put (K:sg e H){l:List α}{vs:List T}{a:α}{v:T}(h:a∉l)(hl:l.length < lim):er (.dct (l.map e) vs) (e a) v=some (.dct ((l++[a]).map e) (vs++[v])):=by
 show o1 (kA (l.map e) (e a)) _=_
 rw [K.fd,if_neg h]
 show oU _ _=_
 rw [oU,length_map,show cq (l.length+1)=true from ble_eq_true_of_le hl,map_append];rfl
theorem sg.fresh (K:sg e H):∀(l us:List α),(us++l).Nodup->eH (l.map e) (us.map e)=true
 | [],_,_=>rfl
 |a::l,us,h=>by
  have ha:a∉us:=fun q=>(aJ h).2.2 a q a (.head _) rfl
  rw [map_cons,mH,K.fd,if_neg ha]
  show eH (l.map e) (us.map e++[e a])=true
  have:=K.fresh l (us++[a]) (by rw [List.append_assoc];exact h)
  rw [map_append] at this;exact this
end
structure Kn where
 p:Nat
 g:List Bool
noncomputable instance:DecidableEq Kn:=fun a b=>Classical.propDecidable (a=b)
theorem xU:∀{a c:Kn},a.p=c.p->a.g=c.g->a=c
 | ⟨_,_⟩,⟨_,_⟩,rfl,rfl=>rfl
noncomputable def aV (k:Kn):T:=.tup [.int k.p,.tup (k.g.map .bool)]
noncomputable def Fq (k:Kn):PyData:=.tuple [.int k.p,.tuple (k.g.map .bool)]
def Hf (k:Kn):Ky:=.tup [.int k.p,.tup (k.g.map fun b=>.int (uF b))]
theorem mu (n:Nat):∀g:List Bool,jT.go (jT n) (g.map .bool)=some (g.map fun b=>.int (uF b))
 | []=>rfl
 |b::g=>by
  rw [map_cons,vB,mu n g,show jT n (.bool b)=some (.int (uF b)) by cases n<;>rfl];rfl
theorem AO {a b:Bool}(h:uF a=uF b):a=b:=by revert h;cases a<;>cases b<;>decide
theorem kM:∀{g g':List Bool},(g.map fun b=>Ky.int (uF b))=g'.map (fun b=>Ky.int (uF b))->g=g'
 | [],[],_=>rfl
 | [],_::_,h=>by cases h
 |_::_,[],h=>by cases h
 |a::g,b::g',h=>by
  have h1:=List.cons.inj h
  rw [AO (Ky.int.inj h1.1),kM h1.2]
theorem ck:sg aV Hf:=⟨fun a=>by
  show o1 (jT.go (jT 5) [.int a.p,.tup (a.g.map .bool)]) _=_
  rw [vB,vB,show jT 5 (.tup (a.g.map .bool))=some (.tup (a.g.map fun b=>.int (uF b))) by rw [Bd,mu];rfl];rfl,
 fun a c h=>by
  have h1:=List.cons.inj (Ky.tup.inj h)
  have h2:=List.cons.inj h1.2
  exact xU (ofNat.inj (Ky.int.inj h1.1)) (kM (Ky.tup.inj h2.1))⟩
theorem kF:ja aV Fq 2 (fun _=>True):=⟨fun a m _ hm=>by
  obtain ⟨m,rfl⟩:=Nat.exists_eq_add_of_le' hm
  show (fi (cu (m+1)) [.int a.p,.tup (a.g.map .bool)]).map PyData.tuple=_
  rw [fi,qg,fi,rC.tup.dat a.g (m+1) (fun _ _=>trivial) (le_add_left _ _)];rfl,
 fun a c=>by
  show (((a.p:Int)==(c.p:Int))&&(PyData.eqvAll (a.g.map .bool) (c.g.map .bool)&&true))=true↔_
  rw [Bool.and_true,and_eq_true,beq_iff_eq,rC.eqs]
  exact ⟨fun h=>xU (ofNat.inj h.1) h.2,fun h=>by rw [h];exact ⟨rfl,rfl⟩⟩⟩
def kh (l:List Kn):T:=.dct (l.map aV) (l.map fun _=>.bool true)
def eV (b p m kn:T)(K:List Kn)(n:Nat)(th:Kn->List Kn):T:=.obj 10 [b,p,m,kn,.lst (K.map aV),.int n,.dct (K.map aV) (K.map fun k=>.lst ((th k).map aV))]
theorem Co (l:List Kn)(k:Kn):Bj (aV k) (kh l)=some (decide (k∈l)):=ck.has k
theorem ii (l:List Kn)(k:Kn):eC (aV k) (kh l)=some (!decide (k∈l)):=by show (Bj _ _).map _=_;rw [Co];rfl
theorem jz {l:List Kn}{k:Kn}(h:k∉l)(hl:l.length < lim):er (kh l) (aV k) (.bool true)=some (kh (l++[k])):=by
 rw [kh,ck.put h hl,kh,map_append (f:=fun _=>T.bool true)];rfl
theorem fY (a c:Int):cQ (.int a) (.int c)=some (decide (a=c)):=congrArg some (by show (a==c)=_;by_cases h:a=c<;>simp [h])
def A3 (s:Kn×Nat):T:=.tup [aV s.1,.int s.2]
def G3 (s:Kn×Nat):PyData:=.tuple [Fq s.1,.int s.2]
theorem CT:ja A3 G3 3 (fun _=>True):=⟨fun a m _ hm=>by
  obtain ⟨m,rfl⟩:=Nat.exists_eq_add_of_le' hm
  show (fi (cu (m+2)) [aV a.1,.int a.2]).map PyData.tuple=_
  rw [fi,kF.dat a.1 (m+2) trivial (le_add_left _ _),fi,qg];rfl,
 fun a c=>by
  show (PyData.eqv (Fq a.1) (Fq c.1)&&(((a.2:Int)==(c.2:Int))&&true))=true↔_
  rw [Bool.and_true,and_eq_true,beq_iff_eq,kF.eq]
  exact ⟨fun h=>Prod.ext h.1 (ofNat.inj h.2),fun h=>by rw [h];exact ⟨rfl,rfl⟩⟩⟩
theorem ja.some {α:Type}{e:α->T}{d:α->PyData}{n:Nat}(E:ja e d n (fun _=>True))(hn:n < cG)(l:List α):iD (.lst (l.map e)) (.lst [])=Option.some (!l.isEmpty):=by
 have h1:=E.lst.dat l cG (fun _ _=>trivial) hn
 show (cQ _ _).map _=_
 rw [cQ,h1]
 cases l with
 |nil=>rfl
 |cons a l=>rfl
theorem tE {l:List T}{v:T}(h:l.length < lim):dC (.lst l) v=some (.lst (l++[v])):=by
 show oU _ _=_
 rw [oU,show cq (l.length+1)=true from ble_eq_true_of_le h];rfl
theorem yr {l m:List T}(h:l.length+m.length<=lim):jH (.lst l) (.lst m)=some (.lst (l++m)):=by
 show oU _ _=_
 rw [oU,show cq (l.length+m.length)=true from ble_eq_true_of_le h];rfl
theorem kq:lim=1000000:=rfl
theorem d7 {α:Type}{e:α->T}{l:List α}(a:α)(h:l.length < lim):dC (.lst (l.map e)) (e a)=some (.lst ((l++[a]).map e)):=by
 rw [tE (by rw [length_map];exact h),map_append];rfl
theorem qc {α:Type}{e:α->T}{l m:List α}(h:l.length+m.length<=lim):jH (.lst (l.map e)) (.lst (m.map e))=some (.lst ((l++m).map e)):=by
 rw [yr (by rw [length_map,length_map];exact h),map_append]
theorem sE {i:Nat}(h:i<=lim):sm (i:Int)=true:=ble_eq_true_of_le (le_trans (m:=i) (le_of_eq (Int.natAbs_natCast i)) (le_trans h (by decide)))
theorem jn {i n:Nat}(h:i < n):seqIndex? (i:Int) n=some i:=by
 show (if (decide (0<=(if (i:Int) < 0 then (i:Int)+n else i))&&decide ((if (i:Int) < 0 then (i:Int)+n else i) < (n:Int)))=true then some (if (i:Int) < 0 then (i:Int)+n else i).toNat else none)=some i
 rw [if_neg (Int.not_lt.mpr (natCast_nonneg i)),decide_eq_true (natCast_nonneg i),decide_eq_true (bP h)];rfl
theorem tC {α:Type}{e:α->T}{l:List α}{i:Nat}{a:α}(h:l[i]?=some a)(hi:i<=lim):zi i (l.map e)=some (e a):=by
 rw [zi,sE hi,cond_true,jn (by rw [length_map];exact (aj h).1)]
 show (l.map e)[i]?=_
 rw [getElem?_map,h];rfl
theorem A9 {α z:Type}(a:α)(f:α->Option z):o1 (some a) f=f a:=rfl
theorem uq (xs:List T)(i:Int):aA (.lst xs) (.int i)=zi i xs:=by
 rw [aA,show iG (.int i)=some i from rfl,A9,show iM (.lst xs)=some xs from rfl]
theorem de {α:Type}{e:α->T}{l:List α}{i:Nat}{a:α}(h:l[i]?=some a)(hi:i<=lim):aA (.lst (l.map e)) (.int i)=some (e a):=(uq _ _).trans (tC h hi)
theorem tT {z:Type}{f:Kn->z}{o:Kn}{v:z}:∀{K:List Kn},K.Nodup->o∈K->(K.map f).set (K.idxOf o) v=K.map fun k=>if k=o then v else f k
 |k::K,hn,ho=>by
  have h1:=aT hn
  rw [List.idxOf_cons]
  by_cases q:k=o
  .subst q
   rw [beq_iff_eq.mpr rfl,cond_true,map_cons,List.set_cons_zero,map_cons,if_pos rfl]
   refine congrArg _ (map_congr_left fun x hx=>?_)
   exact (if_neg fun (e:x=k)=>h1.1 (e▸hx)).symm
  .rw [beq_eq_false_iff_ne.mpr q,cond_false,map_cons,List.set_cons_succ,map_cons,if_neg q,tT h1.2 (by cases ho with
    |head=>exact absurd rfl q
    |tail _ h=>exact h)]
theorem ro {K:List Kn}{kn:Kn}(hK:K.Nodup):∀(os:List Kn) (h:Kn->List Kn),(∀o∈os,o∈K)->(∀k,(h k).length+os.length<=lim)->
  ∃h':Kn->List Kn,ku (K.map aV) (aV kn) (os.map aV) (K.map fun k=>(h k).map aV)=some (K.map fun k=>(h' k).map aV)/\(∀k x,x∈h' k↔x∈h k\/(x=kn/\k∈os))/\∀k,(h' k).length<=(h k).length+os.length
 | [],h,_,_=>⟨h,rfl,fun k x=>⟨.inl,fun q=>q.elim id fun q=>nomatch q.2⟩,fun k=>le_refl _⟩
 |o::os,h,hs,hl=>by
  have ho:=hs o (.head _)
  have l1:cq ((h o).length+1)=true:=ble_eq_true_of_le (by have:=hl o;rw [length_cons] at this;lia -abstractProof)
  obtain ⟨h',e1,e2,e3⟩:=ro (kn:=kn) hK os (fun k=>if k=o then h k++[kn] else h k) (fun x hx=>hs x (.tail _ hx)) fun k=>by
   have:=hl k
   rw [length_cons] at this
   by_cases q:k=o
   .simp only [if_pos q,List.length_append,length_cons,length_nil];lia
   .simp only [if_neg q];lia
  refine ⟨h',?_,fun k x=>?_,fun k=>?_⟩
  .rw [map_cons,Cx,ck.fd,if_pos ho]
   show (o1 (K.map fun k=>(h k).map aV)[K.idxOf o]? _)=_
   rw [pY _ ho]
   show (bif cq (((h o).map aV).length+1) then ku _ _ _ ((K.map fun k=>(h k).map aV).set (K.idxOf o) ((h o).map aV++[aV kn])) else none)=_
   rw [length_map,l1,cond_true,tT hK ho,<-e1]
   congr 1
   refine map_congr_left fun k hk=>?_
   by_cases q:k=o
   .rw [if_pos q,if_pos q,q,map_append];rfl
   .rw [if_neg q,if_neg q]
  .refine (e2 k x).trans ?_
   by_cases q:k=o
   .rw [if_pos q,mem_append,mem_singleton]
    constructor
    .rintro ((h |h) |h)
     .exact .inl h
     .exact .inr ⟨h,q▸.head _⟩
     .exact .inr ⟨h.1,.tail _ h.2⟩
    .rintro (h |h)
     .exact .inl (.inl h)
     .exact .inl (.inr h.1)
   .rw [if_neg q,mem_cons]
    exact ⟨fun h=>h.imp id fun h=>⟨h.1,.inr h.2⟩,fun h=>h.imp id fun h=>⟨h.1,h.2.resolve_left q⟩⟩
  .have:=e3 k
   rw [length_cons]
   by_cases q:k=o
   .simp only [if_pos q,List.length_append,length_cons,length_nil] at this;lia
   .simp only [if_neg q] at this;lia
theorem ri {K:List Kn}{th:Kn->List Kn}(hK:K.Nodup)(hc:∀k∈K,∀y∈th k,y∈K)(hw:∀k∈K,(th k).length<=1000):∀(ns:List Kn) (h:Kn->List Kn),(∀n∈ns,n∈K)->(∀k,(h k).length+ns.length * 1000<=lim)->
  ∃h':Kn->List Kn,rj (K.map aV) (.dct (K.map aV) (K.map fun k=>.lst ((th k).map aV))) (ns.map aV) (K.map fun k=>(h k).map aV)=some (K.map fun k=>(h' k).map aV)/\∀k x,x∈h' k↔x∈h k\/(x∈ns/\k∈th x)
 | [],h,_,_=>⟨h,rfl,fun k x=>⟨.inl,fun q=>q.elim id fun q=>nomatch q.1⟩⟩
 |n::ns,h,hs,hl=>by
  have hn:=hs n (.head _)
  have lw:=hw n hn
  obtain ⟨ha,e1,e2,e3⟩:=ro (kn:=n) hK (th n) h (fun o ho=>hc n hn o ho) fun k=>by have:=hl k;rw [length_cons] at this;lia
  obtain ⟨h2,e4,e5⟩:=ri hK hc hw ns ha (fun x hx=>hs x (.tail _ hx)) fun k=>by have:=hl k;have:=e3 k;rw [length_cons] at *;lia
  refine ⟨h2,?_,fun k x=>?_⟩
  .rw [map_cons,Cw,ck.get hn]
   show (o1 (ku (K.map aV) (aV n) ((th n).map aV) _) _)=_
   rw [e1];exact e4
  .rw [e5,e2]
   constructor
   .rintro ((h | ⟨rfl,h⟩) | ⟨h,h'⟩)
    .exact .inl h
    .exact .inr ⟨.head _,h⟩
    .exact .inr ⟨.tail _ h,h'⟩
   .rintro (h | ⟨h,h'⟩)
    .exact .inl (.inl h)
    .rcases an h with rfl |h
     .exact .inl (.inr ⟨rfl,h'⟩)
     .exact .inr ⟨h,h'⟩
theorem Ac {b p m kn:T}{K:List Kn}{bg:Nat}{th:Kn->List Kn}(hK:K.Nodup)(hl:K.length<=1000)(hc:∀k∈K,∀y∈th k,y∈K)(hw:∀k∈K,(th k).length<=1000):
  ∃bk:Kn->List Kn,xP (eV b p m kn K bg th)=some (.dct (K.map aV) (K.map fun k=>.lst ((bk k).map aV)))/\∀k x,x∈bk k↔x∈K/\k∈th x:=by
 obtain ⟨bk,e1,e2⟩:=ri hK hc hw K (fun _=>[]) (fun _ h=>h) fun k=>by rw [kq,length_nil];lia -abstractProof
 refine ⟨bk,?_,fun k x=>⟨fun h=>((e2 k x).mp h).elim (fun h=>nomatch h) id,fun h=>(e2 k x).mpr (.inr h)⟩⟩
 show (bif cq (K.map aV).length&&eH (K.map aV) [] then o1 (rj (K.map aV) _ (K.map aV) ((K.map aV).map fun _=>[])) fun ds=>some (T.dct (K.map aV) (ds.map .lst)) else none)=_
 have f1:cq (K.map aV).length=true:=by rw [length_map];exact ble_eq_true_of_le (by rw [kq];lia -abstractProof)
 have f2:eH (K.map aV) []=true:=ck.fresh K [] hK
 rw [f1,f2,map_map]
 show o1 (rj _ _ _ (K.map fun k=>((fun _=>[]) k:List Kn).map aV)) _=_
 rw [e1]
 show some (T.dct (K.map aV) ((K.map fun k=>(bk k).map aV).map .lst))=_
 rw [map_map];rfl
theorem wI (n:Nat):Builtin.Range.rangeSize 0 n 1=n:=by
 unfold Builtin.Range.rangeSize
 simp only [show (1:Int) > 0 by decide,if_true,Int.ediv_one]
 split<;>lia -abstractProof
theorem fO {n:Nat}(h:n<=100000):zd [.int n]=some ((List.range n).map fun j:Nat=>T.int j):=by
 have e:em 0 n 1=(List.range n).map fun j:Nat=>T.int j:=by
  rw [em,wI]
  exact map_congr_left fun k _=>by rw [Int.zero_add,Int.mul_one]
 unfold zd
 show rg 0 n=_
 rw [rg,e,show sm 0=true from rfl,sE (by rw [kq];lia),length_map,length_range,show cq n=true from ble_eq_true_of_le (by rw [kq];lia)];rfl
theorem iL {α:Type}(q:α->Bool):∀C:List α,dT (C.map fun k=>.bool (q k))=some (C.map q)
 | []=>rfl
 |a::C=>by rw [map_cons,show dT (_::C.map fun k=>.bool (q k))=o2 (some (q a)) (dT (C.map fun k=>.bool (q k))) fun b bs=>some (b::bs) from rfl,iL q C];rfl
theorem any_map {α:Type}(C:List α)(q:α->Bool):yU (.lst (C.map fun k=>.bool (q k)))=some (.bool (C.any q)):=by
 show o1 (dT _) _=_
 rw [iL]
 exact congrArg (fun b=>some (T.bool b)) (List.any_map.trans rfl)
theorem all_map {α:Type}(C:List α)(q:α->Bool):iH (.lst (C.map fun k=>.bool (q k)))=some (.bool (C.all q)):=by
 show o1 (dT _) _=_
 rw [iL]
 exact congrArg (fun b=>some (T.bool b)) (List.all_map.trans rfl)
theorem rK {α:Type}(l:List α):cut (some 1) none l=l.drop 1:=by
 cases l with
 |nil=>rfl
 |cons a l=>
  have e:clipAt (a::l).length 1=1:=(nr _ 1).trans (Nat.min_eq_left (succ_le_succ (zero_le _)))
  simp only [cut,Option.elim,e]
  rw [List.drop_one,List.tail_cons,length_cons,Nat.add_sub_cancel,take_length]
theorem kI {α:Type}(n:Nat)(l:List α):cut none (some (n:Int)) l=l.take n:=by
 have e:clipAt l.length n=min n l.length:=nr _ _
 simp only [cut,Option.elim,e,drop_zero,Nat.sub_zero]
 rw [<-List.take_take,take_length]
theorem rJ {α:Type}(l:List α):cut none (some (-1)) l=l.dropLast:=by
 have e:clipAt l.length (-1)=l.length - 1:=uC _
 simp only [cut,Option.elim,e,drop_zero,Nat.sub_zero,List.dropLast_eq_take]
theorem yA {α:Type}(l:List α)(a:α):cut (some (-1)) none (l++[a])=[a]:=by
 have e:clipAt (l++[a]).length (-1)=l.length:=by rw [uC,List.length_append];rfl
 simp only [cut,Option.elim,e]
 rw [List.drop_left,List.length_append,length_cons,length_nil,Nat.add_sub_cancel_left];rfl
theorem lH {α z:Type}(f:α->z)(lo hi:Option Int)(l:List α):cut lo hi (l.map f)=(cut lo hi l).map f:=by
 unfold cut;rw [length_map,List.map_take,List.map_drop]
end
end Mine
namespace Mine.L01
noncomputable section
open PySem
abbrev kE (f:Nat):PK aY:=fun _ J=>bif lC f then .bad else .ret .none J
theorem aR {n f:Nat}{args:List T}{J:Sg}{F:eP}{o:du}(h:Ψ f=some F)(hl:Nat.beq args.length F.np=true)(hb:F.body ⟨af Ψ n⟩ (frame args F.ns) J (kE f)=o)(ho:(match o with |.ret _ _=>true |.exc _ _=>true |_=>false)=true):af Ψ (n+1) f args J=o:=by
 rw [uD,h]
 show (bif Nat.beq args.length F.np then (match F.body ⟨af Ψ n⟩ (frame args F.ns) J (kE f) with
  |.ret t J=>du.ret t J
  |.exc c J=>.exc c J
  |_=>.bad) else .bad)=o
 rw [hl,hb]
 cases o<;>first |rfl |cases ho
theorem cS {n f:Nat}{args:List T}{J:Sg}{F:eP}{Q:T->Sg->Prop}(h:Ψ f=some F)(hl:Nat.beq args.length F.np=true)(hb:bu Q (F.body ⟨af Ψ n⟩ (frame args F.ns) J (kE f))):bu Q (af Ψ (n+1) f args J):=by
 obtain ⟨t,J',h1,h2⟩:=hb
 exact ⟨t,J',aR h hl h1 rfl,h2⟩
end
end Mine.L01
section
namespace Mine.L01
noncomputable section
open PySem
variable {n:Nat} {u v w x y z t:T} {J J':Sg} {Q:T->Sg->Prop}
theorem oV (h:j9 ⟨af Ψ n⟩ [some u,none] J (kE 1)=.ret t J'):af Ψ (n+1) 1 [u] J=.ret t J':=aR (F:=⟨1,1,j9⟩) rfl rfl h rfl
theorem i0 (h:iQ ⟨af Ψ n⟩ [some u] J (kE 2)=.ret t J'):af Ψ (n+1) 2 [u] J=.ret t J':=aR (F:=⟨1,0,iQ⟩) rfl rfl h rfl
theorem eK (h:fQ ⟨af Ψ n⟩ [some u] J (kE 3)=.ret t J'):af Ψ (n+1) 3 [u] J=.ret t J':=aR (F:=⟨1,0,fQ⟩) rfl rfl h rfl
theorem cT (h:gH ⟨af Ψ n⟩ [some u,some v,none] J (kE 4)=.ret t J'):af Ψ (n+1) 4 [u,v] J=.ret t J':=aR (F:=⟨2,1,gH⟩) rfl rfl h rfl
theorem k9 (h:gI ⟨af Ψ n⟩ [some u] J (kE 5)=.ret t J'):af Ψ (n+1) 5 [u] J=.ret t J':=aR (F:=⟨1,0,gI⟩) rfl rfl h rfl
theorem rP (h:gG ⟨af Ψ n⟩ [some u,none] J (kE 6)=.ret t J'):af Ψ (n+1) 6 [u] J=.ret t J':=aR (F:=⟨1,1,gG⟩) rfl rfl h rfl
theorem tn (h:iT ⟨af Ψ n⟩ [some u,none,none,none,none] J (kE 500)=.ret t J'):af Ψ (n+1) 500 [u] J=.ret t J':=aR (F:=⟨1,4,iT⟩) rfl rfl h rfl
theorem oq (h:cE ⟨af Ψ n⟩ [some u] J (kE 7)=.ret t J'):af Ψ (n+1) 7 [u] J=.ret t J':=aR (F:=⟨1,0,cE⟩) rfl rfl h rfl
theorem cH (h:eZ ⟨af Ψ n⟩ [some u,none,none,none,none] J (kE 8)=.ret t J'):af Ψ (n+1) 8 [u] J=.ret t J':=aR (F:=⟨1,4,eZ⟩) rfl rfl h rfl
theorem vP (h:kb ⟨af Ψ n⟩ [some u,some v,some w] J (kE 9)=.ret t J'):af Ψ (n+1) 9 [u,v,w] J=.ret t J':=aR (F:=⟨3,0,kb⟩) rfl rfl h rfl
theorem dZ (h:pD ⟨af Ψ n⟩ [some u,some v,some w,some x,none] J (kE 10)=.ret t J'):af Ψ (n+1) 10 [u,v,w,x] J=.ret t J':=aR (F:=⟨4,1,pD⟩) rfl rfl h rfl
theorem nG (h:md ⟨af Ψ n⟩ [some u,some v,some w,some x] J (kE 11)=.ret t J'):af Ψ (n+1) 11 [u,v,w,x] J=.ret t J':=aR (F:=⟨4,0,md⟩) rfl rfl h rfl
theorem vQ (h:kg ⟨af Ψ n⟩ [some u,some v,some w,none] J (kE 12)=.ret t J'):af Ψ (n+1) 12 [u,v,w] J=.ret t J':=aR (F:=⟨3,1,kg⟩) rfl rfl h rfl
theorem om (h:eX ⟨af Ψ n⟩ [some u,none] J (kE 13)=.ret t J'):af Ψ (n+1) 13 [u] J=.ret t J':=aR (F:=⟨1,1,eX⟩) rfl rfl h rfl
theorem nH (h:mh ⟨af Ψ n⟩ [some u,some v,some w,some x] J (kE 14)=.ret t J'):af Ψ (n+1) 14 [u,v,w,x] J=.ret t J':=aR (F:=⟨4,0,mh⟩) rfl rfl h rfl
theorem tj (h:uI ⟨af Ψ n⟩ [some u,none,none,none,none] J (kE 35)=.ret t J'):af Ψ (n+1) 35 [u] J=.ret t J':=aR (F:=⟨1,4,uI⟩) rfl rfl h rfl
theorem ql (h:fR ⟨af Ψ n⟩ [some u,some v] J (kE 37)=.ret t J'):af Ψ (n+1) 37 [u,v] J=.ret t J':=aR (F:=⟨2,0,fR⟩) rfl rfl h rfl
theorem tm (h:iR ⟨af Ψ n⟩ [some u,some v] J (kE 15)=.ret t J'):af Ψ (n+1) 15 [u,v] J=.ret t J':=aR (F:=⟨2,0,iR⟩) rfl rfl h rfl
theorem ou (h:eY ⟨af Ψ n⟩ [some u,some v,none,none] J (kE 16)=.ret t J'):af Ψ (n+1) 16 [u,v] J=.ret t J':=aR (F:=⟨2,2,eY⟩) rfl rfl h rfl
theorem nK (h:iV ⟨af Ψ n⟩ [some u,none,none] J (kE 21)=.ret t J'):af Ψ (n+1) 21 [u] J=.ret t J':=aR (F:=⟨1,2,iV⟩) rfl rfl h rfl
theorem qm (h:fT ⟨af Ψ n⟩ [some u,none,none,none,none] J (kE 22)=.ret t J'):af Ψ (n+1) 22 [u] J=.ret t J':=aR (F:=⟨1,4,fT⟩) rfl rfl h rfl
theorem nJ (h:iU ⟨af Ψ n⟩ [some u,some v,some w,none,none] J (kE 67)=.ret t J'):af Ψ (n+1) 67 [u,v,w] J=.ret t J':=aR (F:=⟨3,2,iU⟩) rfl rfl h rfl
theorem gZ (h:gO ⟨af Ψ n⟩ [some u,none] J (kE 69)=.ret t J'):af Ψ (n+1) 69 [u] J=.ret t J':=aR (F:=⟨1,1,gO⟩) rfl rfl h rfl
theorem gY (h:ci ⟨af Ψ n⟩ [some u,some v,none] J (kE 50)=.ret t J'):af Ψ (n+1) 50 [u,v] J=.ret t J':=aR (F:=⟨2,1,ci⟩) rfl rfl h rfl
theorem lc (h:gP ⟨af Ψ n⟩ [some u,some v,some w] J (kE 1005)=.ret t J'):af Ψ (n+1) 1005 [u,v,w] J=.ret t J':=aR (F:=⟨3,0,gP⟩) rfl rfl h rfl
theorem i4 (h:cO ⟨af Ψ n⟩ [some u,some v,some w,some x,none,none,none] J (kE 1006)=.ret t J'):af Ψ (n+1) 1006 [u,v,w,x] J=.ret t J':=aR (F:=⟨4,3,cO⟩) rfl rfl h rfl
theorem nM (h:eB ⟨af Ψ n⟩ [some u,some v] J (kE 1007)=.ret t J'):af Ψ (n+1) 1007 [u,v] J=.ret t J':=aR (F:=⟨2,0,eB⟩) rfl rfl h rfl
theorem lx (h:dN ⟨af Ψ n⟩ [some u,some v] J (kE 1008)=.ret t J'):af Ψ (n+1) 1008 [u,v] J=.ret t J':=aR (F:=⟨2,0,dN⟩) rfl rfl h rfl
theorem kL (h:dw ⟨af Ψ n⟩ [some u] J (kE 1009)=.ret t J'):af Ψ (n+1) 1009 [u] J=.ret t J':=aR (F:=⟨1,0,dw⟩) rfl rfl h rfl
theorem o8 (h:bu Q (fP ⟨af Ψ n⟩ [some u,none,none,none,none,none,none,none] J (kE 34))):bu Q (af Ψ (n+1) 34 [u] J):=cS (F:=⟨1,7,fP⟩) rfl rfl h
theorem qO (h:bu Q (gJ ⟨af Ψ n⟩ [some u,none,none,none,none,none,none,none] J (kE 36))):bu Q (af Ψ (n+1) 36 [u] J):=cS (F:=⟨1,7,gJ⟩) rfl rfl h
theorem zG (h:bu Q (py ⟨af Ψ n⟩ [some u,some v,none,none] J (kE 38))):bu Q (af Ψ (n+1) 38 [u,v] J):=cS (F:=⟨2,2,py⟩) rfl rfl h
theorem u5 (h:bu Q (j8 ⟨af Ψ n⟩ [some u,some v,some w,none,none,none,none,none] J (kE 39))):bu Q (af Ψ (n+1) 39 [u,v,w] J):=cS (F:=⟨3,5,j8⟩) rfl rfl h
theorem qN (h:bu Q (gF ⟨af Ψ n⟩ [some u,some v,none] J (kE 40))):bu Q (af Ψ (n+1) 40 [u,v] J):=cS (F:=⟨2,1,gF⟩) rfl rfl h
theorem u4 (h:bu Q (j7 ⟨af Ψ n⟩ [some u,some v,none,none,none,none,none,none] J (kE 41))):bu Q (af Ψ (n+1) 41 [u,v] J):=cS (F:=⟨2,6,j7⟩) rfl rfl h
theorem qP (h:bu Q (gK ⟨af Ψ n⟩ [some u,some v,none,none,none] J (kE 42))):bu Q (af Ψ (n+1) 42 [u,v] J):=cS (F:=⟨2,3,gK⟩) rfl rfl h
theorem wV (h:bu Q (jt ⟨af Ψ n⟩ [some u,some v,none,none,none,none,none,none,none] J (kE 43))):bu Q (af Ψ (n+1) 43 [u,v] J):=cS (F:=⟨2,7,jt⟩) rfl rfl h
theorem l6 (h:bu Q (ew ⟨af Ψ n⟩ [some u,some v] J (kE 17))):bu Q (af Ψ (n+1) 17 [u,v] J):=cS (F:=⟨2,0,ew⟩) rfl rfl h
theorem qS (h:bu Q (gN ⟨af Ψ n⟩ [some u,some v,none] J (kE 18))):bu Q (af Ψ (n+1) 18 [u,v] J):=cS (F:=⟨2,1,gN⟩) rfl rfl h
theorem o9 (h:bu Q (fS ⟨af Ψ n⟩ [some u,none,none,none,none,none,none,none,none,none] J (kE 19))):bu Q (af Ψ (n+1) 19 [u] J):=cS (F:=⟨1,9,fS⟩) rfl rfl h
theorem qR (h:bu Q (gM ⟨af Ψ n⟩ [some u,some v,some w,some x,none,none,none,none,none] J (kE 20))):bu Q (af Ψ (n+1) 20 [u,v,w,x] J):=cS (F:=⟨4,5,gM⟩) rfl rfl h
theorem j5 (h:bu Q (cz ⟨af Ψ n⟩ [some u,some v,none,none] J (kE 68))):bu Q (af Ψ (n+1) 68 [u,v] J):=cS (F:=⟨2,2,cz⟩) rfl rfl h
theorem qQ (h:bu Q (gL ⟨af Ψ n⟩ [some u,some v,some w,none,none,none] J (kE 71))):bu Q (af Ψ (n+1) 71 [u,v,w] J):=cS (F:=⟨3,3,gL⟩) rfl rfl h
theorem oc (h:bu Q (dG ⟨af Ψ n⟩ [some u,some v,some w,some x,none,none,none] J (kE 72))):bu Q (af Ψ (n+1) 72 [u,v,w,x] J):=cS (F:=⟨4,3,dG⟩) rfl rfl h
theorem j3 (h:bu Q (cw ⟨af Ψ n⟩ [some u,some v,none,none,none] J (kE 73))):bu Q (af Ψ (n+1) 73 [u,v] J):=cS (F:=⟨2,3,cw⟩) rfl rfl h
theorem l7 (h:bu Q (eA ⟨af Ψ n⟩ [some u,some v,some w,none,none] J (kE 1001))):bu Q (af Ψ (n+1) 1001 [u,v,w] J):=cS (F:=⟨3,2,eA⟩) rfl rfl h
theorem sI (h:bu Q (iW ⟨af Ψ n⟩ [some u,none,none,none,none,none] J (kE 1002))):bu Q (af Ψ (n+1) 1002 [u] J):=cS (F:=⟨1,5,iW⟩) rfl rfl h
theorem pd (h:bu Q (fU ⟨af Ψ n⟩ [some u,some v,none,none,none,none] J (kE 1003))):bu Q (af Ψ (n+1) 1003 [u,v] J):=cS (F:=⟨2,4,fU⟩) rfl rfl h
theorem gD (h:bu Q (cj ⟨af Ψ n⟩ [some u,some v,some w,none,none] J (kE 1004))):bu Q (af Ψ (n+1) 1004 [u,v,w] J):=cS (F:=⟨3,2,cj⟩) rfl rfl h
end
end Mine.L01
end
namespace Mine.L01
noncomputable section
open PySem
section
variable {b p m kn:T} {K:List Kn} {bg:Nat} {th:Kn->List Kn} {J:Sg}
def DC (w:T)(found bF:List Kn)(r:List (Option T)):aY:=some w::some (.lst (found.map aV))::some (kh bF)::r
theorem rG {p:Prop} [Decidable p] (h:(!decide p)=true):¬p:=fun q=>by rw [decide_eq_true q] at h;cases h
theorem rH {p:Prop} [Decidable p] (h:(!decide p)=false):p:=by
 cases q:decide p with
 |true=>exact of_decide_eq_true q
 |false=>rw [q] at h;cases h
theorem eE {a b:Nat}(h:a<=b)(hb:b<=1000):a < lim:=lt_of_le_of_lt (le_trans h hb) (by decide)
theorem xM {found bF:List Kn}{st:List (Kn×Nat)}(hl:K.length<=1000)(D:qx th K found st bF):bF.length < lim:=by
 exact eE (aZ D.ndm D.sub) hl
theorem Cf {w:T}{f m:List Kn}{x3 x5 x6 x7:Option T}(S:List (Kn×Nat))(k:Kn)(n:Nat):(o1 (b9 (DC w f m [x3,some (.lst ((S++[(k,n)]).map A3)),x5,x6,x7]) 4) fun x=>o1 (fG x) fun xs=>o1 xs.getLast? fun t=>o1 (lN t) fun ts=>c5 [5,6] ts (List.set (DC w f m [x3,some (.lst ((S++[(k,n)]).map A3)),x5,x6,x7]) 4 (some (.lst xs.dropLast))))=some (DC w f m [x3,some (.lst (S.map A3)),some (aV k),some (.int n),x7]):=by
 show (o1 ((S++[(k,n)]).map A3).getLast? fun t=>o1 (lN t) fun ts=>c5 [5,6] ts (List.set (DC w f m [x3,some (.lst ((S++[(k,n)]).map A3)),x5,x6,x7]) 4 (some (.lst ((S++[(k,n)]).map A3).dropLast))))=_
 rw [map_append,map_cons,map_nil,getLast?_concat,List.dropLast_concat];rfl
theorem qz (bF:List Kn):∀K:List Kn,ee th bF K<=ee th [] K
 | []=>le_refl _
 |x::r=>by
  rw [jX,jX,if_neg (show x∉[] from fun h=>nomatch h)]
  refine add_le_add ?_ (qz bF r)
  by_cases h:x∈bF
  .rw [if_pos h];exact zero_le _
  .rw [if_neg h];exact le_refl _
inductive LI (W:T) (th:Kn->List Kn) (K:List Kn) (J:Sg):List Kn->aY->Sg->Prop
 |mk {pre found bF:List Kn} {x3 x4 x5 x6 x7:Option T} (D:qx th K found [] bF) (hm:∀x∈pre,x∈bF):LI W th K J pre (DC W found bF [x3,x4,x5,x6,x7]) J
inductive LW (W:T) (th:Kn->List Kn) (K:List Kn) (J:Sg) (a:Kn) (pre:List Kn):List Kn×List (Kn×Nat)×List Kn->aY->Sg->Prop
 |mk {found:List Kn} {st:List (Kn×Nat)} {bF:List Kn} {x5 x6 x7:Option T} (D:qx th K found st bF) (hm:∀x∈pre,x∈bF) (ha:a∈bF):LW W th K J a pre (found,st,bF) (DC W found bF [some (aV a),some (.lst (st.map A3)),x5,x6,x7]) J
theorem z9 (hK:K.Nodup)(hK1:K.length<=1000)(hc:∀k∈K,∀y∈th k,y∈K)(hs:ee th [] K < 20000)(hw:∀k∈K,(th k).length<=1000)(n:Nat):bu (fun t J'=>J'=J/\∃L:List Kn,t=.lst (L.map aV)/\L.Nodup/\(∀x,x∈L↔x∈K)/\Fv th L) (af Ψ (n+1) 34 [eV b p m kn K bg th] J):=by
 refine o8 ?_
 repeat (refine aM rfl ?_)
 refine mI (e:=aV) (l:=K) (LI (eV b p m kn K bg th) th K J) ?_ ?_ (pre:=[]) rfl (.mk .nil fun _ h=>nomatch h)
 .rintro pre a suf _ _ hl @⟨found,bF,x3,x4,x5,x6,x7,D,hm⟩ k hk
  refine dX (ii bF a) ?_
  refine gq (fun h=>?_) fun h=>?_
  .have ha:=rG h
   have hk1:a∈K:=by rw [hl];exact mem_append_right _ (.head _)
   refine dX (jz ha (xM hK1 D)) ?_
   repeat (refine n9 rfl ?_)
   refine jY (S:=List Kn×List (Kn×Nat)×List Kn) (LW (eV b p m kn K bg th) th K J a pre) (fun s=>!s.2.1.isEmpty) (fun s=>ee th s.2.2 K+fM th s.2.1) ?_ ?_ ?_ (s:=(found,[(a,0)],bF++[a])) ?_ ?_
   .rintro _ _ _ @⟨found,st,bF,x5,x6,x7,D,hm,ha⟩ k hk
    exact dX (CT.some (by decide) st) hk
   .rintro _ _ _ @⟨found,st,bF,x5,x6,x7,D,hm,ha⟩ hg k hk
    rcases eq_nil_or_concat st with rfl | ⟨S,⟨kn,at_⟩,rfl⟩
    .cases hg
    rw [concat_eq_append] at D hk ⊢
    have D:qx th K found (S++[(kn,at_)]) bF:=D
    have kK:kn∈K:=D.sub kn ((D.same kn).mpr (.inr (by rw [map_append];exact mem_append_right _ (.head _))))
    refine aM (Cf S kn at_) ?_
    have S1:fM th (S++[(kn,at_)])=fM th S+((th kn).length - at_+1):=jl _ _
    have tk1:at_<=(th kn).length:=(D.take (kn,at_) (mem_append_right _ (.head _))).1
    have fl:found.length < lim:=eE (aZ (aJ D.nd).1 fun x hx=>D.sub x ((D.same x).mpr (.inl hx))) hK1
    have sl:S.length+2 < lim:=by
     have:=aZ (aJ D.nd).2.1 fun x hx=>D.sub x ((D.same x).mpr (.inr hx))
     rw [length_map,List.length_append] at this
     exact lt_of_le_of_lt (succ_le_succ (le_trans this hK1)) (by decide)
    refine dX (ck.get kK) ?_
    refine aM rfl ?_
    refine aM (fY _ _) ?_
    refine gq (fun h=>?_) fun h=>?_
    .have e:at_=(th kn).length:=by
      have:=of_decide_eq_true h
      rw [length_map] at this;exact ofNat.inj this
     refine dX (d7 kn fl) ?_
     refine hk (found++[kn],S,bF) _ _ ?_ ⟨D.leave e,hm,ha⟩
     show ee th bF K+fM th S < ee th bF K+fM th (S++[(kn,at_)])
     rw [S1];exact Nat.add_lt_add_left (Nat.lt_add_of_pos_right (succ_pos _)) _
    .have e:at_ < (th kn).length:=by
      have:=of_decide_eq_false h
      rw [length_map] at this;exact Nat.lt_of_le_of_ne tk1 fun q=>this (congrArg ofNat q)
     have ty:(th kn)[at_]?=some (th kn)[at_]:=getElem?_eq_getElem e
     have yK:=hc kn kK _ (getElem_mem e)
     have tl:at_<=lim:=le_of_lt (eE tk1 (hw kn kK))
     generalize (th kn)[at_]=y at ty yK
     have S2:fM th (S++[(kn,at_+1)])=fM th S+((th kn).length - (at_+1)+1):=jl _ _
     refine dX (d7 (kn,at_+1) (Nat.lt_of_succ_lt (Nat.lt_of_succ_lt sl))) ?_
     refine dX (ck.get kK) ?_
     refine dX (de ty tl) ?_
     refine dX (ii bF y) ?_
     refine gq (fun h=>?_) fun h=>?_
     .have hy:=rG h
      refine dX (jz hy (xM hK1 D)) ?_
      refine dX (d7 (y,0) (by rw [List.length_append];exact Nat.lt_of_succ_lt sl)) ?_
      refine hk (found,S++[(kn,at_+1)]++[(y,0)],bF++[y]) _ _ ?_ ⟨D.push ty yK hy,fun x hx=>mem_append_left _ (hm x hx),mem_append_left _ ha⟩
      show ee th (bF++[y]) K+fM th (S++[(kn,at_+1)]++[(y,0)]) < ee th bF K+fM th (S++[(kn,at_)])
      have:=jW (th:=th) hy yK
      have S3:fM th (S++[(kn,at_+1)]++[(y,0)])=fM th (S++[(kn,at_+1)])+((th y).length - 0+1):=jl _ _
      have q:(th kn).length - at_=(th kn).length - (at_+1)+1:=(Nat.succ_pred_eq_of_pos (Nat.sub_pos_of_lt e)).symm
      rw [S3,S2,S1,q,Nat.sub_zero]
      generalize (th kn).length - (at_+1)=c
      lia
     .refine hk (found,S++[(kn,at_+1)],bF) _ _ ?_ ⟨D.on ty (rH h),hm,ha⟩
      show ee th bF K+fM th (S++[(kn,at_+1)]) < ee th bF K+fM th (S++[(kn,at_)])
      have q:(th kn).length - at_=(th kn).length - (at_+1)+1:=(Nat.succ_pred_eq_of_pos (Nat.sub_pos_of_lt e)).symm
      rw [S2,S1,q];exact Nat.add_lt_add_left (Nat.add_lt_add_left (lt_succ_self _) _) _
   .rintro _ _ _ @⟨found,st,bF,x5,x6,x7,D,hm,ha⟩ hg
    cases st with
    |cons=>cases hg
    |nil=>
     refine hk _ _ (.mk D fun x hx=>?_)
     rcases ag hx with hx |hx
     .exact hm x hx
     .rw [aa hx];exact ha
   .show ee th (bF++[a]) K+((th a).length - 0+1+0) < 20000
    exact lt_trans (lt_of_lt_of_le (lt_of_lt_of_le (lt_succ_self (ee th (bF++[a]) K+((th a).length+1))) (jW (th:=th) ha hk1)) (qz (th:=th) bF K)) hs
   .exact ⟨D.start hk1 ha,fun x hx=>mem_append_left _ (hm x hx),mem_append_right _ (.head _)⟩
  .have ha:=rH h
   refine hk _ _ (.mk D fun x hx=>?_)
   rcases ag hx with hx |hx
   .exact hm x hx
   .rw [aa hx];exact ha
 .rintro _ _ @⟨found,bF,x3,x4,x5,x6,x7,D,hm⟩
  repeat (refine n9 rfl ?_)
  refine b8 ⟨rfl,found,rfl,?_,fun x=>?_,D.ord⟩
  .have:=D.nd;rw [map_nil,append_nil] at this;exact this
  .have:=D.same x
   simp only [map_nil,List.not_mem_nil,or_false] at this
   rw [<-this];exact ⟨D.sub x,hm x⟩
end
section
variable {b p m kn:T} {K:List Kn} {bg:Nat} {th:Kn->List Kn} {J:Sg}
def yI (C:List Kn):T:=.lst (C.map aV)
theorem Ad {w t:T}(h:xP w=some t)(n:Nat):af Ψ (n+1) 35 [w] J=.ret t J:=by
 refine tj ?_
 show (match xP w with |some t=>du.ret t J |none=>du.bad)=_
 rw [h]
abbrev cF (W:T)(bk:Kn->List Kn)(K m:List Kn)(Cs:List (List Kn))(x4 x5 x6 x7:Option T):aY:=[some W,some (.dct (K.map aV) (K.map fun k=>.lst ((bk k).map aV))),some (kh m),some (.lst (Cs.map yI)),x4,x5,x6,x7]
inductive CI (W:T) (bk th:Kn->List Kn) (K:List Kn) (J:Sg):List Kn->aY->Sg->Prop
 |mk {pre:List Kn} {Cs:List (List Kn)} {x4 x5 x6 x7:Option T} (HHH:zl th K Cs) (hp:∀x∈pre,x∈Cs.flatten):CI W bk th K J pre (cF W bk K Cs.flatten Cs x4 x5 x6 x7) J
inductive CW (W:T) (bk th:Kn->List Kn) (K:List Kn) (J:Sg) (a:Kn) (Cs:List (List Kn)):List Kn×Nat->aY->Sg->Prop
 |mk {C:List Kn} {i:Nat} {x7:Option T} (c:BF th K Cs.flatten a C) (hi:i<=C.length) (hd:∀j c,j < i->C[j]?=some c->∀x∈K,c∈th x->x∈Cs.flatten++C):CW W bk th K J a Cs (C,i) (cF W bk K (Cs.flatten++C) Cs (some (aV a)) (some (.lst (C.map aV))) (some (.int i)) x7) J
inductive CX (W:T) (bk th:Kn->List Kn) (K:List Kn) (J:Sg) (a y:Kn) (i:Nat) (Cs:List (List Kn)):List Kn->aY->Sg->Prop
 |mk {pre D:List Kn} {x7:Option T} (c:BF th K Cs.flatten a D) (hy:D[i]?=some y) (hd:∀j c,j < i->D[j]?=some c->∀x∈K,c∈th x->x∈Cs.flatten++D) (hp:∀x∈pre,x∈Cs.flatten++D):CX W bk th K J a y i Cs pre (cF W bk K (Cs.flatten++D) Cs (some (aV a)) (some (.lst (D.map aV))) (some (.int i)) x7) J
theorem vO (hK:K.Nodup)(hK1:K.length<=300)(hc:∀k∈K,∀y∈th k,y∈K)(hs:ee th [] K < 20000)(hw:∀k∈K,(th k).length<=1000)(n:Nat):bu (fun t J'=>J'=J/\∃Cs:List (List Kn),t=.lst (Cs.map yI)/\zl th K Cs/\∀x∈K,x∈Cs.flatten) (af Ψ (n+2) 36 [eV b p m kn K bg th] J):=by
 obtain ⟨bk,hb1,hb2⟩:=Ac (b:=b) (p:=p) (m:=m) (kn:=kn) (bg:=bg) hK (le_trans hK1 (by decide)) hc hw
 refine qO ?_
 repeat (refine n9 rfl ?_)
 refine gp (Ad hb1 n) ?_
 repeat (refine n9 rfl ?_)
 refine cR (z9 hK (le_trans hK1 (by decide)) hc hs hw n) ?_
 rintro _ J ⟨rfl,L,rfl,ln,lm,lo⟩
 refine aM rfl ?_
 rw [<-List.map_reverse]
 refine aM rfl ?_
 refine mI (e:=aV) (l:=L.reverse) (CI (eV b p m kn K bg th) bk th K J) ?_ ?_ (pre:=[]) rfl (.mk (Cs:=[]) .nil fun _ h=>nomatch h)
 .rintro pre a suf _ _ hl @⟨Cs,x4,x5,x6,x7,HHH,hp⟩ k hk
  have hL:L=suf.reverse++a::pre.reverse:=by
   rw [<-List.reverse_reverse L,hl,List.reverse_append,List.reverse_cons,List.append_assoc];rfl
  have aK:a∈K:=(lm a).mp (by rw [hL];exact mem_append_right _ (.head _))
  have fl:=aZ HHH.nd HHH.sub
  have cl:∀C:List Kn,(∀x∈C,x∈Cs.flatten++C):=fun C x h=>mem_append_right _ h
  have nCs:Cs.length<=300:=by
   have:∀Ds:List (List Kn),(∀C∈Ds,C≠[])->Ds.length<=Ds.flatten.length:=fun Ds=>by
    induction Ds with
    |nil=>exact fun _=>le_refl _
    |cons D Ds ih=>
     intro h
     rw [flatten_cons,List.length_append,add_comm];exact add_le_add (ih fun C hC=>h C (.tail _ hC)) (List.length_pos_iff.mpr (h D (.head _)))
   exact le_trans (this Cs HHH.ne) (le_trans fl hK1)
  refine dX (ii _ a) ?_
  refine gq (fun h=>?_) fun h=>?_
  .have ha:=rG h
   refine dX (jz ha (eE fl (le_trans hK1 (by decide)))) ?_
   repeat (refine n9 rfl ?_)
   refine jY (S:=List Kn×Nat) (CW (eV b p m kn K bg th) bk th K J a Cs) (fun s=>decide ((s.2:Int) < ((s.1.map aV).length:Int))) (fun s=>350 - s.2) ?_ ?_ ?_ (s:=([a],0)) (show 350 - 0 < 400 by decide) (.mk (.start HHH.nd aK ha) (zero_le _) fun i c h=>absurd h (Nat.not_lt_zero _))
   .rintro _ _ _ @⟨C,i,x7,c,hi,hd⟩ k hk
    repeat (refine n9 rfl ?_)
    refine aM rfl ?_
    exact aM rfl hk
   .rintro _ _ _ @⟨C,i,x7,c,hi,hd⟩ hg k hk
    have hi:i < C.length:=by have:=of_decide_eq_true hg;rw [length_map] at this;exact ofNat_lt.mp this
    have cK:=aZ c.nd fun x hx=>(ag hx).elim (HHH.sub x) (c.sub x)
    rw [List.length_append] at cK
    have hC:C[i]?=some C[i]:=getElem?_eq_getElem hi
    have cm:C[i]∈C:=getElem_mem hi
    generalize C[i]=y at hC cm
    refine dX (de hC (le_of_lt (eE (le_trans (le_of_lt hi) (le_trans (le_add_left _ _) cK)) (le_trans hK1 (by decide))))) ?_
    refine aM (ck.get (c.sub y cm)) ?_
    refine aM rfl ?_
    refine mI (e:=aV) (l:=bk y) (CX (eV b p m kn K bg th) bk th K J a y i Cs) ?_ ?_ (pre:=[]) rfl (.mk c hC hd fun _ h=>nomatch h)
    .rintro pre o suf _ _ hl @⟨D,x7,c,hy,hd,hp⟩ k hk
     have ho:=(hb2 y o).mp (by rw [hl];exact mem_append_right _ (.head _))
     have cK:=aZ c.nd fun x hx=>(ag hx).elim (HHH.sub x) (c.sub x)
     have ml:(Cs.flatten++D).length < lim:=eE cK (le_trans hK1 (by decide))
     have dl:D.length < lim:=lt_of_le_of_lt (by rw [List.length_append];exact le_add_left _ _) ml
     have ym:y∈D:=mem_of_getElem? hy
     refine dX (ii _ o) ?_
     refine gq (fun h=>?_) fun h=>?_
     .have no:=rG h
      refine dX (jz no ml) ?_
      refine dX (d7 o dl) ?_
      rw [List.append_assoc]
      refine hk _ _ (.mk (D:=D++[o]) (c.push no ho.1 ym ho.2) ?_ (fun j z hj hz x hx e=>?_) fun x hx=>?_)
      .rw [getElem?_append_left (aj hy).1];exact hy
      .rw [getElem?_append_left (lt_trans hj (aj hy).1)] at hz
       rw [<-List.append_assoc];exact mem_append_left _ (hd j z hj hz x hx e)
      .rw [<-List.append_assoc]
       rcases ag hx with hx |hx
       .exact mem_append_left _ (hp x hx)
       .exact mem_append_right _ hx
     .refine hk _ _ (.mk c hy hd fun x hx=>?_)
      rcases ag hx with hx |hx
      .exact hp x hx
      .rw [aa hx];exact rH h
    .rintro _ _ @⟨D,x7,c,hy,hd,hp⟩
     have li:=(aj hy).1
     repeat (refine n9 rfl ?_)
     refine aM rfl ?_
     refine hk (D,i+1) _ _ (show 350 - (i+1) < 350 - i by lia) (.mk c li fun j z hj hz x hx e=>?_)
     rcases Nat.lt_succ_iff_lt_or_eq.mp hj with hj |rfl
     .exact hd j z hj hz x hx e
     .rw [show D[j]?=some y from hy] at hz;cases hz
      exact hp x ((hb2 y x).mpr ⟨hx,e⟩)
   .rintro _ _ _ @⟨C,i,x7,c,hi,hd⟩ hg
    have hi:C.length<=i:=by have:=of_decide_eq_false hg;rw [length_map] at this;exact Nat.le_of_not_lt fun h=>this (bP h)
    refine dX (d7 (e:=yI) C (by exact lt_of_le_of_lt (by assumption) (by decide))) ?_
    refine (fun h1 h2=>by have:=CI.mk (W:=eV b p m kn K bg th) (bk:=bk) (J:=J) (pre:=pre++[a]) (Cs:=Cs++[C]) (x4:=some (aV a)) (x5:=some (.lst (C.map aV))) (x6:=some (.int i)) (x7:=x7) (HHH.add lo ln (fun x hx=>(lm x).mpr hx) hL (fun x hx=>hp x (List.mem_reverse.mp hx)) c h1) h2;rw [df] at this;exact hk _ _ this) (fun z hz x hx e=>?_) (fun x hx=>?_)
    .obtain ⟨j,hj⟩:=List.getElem?_of_mem hz
     exact hd j z (lt_of_lt_of_le (aj hj).1 hi) hj x hx e
    .rw [df]
     rcases ag hx with hx |hx
     .exact mem_append_left _ (hp x hx)
     .rw [aa hx];exact mem_append_right _ c.hd
  .refine hk _ _ (.mk HHH fun x hx=>?_)
   rcases ag hx with hx |hx
   .exact hp x hx
   .rw [aa hx];exact rH h
 .rintro _ _ @⟨Cs,x4,x5,x6,x7,HHH,hp⟩
  repeat (refine n9 rfl ?_)
  exact b8 ⟨rfl,Cs,rfl,HHH,fun x hx=>hp x (List.mem_reverse.mpr ((lm x).mpr hx))⟩
end
section
variable {b p m kn:T} {K:List Kn} {bg:Nat} {th:Kn->List Kn} {J:Sg}
def F3:Option Kn->T
 |none=>.none
 |some k=>aV k
def iE (l:List Kn)(f:Kn->Option Kn):T:=.dct (l.map aV) (l.map fun k=>F3 (f k))
inductive BI (l:List Kn) (f:Kn->Option Kn) (P:List Kn) (J:Sg):Option Kn×List Kn×List Kn->aY->Sg->Prop
 |done:BI l f P J (none,P,[]) [some (iE l f),some .none,some (.lst (P.map aV))] J
 |more {y:Kn} {fo re:List Kn} (hb:kU f y re) (e:fo++re=P):BI l f P J (some y,fo,re) [some (iE l f),some (aV y),some (.lst (fo.map aV))] J
theorem AN {l:List Kn}{f:Kn->Option Kn}{x:Kn}{P:List Kn}(hB:kU f x P)(hs:∀y∈P,y∈l)(hl:P.length<=300)(n:Nat):bu (fun t J'=>J'=J/\t=.lst (P.reverse.map aV)) (af Ψ (n+1) 40 [iE l f,aV x] J):=by
 refine qN ?_
 refine jY (S:=Option Kn×List Kn×List Kn) (BI l f P J) (fun s=>s.1.isSome) (fun s=>s.2.2.length) ?_ ?_ ?_ (s:=(some x,[],P)) (lt_of_le_of_lt hl (by decide:300 < 400)) (.more hB rfl)
 .rintro _ _ _ (_ |_) k hk
  .exact aM rfl (aM rfl hk)
  .exact aM rfl (aM rfl hk)
 .rintro _ _ _ (_ | @⟨y,fo,re,hb,e⟩) hg k hk
  .cases hg
  .have fl:fo.length < lim:=by have:=congrArg List.length e;rw [List.length_append] at this;exact eE (this▸le_add_right _ _) (le_trans hl (by decide))
   have yl:=hs y (by rw [<-e];cases hb<;>exact mem_append_right _ (.head _))
   refine dX (d7 y fl) (dX (ck.get yl) ?_)
   cases hb with
   |nil e1=>rw [e1,e];exact hk (none,P,[]) _ _ Nat.zero_lt_one .done
   | @cons _ z q e1 hb=>rw [e1];exact hk (some z,fo++[y],q) _ _ (lt_succ_self _) (.more hb (by rw [List.append_assoc];exact e))
 .rintro _ _ _ (_ |_) hg
  .exact aM rfl (aM rfl (b8 ⟨rfl,by rw [List.map_reverse]⟩))
  .cases hg
theorem yJ {l:List Kn}{f:Kn->Option Kn}{y here:Kn}(hy:y∉l)(hl:l.length < lim):er (iE l f) (aV y) (aV here)=some (iE (l++[y]) fun x=>if x=y then some here else f x):=by
 rw [iE,ck.put hy hl,iE,map_append (f:=fun k=>F3 _)]
 refine congrArg some (congrArg (T.dct _) ?_)
 refine congr (congrArg _ (map_congr_left fun k hk=>?_)) ?_
 .rw [if_neg fun (e:k=y)=>hy (e▸hk)]
 .show _=[F3 (if y=y then some here else f y)]
  rw [if_pos rfl];rfl
theorem kJ {v:T}:∀(l us:List Kn) (vs:List T),(us++l).Nodup->mZ (l.map fun k=>.tup [aV k,v]) (us.map aV) vs=some ((us++l).map aV,vs++l.map fun _=>v)
 | [],us,vs,_=>by
  rw [append_nil]
  show some (us.map aV,vs)=some (us.map aV,vs++[])
  rw [append_nil]
 |k::l,us,vs,h=>by
  have hk:k∉us:=fun q=>(aJ h).2.2 k q k (.head _) rfl
  show o1 (kA (us.map aV) (aV k)) _=_
  rw [ck.fd,if_neg hk]
  show mZ (l.map fun k=>.tup [aV k,v]) (us.map aV++[aV k]) (vs++[v])=_
  have:=kJ (v:=v) l (us++[k]) (vs++[v]) (by rw [List.append_assoc];exact h)
  rw [map_append] at this
  rw [show us.map aV++[aV k]=us.map aV++[k].map aV from rfl,this,List.append_assoc,List.append_assoc];rfl
theorem zM {w s g c:T}{here:Kn}{ws:List Kn}{x5 x6 x7:Option T}:(o1 (b9 [some w,some s,some g,some c,some (.lst ((here::ws).map aV)),x5,x6,x7] 4) fun x=>o1 (fG x) fun xs=>o1 xs.head? fun y=>some ((List.set [some w,some s,some g,some c,some (.lst ((here::ws).map aV)),x5,x6,x7] 4 (some (.lst xs.tail))).set 5 (some y)))=some [some w,some s,some g,some c,some (.lst (ws.map aV)),some (aV here),x6,x7]:=rfl
abbrev pF (W:T)(starts goals l w:List Kn)(f:Kn->Option Kn)(x5 x6 x7:Option T):aY:=[some W,some (.lst (starts.map aV)),some (.lst (goals.map aV)),some (iE l f),some (.lst (w.map aV)),x5,x6,x7]
inductive PW (W:T) (th:Kn->List Kn) (K starts goals:List Kn) (J:Sg):List Kn×List Kn×(Kn->Option Kn)->aY->Sg->Prop
 |mk {dn wt:List Kn} {f:Kn->Option Kn} {x5 x6 x7:Option T} (B:sw th K starts goals dn wt f):PW W th K starts goals J (dn,wt,f) (pF W starts goals (dn++wt) wt f x5 x6 x7) J
inductive PI (W:T) (th:Kn->List Kn) (K starts goals:List Kn) (J:Sg) (dn:List Kn) (here:Kn):List Kn->aY->Sg->Prop
 |mk {pre w:List Kn} {f:Kn->Option Kn} {x6 x7:Option T} (B:sw th K starts goals dn (here::w) f) (hp:∀x∈pre,x∈dn++here::w):PI W th K starts goals J dn here pre (pF W starts goals (dn++here::w) w f (some (aV here)) x6 x7) J
theorem pv {starts goals:List Kn}(hK1:K.length<=300)(hc:∀k∈K,∀y∈th k,y∈K)(hn:starts.Nodup)(hs:∀x∈starts,x∈K)(n:Nat):bu (fun t J'=>J'=J/\∃P:List Kn,t=.lst (P.map aV)/\((∃g∈goals,AU th K starts g P)\/(P=[]/\∀s∈starts,∀g∈goals,¬lg th s g))) (af Ψ (n+2) 39 [eV b p m kn K bg th,.lst (starts.map aV),.lst (goals.map aV)] J):=by
 refine u5 ?_
 repeat (refine n9 rfl ?_)
 refine aM rfl ?_
 refine f6 (e:=aV) (l:=starts) (fun k=>.tup [aV k,.none]) (fun a _=>⟨_,rfl,fun k=>by with_unfolding_all rfl⟩) ?_
 refine aM (a:=iE starts fun _=>none) ?_ ?_
 .show o1 (mZ (starts.map fun k=>.tup [aV k,.none]) ([].map aV) []) _=_
  rw [kJ starts [] [] hn];rfl
 repeat (refine n9 rfl ?_)
 refine aM rfl ?_
 refine jY (S:=List Kn×List Kn×(Kn->Option Kn)) (PW (eV b p m kn K bg th) th K starts goals J) (fun s=>!s.2.1.isEmpty) (fun s=>350 - s.1.length) ?_ ?_ ?_ (s:=([],starts,fun _=>none)) (show 350 - 0 < 400 by decide) (.mk (.start hn hs))
 .rintro _ _ _ @⟨dn,wt,f,x5,x6,x7,B⟩ k hk
  exact dX (kF.some (by decide) wt) hk
 .rintro _ _ _ @⟨dn,wt,f,x5,x6,x7,B⟩ hg k hk
  cases wt with
  |nil=>cases hg
  |cons here ws=>
   have B:sw th K starts goals dn (here::ws) f:=B
   have hm:here∈dn++here::ws:=mem_append_right _ (.head _)
   have hK:=B.sub here hm
   have ll:=aZ B.nd B.sub
   rw [List.length_append,length_cons] at ll
   refine aM zM ?_
   refine dX (kF.mem (by decide) (l:=goals) trivial (fun _ _=>trivial) rfl) ?_
   refine gq (fun h=>?_) fun h=>?_
   .obtain ⟨P,h1,h2,h3⟩:=B.way hm
    repeat (refine n9 rfl ?_)
    refine cR (AN h1 h2 (by have:=h3.len;rw [length_reverse] at this;exact le_trans this hK1) n) ?_
    rintro _ J ⟨rfl,rfl⟩
    exact b8 ⟨rfl,P.reverse,rfl,.inl ⟨here,of_decide_eq_true h,h3⟩⟩
   .repeat (refine n9 rfl ?_)
    refine dX (ck.get hK) ?_
    refine aM rfl ?_
    refine mI (e:=aV) (l:=th here) (PI (eV b p m kn K bg th) th K starts goals J dn here) ?_ ?_ (pre:=[]) rfl (.mk B fun _ h=>nomatch h)
    .rintro pre o suf _ _ hl @⟨w,f,x6,x7,B,hp⟩ k hk
     have ho:o∈th here:=by rw [hl];exact mem_append_right _ (.head _)
     have ll:=aZ B.nd B.sub
     have wl:w.length < lim:=eE (le_trans (by rw [List.length_append];exact le_trans (le_succ _) (le_add_left _ _)) ll) (le_trans hK1 (by decide))
     repeat (refine n9 rfl ?_)
     refine aM (a:=!decide (o∈dn++here::w)) ?_ ?_
     .show (Bj _ _).map _=_
      rw [iE,ck.has];rfl
     refine gq (fun h=>?_) fun h=>?_
     .have no:=rG h
      repeat (refine n9 rfl ?_)
      refine aM (yJ no (eE ll (le_trans hK1 (by decide)))) ?_
      refine dX (d7 o wl) ?_
      have e:(dn++here::w)++[o]=dn++here::(w++[o]):=by rw [List.append_assoc];rfl
      rw [e]
      refine hk _ _ (.mk (w:=w++[o]) (B.push (mem_append_right _ (.head _)) ho (hc here hK o ho) no) fun x hx=>?_)
      rw [<-e]
      rcases ag hx with hx |hx
      .exact mem_append_left _ (hp x hx)
      .exact mem_append_right _ hx
     .refine hk _ _ (.mk B fun x hx=>?_)
      rcases ag hx with hx |hx
      .exact hp x hx
      .rw [aa hx];exact rH h
    .rintro _ _ @⟨w,f,x6,x7,B,hp⟩
     have e:(dn++[here])++w=dn++here::w:=by rw [List.append_assoc];rfl
     refine hk (dn++[here],w,f) _ _ ?_ (by rw [<-e];exact .mk (B.done (of_decide_eq_false h) hp))
     show 350 - (dn++[here]).length < 350 - dn.length
     rw [List.length_append,length_cons,length_nil];lia
 .rintro _ _ _ @⟨dn,wt,f,x5,x6,x7,B⟩ hg
  cases wt with
  |cons=>cases hg
  |nil=>exact b8 ⟨rfl,[],rfl,.inr ⟨rfl,fun s hs g hg r=>B.none hs hg r⟩⟩
end
section
variable {b m kn:T} {ps:List T} {K:List Kn} {bg:Nat} {th:Kn->List Kn} {J:Sg} {mt:Kn->Nat->Bool}
theorem wm {C:List Kn}(hC:∀x∈C,x∈K)(hp:ps.length<=1000){n:Nat}(hm:∀k∈K,∀j,j < ps.length->af Ψ n 1005 [eV b (.lst ps) m kn K bg th,aV k,.int j] J=.ret (.bool (mt k j)) J):
  bu (fun t J'=>J'=J/\((t=.none/\∀j,j < ps.length->∃k∈C,mt k j=true)\/∃j:Nat,j < ps.length/\t=.int j/\∀k∈C,mt k j=false)) (af Ψ (n+1) 38 [eV b (.lst ps) m kn K bg th,.lst (C.map aV)] J):=by
 refine zG ?_
 repeat (refine n9 rfl ?_)
 refine aM rfl ?_
 refine aM rfl ?_
 refine aM (fO (le_trans hp (by decide))) ?_
 refine mI (e:=fun j:Nat=>T.int j) (l:=List.range ps.length) (fun pre V J'=>J'=J/\(∃x2,V=[some (eV b (.lst ps) m kn K bg th),some (.lst (C.map aV)),x2,none])/\∀j∈pre,∃k∈C,mt k j=true) ?_ ?_ (pre:=[]) rfl ⟨rfl,⟨_,rfl⟩,fun _ h=>nomatch h⟩
 .rintro pre j suf _ J hl ⟨rfl,⟨x2,rfl⟩,h⟩ k hk
  have hj:j < ps.length:=bY (by rw [hl];exact mem_append_right _ (.head _))
  repeat (refine n9 rfl ?_)
  refine aM rfl ?_
  refine f6 (e:=aV) (l:=C) (fun k=>.bool (mt k j)) (fun a ha=>⟨_,rfl,fun k=>?_⟩) ?_
  .exact az rfl (az rfl (az rfl (au (hm a (hC a ha) j hj) rfl)))
  refine aM (a:=.bool (C.any fun k=>mt k j)) ?_ ?_
  .exact any_map C _
  refine aM rfl ?_
  refine gq (fun q=>?_) fun q=>?_
  .have q:(C.any fun k=>mt k j)=false:=by cases e:C.any fun k=>mt k j<;>rw [e] at q<;>first |rfl |cases q
   repeat (refine n9 rfl ?_)
   refine b8 ⟨rfl,.inr ⟨j,hj,rfl,fun x hx=>?_⟩⟩
   rw [any_eq_false] at q
   exact Bool.eq_false_iff.mpr (q x hx)
  .have q:(C.any fun k=>mt k j)=true:=by cases e:C.any fun k=>mt k j<;>rw [e] at q<;>first |rfl |cases q
   refine hk _ _ ⟨rfl,⟨_,rfl⟩,fun i hi=>?_⟩
   rcases ag hi with hi |hi
   .exact h i hi
   .rw [aa hi];exact any_eq_true.mp q
 .rintro _ J ⟨rfl,⟨x2,rfl⟩,h⟩
  exact b8 ⟨rfl,.inl ⟨rfl,fun j hj=>h j (bQ hj)⟩⟩
theorem wP {p:T}{c0:Kn}{r:List Kn}(h0:c0∈K)(n:Nat):af Ψ (n+1) 37 [eV b p m kn K bg th,.lst ((c0::r).map aV)] J=.ret (.bool (!r.isEmpty||decide (c0∈th c0))) J:=by
 refine ql ?_
 refine az rfl (az rfl (az (a:=!r.isEmpty) ?_ ?_))
 .show some (decide ((((c0::r).map aV).length:Int) > 1))=_
  cases r with
  |nil=>rfl
  |cons d r=>exact congrArg some (decide_eq_true (by rw [length_map,length_cons,length_cons];lia -abstractProof))
 .cases r with
  |cons=>rfl
  |nil=>
   refine az rfl (az (de (i:=0) rfl (zero_le _)) (az rfl (az rfl (az rfl (az (de (i:=0) rfl (zero_le _)) (az (ck.get h0) (az (kF.mem (by decide) (l:=th c0) trivial (fun _ _=>trivial) rfl) rfl)))))))
end
section
variable {b m kn:T} {ps:List T} {K:List Kn} {bg:Nat} {th:Kn->List Kn} {J:Sg} {mt:Kn->Nat->Bool}
theorem lO {α:Type}{e:α->T}{l q:List α}(h:l.length+q.length<=lim):bx (.lst (l.map e)) (.lst (q.map e))=some (.lst ((l++q).map e)):=by
 show oU _ _=_
 rw [<-map_append,length_map,List.length_append,oU,show cq (l.length+q.length)=true from ble_eq_true_of_le h];rfl
theorem fN {α:Type}{e:α->T}{l q:List α}{lo hi:Option Int}(h:cut lo hi l=q):cg (.lst (l.map e)) lo hi=some (.lst (q.map e)):=by
 rw [tR]
 show some (T.lst (cut lo hi (l.map e)))=_
 rw [lH,h]
theorem yh {α:Type}{e:α->T}(F:List α)(z:α):aA (.lst ((F++[z]).map e)) (.int (-1))=some (e z):=by
 have h:seqIndex? (-1) ((F++[z]).map e).length=some F.length:=by
  rw [length_map,List.length_append]
  show (if (decide (0<=(if (-1:Int) < 0 then -1+((F.length+1:Nat):Int) else -1))&&decide ((if (-1:Int) < 0 then -1+((F.length+1:Nat):Int) else -1) < ((F.length+1:Nat):Int)))=true then some (if (-1:Int) < 0 then -1+((F.length+1:Nat):Int) else -1).toNat else none)=_
  rw [if_pos (show (-1:Int) < 0 by decide),show (-1:Int)+((F.length+1:Nat):Int)=F.length from (Int.add_comm _ _).trans (Int.add_sub_cancel (F.length:Int) 1),decide_eq_true (natCast_nonneg _),decide_eq_true (bP (lt_succ_self _))];rfl
 rw [uq,zi,show sm (-1)=true from rfl,cond_true,h,A9,getElem?_map,getElem?_append_right (le_refl _),Nat.sub_self];rfl
abbrev DX:PS:=ai (aI 5 (bv (bK (p2 idxD (p1 (nR 10 6) (pV 0)) (p2 aA (pV 2) (p1 mm (pC (.int 1)))))) (bz 7) (p2 lr (pV 7) (pV 1)) (pV 7)))
  (ai (aF (p2 bx (pV 2) (p3 cg (aw 39 (ae (pV 0) (ae (pV 5) (ae (p3 cg (pV 1) mi (p1 dA (pC (.int 1)))) ak)))) mi (p1 dA (p1 mm (pC (.int 1)))))))
  am)
theorem wQ {c0 z:Kn}{r F:List Kn}{w:T}(hw:w=eV b (.lst ps) m kn K bg th)(hK1:K.length<=300)(hc:∀k∈K,∀y∈th k,y∈K)(hn:∀k∈K,(th k).Nodup)(hC:∀x∈c0::r,x∈K)(scc:∀x∈c0::r,∀y∈c0::r,lg th x y)(hs:∀u∈c0::r,∃s∈th u,s∈c0::r)
  (hz:z∈c0::r)(hlen:(F++[z]).length<=4000){Q:T->Sg->Prop}(hQ:∀P:List Kn,AU th K ((th z).filter fun k=>decide (k∈c0::r)) c0 P->Q (.lst ((F++[z]++P.dropLast).map aV)) J){n:Nat}{x3 x4 x5:Option T}{k:PK aY}:
  bu Q (DX ⟨af Ψ (n+2)⟩ [some w,some (.lst ((c0::r).map aV)),some (.lst ((F++[z]).map aV)),x3,x4,x5,none,none] J k):=by
 have zK:=hC z hz
 repeat (refine n9 rfl ?_)
 refine aM (a:=T.dct (K.map aV) (K.map fun k=>.lst ((th k).map aV))) (by rw [hw];rfl) ?_
 refine dX (yh F z) ?_
 refine aM (ck.get zK) ?_
 refine aM rfl ?_
 refine uA (e:=aV) (l:=th z) (fun k=>decide (k∈c0::r)) aV (fun a ha=>⟨_,rfl,fun k=>?_,fun _ k=>by with_unfolding_all rfl⟩) ?_
 .exact az rfl (az rfl (az (kF.mem (by decide) (l:=c0::r) trivial (fun _ _=>trivial) rfl) rfl))
 refine dX (fN (kI 1 (c0::r))) ?_
 rw [hw]
 refine cR (pv (starts:=(th z).filter fun k=>decide (k∈c0::r)) (goals:=[c0]) hK1 hc ((hn z zK).filter _) (fun x hx=>hC x (of_decide_eq_true (b6 hx).2)) n) ?_
 rintro _ J ⟨rfl,P,rfl,h⟩
 obtain ⟨s,s1,s2⟩:=hs z hz
 have W:AU th K ((th z).filter fun k=>decide (k∈c0::r)) c0 P:=by
  rcases h with ⟨g,h1,h2⟩ | ⟨_,h⟩
  .cases aa h1;exact h2
  .exact absurd (scc s s2 c0 (.head _)) (h s (fh ⟨s1,decide_eq_true s2⟩) c0 (.head _))
 have dl:P.dropLast.length<=300:=le_trans (by rw [List.length_dropLast];exact sub_le _ _) (le_trans W.len hK1)
 refine dX (fN (rJ P)) ?_
 refine aM (lO (q:=P.dropLast) (le_trans (add_le_add hlen dl) (by decide))) ?_
 exact b8 (hQ P W)
inductive GS (W:T) (th:Kn->List Kn) (K:List Kn) (mt:Kn->Nat->Bool) (c0:Kn) (r:List Kn) (J:Sg):List Nat->aY->Sg->Prop
 |mk {pre:List Nat} {F:List Kn} {z:Kn} {x3 x4 x5:Option T} (hz:z∈c0::r) (hw:eN th (F++[z])) (hh:(F++[z]).head?=some c0) (hk1:∀x∈F++[z],x∈K) (hm1:∀j∈pre,∃x∈F++[z],mt x j=true) (hlen:(F++[z]).length<=1+pre.length * 127):
  GS W th K mt c0 r J pre [some W,some (.lst ((c0::r).map aV)),some (.lst ((F++[z]).map aV)),x3,x4,x5,none,none] J
structure Rg (th:Kn->List Kn) (K:List Kn) (mt:Kn->Nat->Bool) (c0:Kn) (np:Nat) (R:List Kn):Prop where
 w:eN th R
 hd:R.head?=some c0
 la:∃z,R.getLast?=some z/\c0∈th z
 sub:∀x∈R,x∈K
 bF:∀j,j < np->∃x∈R,mt x j=true
 len:R.length<=800
theorem zE {c0:Kn}{r:List Kn}(hK2:K.length<=128)(hc:∀k∈K,∀y∈th k,y∈K)(hn:∀k∈K,(th k).Nodup)(hC:∀x∈c0::r,x∈K)(hp:ps.length<=5)(scc:∀x∈c0::r,∀y∈c0::r,lg th x y)(hs:∀u∈c0::r,∃s∈th u,s∈c0::r)(hmet:∀j,j < ps.length->∃k∈c0::r,mt k j=true)
  {n:Nat}(hm:∀k∈K,∀j,j < ps.length->af Ψ (n+2) 1005 [eV b (.lst ps) m kn K bg th,aV k,.int j] J=.ret (.bool (mt k j)) J):
  bu (fun t J'=>J'=J/\∃R:List Kn,t=.lst (R.map aV)/\Rg th K mt c0 ps.length R) (af Ψ (n+3) 41 [eV b (.lst ps) m kn K bg th,.lst ((c0::r).map aV)] J):=by
 have hK1:K.length<=300:=le_trans hK2 (by decide)
 refine u4 ?_
 refine dX (de (i:=0) rfl (zero_le _)) (CR rfl ?_)
 repeat (refine n9 rfl ?_)
 refine aM rfl ?_
 refine aM rfl ?_
 refine aM (fO (le_trans hp (by decide))) ?_
 refine mI (e:=fun j:Nat=>T.int j) (l:=List.range ps.length) (GS (eV b (.lst ps) m kn K bg th) th K mt c0 r J) ?_ ?_ (pre:=[]) rfl (.mk (F:=[]) (z:=c0) (.head _) (.one _) rfl (fun x hx=>aa hx▸hC c0 (.head _)) (fun _ h=>nomatch h) (le_refl _))
 .rintro pre j suf _ _ hl @⟨F,z,x3,x4,x5,hz,hw,hh,hk1,hm1,hlen⟩ k hk
  have hj:j < ps.length:=bY (by rw [hl];exact mem_append_right _ (.head _))
  have prl:pre.length<=5:=by have:=congrArg List.length hl;rw [length_range,List.length_append] at this;exact le_trans (this▸le_add_right _ _) hp
  repeat (refine n9 rfl ?_)
  refine aM rfl ?_
  refine uA (e:=aV) (l:=c0::r) (fun k=>mt k j) aV (fun a ha=>⟨_,rfl,fun k=>?_,fun _ k=>by with_unfolding_all rfl⟩) ?_
  .exact az rfl (az rfl (az rfl (au (hm a (hC a ha) j hj) (az rfl rfl))))
  refine dX (fN (yA F z)) ?_
  repeat (refine n9 rfl ?_)
  refine cR (pv (starts:=[z]) (goals:=(c0::r).filter fun k=>mt k j) hK1 hc (by simp) (fun x hx=>aa hx▸hC z hz) n) ?_
  rintro _ J ⟨rfl,P,rfl,h⟩
  obtain ⟨g,hg,W⟩:∃g∈(c0::r).filter (fun k=>mt k j),AU th K [z] g P:=by
   rcases h with h | ⟨_,h⟩
   .exact h
   .obtain ⟨g,h1,h2⟩:=hmet j hj
    exact absurd (scc z hz g h1) (h z (.head _) g (fh ⟨h1,h2⟩))
  obtain ⟨a,ha,hz'⟩:=W.hd
  obtain rfl:=aa hz'
  cases P with
  |nil=>cases ha
  |cons q P=>
   cases ha
   have gC:=b6 hg
   have pl:P.length<=127:=le_of_succ_le_succ (le_trans W.len hK2)
   have hlen':(F++[a]).length<=1+3000:=le_trans hlen (add_le_add_left (le_trans (Nat.mul_le_mul_right 127 prl) (by decide)) 1)
   refine dX (fN (rK (a::P))) ?_
   refine aM (lO (q:=P) (le_trans (add_le_add hlen' pl) (by decide))) ?_
   obtain ⟨F',e⟩:∃F',(F++[a])++P=F'++[g]:=by
    rcases eq_nil_or_concat P with rfl | ⟨P',y,rfl⟩
    .have:=W.lst;cases this;exact ⟨F,append_nil _⟩
    .rw [concat_eq_append] at W ⊢
     have:=W.lst
     rw [List.getLast?_cons,getLast?_concat] at this
     cases this
     exact ⟨F++[a]++P',(List.append_assoc _ _ _).symm⟩
   rw [e]
   refine hk _ _ (.mk gC.1 ?_ ?_ (fun x hx=>?_) (fun i hi=>?_) ?_)
   .rw [<-e]
    exact hw.app (W.walk.drop 1) fun u v hu hv=>by
     rw [getLast?_concat] at hu;cases hu
     exact W.walk 0 a v rfl (by rw [<-List.getElem?_drop (i:=1) (j:=0),<-List.head?_eq_getElem?];exact hv)
   .rw [<-e,head?_append,hh];rfl
   .rw [<-e] at hx
    exact (ag hx).elim (hk1 x) fun h=>W.sub x (.tail _ h)
   .rcases ag hi with hi |hi
    .obtain ⟨x,h1,h2⟩:=hm1 i hi
     exact ⟨x,by rw [<-e];exact mem_append_left _ h1,h2⟩
    .rw [aa hi]
     exact ⟨g,mem_append_right _ (.head _),gC.2⟩
   .rw [<-e,List.length_append,List.length_append (as:=pre)]
    exact le_trans (add_le_add hlen pl) (le_of_eq (by rw [length_singleton,Nat.succ_mul,add_assoc]))
 .rintro _ _ @⟨F,z,x3,x4,x5,hz,hw,hh,hk1,hm1,hlen⟩
  rw [length_range] at hlen
  refine wQ rfl hK1 hc hn hC scc hs hz (le_trans hlen (le_trans (add_le_add_left (Nat.mul_le_mul_right 127 hp) 1) (by decide))) fun P W=>?_
  obtain ⟨h1,h2⟩:=hw.close W fun x hx=>(b6 hx).1
  refine ⟨rfl,_,rfl,h1,?_,h2,fun x hx=>(ag hx).elim (hk1 x) fun h=>W.sub x (List.dropLast_subset _ h),fun j hj=>?_,?_⟩
  .rw [head?_append,hh];rfl
  .obtain ⟨x,h3,h4⟩:=hm1 j (bQ hj)
   exact ⟨x,mem_append_left _ h3,h4⟩
  .rw [List.length_append,List.length_dropLast]
   exact le_trans (add_le_add (le_trans hlen (add_le_add_left (Nat.mul_le_mul_right 127 hp) 1)) (le_trans (sub_le _ _) (le_trans W.len hK2))) (by decide)
end
end
end Mine.L01
namespace Mine.L01
noncomputable section
open PySem Ltl
section
variable {bs:List Sy} {g g':List Bool} {m m':Str} {J:Sg}
abbrev eT (bs:List Sy):T:=.lst (bs.map aU)
noncomputable abbrev gT (g:List Bool):T:=.tup (g.map .bool)
structure AY (bs:List Sy) (g:List Bool):Prop where
 dep:∀x∈bs,dep x<=40
 len:g.length=bs.length
 few:bs.length<=1000
theorem Al {α:Type}{e:α->T}{l:List α}{i:Nat}{a:α}(h:l[i]?=some a)(hi:i<=lim):aA (.tup (l.map e)) (.int i)=some (e a):=tC (e:=e) h hi
theorem z0 {x:Sy}(B:AY bs g)(hx:x∈bs):g[bs.idxOf x]?=some (look bs g x):=by
 have h:bs.idxOf x < g.length:=by rw [B.len];exact List.idxOf_lt_length_iff.mpr hx
 rw [look,getElem?_eq_getElem h];rfl
theorem cP (B:AY bs g){x:Sy}(hx:x∈bs)(n:Nat):af Ψ (n+1) 9 [aU x,eT bs,gT g] J=.ret (.bool (look bs g x)) J:=by
 refine vP ?_
 have h1:=(kC 40).idx (by decide) (B.dep x hx) B.dep hx
 have h2:=Al (e:=T.bool) (z0 B hx) (le_trans (le_of_lt (List.idxOf_lt_length_iff.mpr hx)) (le_trans B.few (by decide)))
 show up (eG (eT bs) (aU x)) J (fun j J=>up (aA (gT g) j) J fun v J=>.ret v J)=_
 rw [h1]
 show up (aA (gT g) (.int (bs.idxOf x))) J (fun v J=>.ret v J)=_
 rw [h2];rfl
theorem DS {m:Str}{bs:List Sy}{g:List Bool}{a c:Sy}:so m bs g (.and a c)=(so m bs g a&&so m bs g c):=rfl
theorem DR {m:Str}{bs:List Sy}{g:List Bool}{a c:Sy}:so m bs g (.or a c)=(so m bs g a||so m bs g c):=rfl
theorem lT (B:AY bs g):∀(s:Sy) (n:Nat),dep s<=n->dQ bs s->af Ψ (n+2) 10 [aU s,.str m,eT bs,gT g] J=.ret (.bool (so m bs g s)) J:=by
 intro s
 induction s with
 |mark x=>exact fun n _ _=>dZ rfl
 |yes=>exact fun n _ _=>dZ rfl
 |not a ih=>
  rintro (_ |n) h cl
  .cases h
  .exact dZ (au (ih n (le_of_succ_le_succ h) (cv cl (.head _))) rfl)
 |and a c ih ih'=>
  rintro (_ |n) h cl
  .cases h
  .have h:=max_le.mp (le_of_succ_le_succ h)
   have e:=ih n h.1 (cv cl (.head _))
   have e':=ih' n h.2 (cv cl (.tail _ (.head _)))
   refine dZ (au e ?_)
   cases q:so m bs g a with
   |false=>rw [DS,q];rfl
   |true=>rw [DS,q];exact au e' rfl
 |or a c ih ih'=>
  rintro (_ |n) h cl
  .cases h
  .have h:=max_le.mp (le_of_succ_le_succ h)
   have e:=ih n h.1 (cv cl (.head _))
   have e':=ih' n h.2 (cv cl (.tail _ (.head _)))
   refine dZ (au e ?_)
   cases q:so m bs g a with
   |true=>rw [DR,q];rfl
   |false=>rw [DR,q];exact au e' rfl
 |next a=>exact fun n _ cl=>dZ (au (cP B (eS cl _ (.head _)) n) rfl)
 |till a c=>exact fun n _ cl=>dZ (au (cP B (eS cl _ (.head _)) n) rfl)
 |always a=>exact fun n _ cl=>dZ (au (cP B (eS cl _ (.head _)) n) rfl)
 |again a=>exact fun n _ cl=>dZ (au (cP B (eS cl _ (.tail _ (.head _))) n) rfl)
abbrev v8 (m:Str)(g:List Bool):T:=.tup [.str m,gT g]
theorem uM (B:AY bs g)(B':AY bs g'){x:Sy}(hx:x∈bs)(hk:(∃a,x=.next a)\/(∃a c,x=.till a c)\/∃a,x=.always a)(cl:∀p∈bT x,dQ bs p){n:Nat}(hn:dep x<=n):
  af Ψ (n+2) 11 [aU x,eT bs,v8 m g,v8 m' g'] J=.ret (.bool (jZ bs m g m' g' x)) J:=by
 obtain _ |n:=n
 .rcases hk with ⟨a,rfl⟩ | ⟨a,c,rfl⟩ | ⟨a,rfl⟩<;>cases hn
 have gd:=cP (J:=J) B' hx (n+1)
 rcases hk with ⟨a,rfl⟩ | ⟨a,c,rfl⟩ | ⟨a,rfl⟩
 .exact nG (au (lT B' a n (le_of_succ_le_succ hn) (cl a (.head _))) rfl)
 .have h:=max_le.mp (le_of_succ_le_succ hn)
  have ea:=lT (m:=m) (J:=J) B a n h.1 (cl a (.head _))
  refine nG (au (lT B c n h.2 (cl c (.tail _ (.head _)))) ?_)
  rw [qB]
  cases so m bs g c with
  |true=>rfl
  |false=>
   refine au ea ?_
   cases so m bs g a with
   |false=>rfl
   |true=>exact au gd rfl
 .refine nG (au (lT B a n (le_of_succ_le_succ hn) (cl a (.head _))) ?_)
  rw [n6]
  cases so m bs g a with
  |false=>rfl
  |true=>exact au gd rfl
theorem Cn (B:AY bs g){x:Sy}(hx:x∈bs)(hk:(∃a c,x=.till a c)\/∃a,x=.always a)(cl:∀p∈bT x,dQ bs p){n:Nat}(hn:dep x<=n):
  af Ψ (n+2) 14 [aU x,.str m,eT bs,gT g] J=.ret (.bool (bF bs m g x)) J:=by
 obtain _ |n:=n
 .rcases hk with ⟨a,c,rfl⟩ | ⟨a,rfl⟩<;>cases hn
 have gd:=cP (J:=J) B hx (n+1)
 rcases hk with ⟨a,c,rfl⟩ | ⟨a,rfl⟩
 .have h:=max_le.mp (le_of_succ_le_succ hn)
  refine nH (au gd ?_)
  rw [xx]
  cases look bs g (.till a c) with
  |false=>rfl
  |true=>exact au (lT B c n h.2 (cl c (.tail _ (.head _)))) rfl
 .refine nH (au gd ?_)
  rw [sS]
  cases look bs g (.always a) with
  |true=>rfl
  |false=>exact au (lT B a n (le_of_succ_le_succ hn) (cl a (.head _))) rfl
theorem xz {t:T}(n:Nat):af Ψ (n+1) 14 [.none,.str m,t,gT g] J=.ret (.bool true) J:=nH rfl
end
section
variable {bs:List Sy} {g g':List Bool} {m m':Str} {J:Sg}
theorem Ap {s:Sy}(hs:bs=av s)(B:AY bs g)(B':AY bs g'){n:Nat}(hn:∀x∈bs,dep x<=n):
  af Ψ (n+3) 12 [eT bs,v8 m g,v8 m' g'] J=.ret (.bool (CM bs m g m' g')) J:=by
 have lp:∀(l:List Sy) (x3:Option T) (k:PK aY),(∀x∈l,x∈bs)->(∀x3,k [some (eT bs),some (v8 m g),some (v8 m' g'),x3] J=.ret (.bool true) J)->
   dB (bz 3) (ai (bR (p2 iD (aw 9 (ae (pV 3) (ae (pV 0) (ae (p2 aA (pV 1) (pC (.int 1))) ak)))) (aw 11 (ae (pV 3) (ae (pV 0) (ae (pV 1) (ae (pV 2) ak)))))) (ai (aF (pC (.bool false))) am) am) am) ⟨af Ψ (n+2)⟩ (l.map aU) [some (eT bs),some (v8 m g),some (v8 m' g'),x3] J k=.ret (.bool (l.all fun x=>look bs g x==jZ bs m g m' g' x)) J:=by
  intro l
  induction l with
  |nil=>exact fun x3 k _ hk=>hk x3
  |cons x l ih=>
   intro x3 k hl hk
   have hx:=hl x (.head _)
   have e:=ih (some (aU x)) k (fun y hy=>hl y (.tail _ hy)) hk
   refine au (cP B hx (n+1)) (au (uM B B' hx (ir (hs▸hx)) (fun p hp=>hs▸nP (hs▸hx) hp) (hn x hx)) ?_)
   rw [List.all_cons]
   cases look bs g x<;>cases jZ bs m g m' g' x<;>first |rfl |exact e
 exact vQ (lp bs none _ (fun _ h=>h) fun _=>rfl)
theorem oH {α z:Type}{f:α->z}(inj:∀x y,f x=f y->x=y){l:List α}(h:l.Nodup):(l.map f).Nodup:=List.pairwise_map.mpr (List.Pairwise.imp (fun q e=>q (inj _ _ e)) h)
noncomputable def hJ:Nat->List (List Bool)
 | 0=>[[]]
 |n+1=>(hJ n).map (·++[false])++(hJ n).map (·++[true])
theorem hH:∀{n:Nat} {g:List Bool},g∈hJ n->g.length=n:=by
 intro n
 induction n with
 |zero=>intro g h;cases aa h;rfl
 |succ n ih=>
  intro g h
  rcases ag h with h |h<;>(obtain ⟨a,ha,rfl⟩:=aG h;rw [List.length_append,ih ha];rfl)
theorem r0:∀{n:Nat} {g:List Bool},g.length=n->g∈hJ n:=by
 intro n
 induction n with
 |zero=>intro g h;rw [List.length_eq_zero_iff.mp h];exact .head _
 |succ n ih=>
  intro g h
  rcases eq_nil_or_concat g with rfl | ⟨a,b,rfl⟩
  .cases h
  .rw [concat_eq_append] at h ⊢
   rw [List.length_append] at h
   have ha:=ih (Nat.succ.inj h)
   cases b with
   |false=>exact mem_append_left _ (eL ⟨a,ha,rfl⟩)
   |true=>exact mem_append_right _ (eL ⟨a,ha,rfl⟩)
theorem nY:∀n:Nat,(hJ n).Nodup:=by
 intro n
 induction n with
 |zero=>exact pairwise_singleton _ _
 |succ n ih=>
  have inj:∀b:Bool,((hJ n).map (·++[b])).Nodup:=fun b=>oH (fun x y h=>List.append_inj_left' h rfl) ih
  refine nodup_append.mpr ⟨inj _,inj _,fun a ha b hb e=>?_⟩
  obtain ⟨x,_,rfl⟩:=aG ha
  obtain ⟨y,_,rfl⟩:=aG hb
  cases List.append_inj_right' e rfl
theorem mE (n:Nat):∀(l:List T),l.length<=4->af Ψ (n+1) 8 [.lst l] J=.ret (.lst ((hJ l.length).map gT)) J
 | [],_=>cH (by kernel_rfl)
 | [_],_=>cH (by kernel_rfl)
 | [_,_],_=>cH (by kernel_rfl)
 | [_,_,_],_=>cH (by kernel_rfl)
 | [_,_,_,_],_=>cH (by kernel_rfl)
 |_::_::_::_::_::_,h=>absurd h (by rw [length_cons,length_cons,length_cons,length_cons,length_cons];lia -abstractProof)
end
section
variable {J:Sg}
theorem mc (s:Sy)(n:Nat):af Ψ (n+1) 2 [aU s] J=.ret (.lst ((bT s).map aU)) J:=by cases s<;>exact i0 (by kernel_rfl)
theorem Ch (s:Sy)(n:Nat):af Ψ (n+1) 6 [aU s] J=.ret (eT (bU s)) J:=by cases s<;>exact rP (by kernel_rfl)
theorem dJ {s p:Sy}(h:p∈bT s):dep p < dep s:=by
 cases s with
 |mark |yes=>cases h
 |not |next |always |again=>cases aa h;exact lt_succ_self _
 |and |or |till=>
  rcases an h with rfl |h
  .exact lt_succ_of_le (le_max_left _ _)
  .cases aa h;exact lt_succ_of_le (le_max_right _ _)
theorem rS (s:Sy):av s=ext ((bT s).foldl (fun f a=>ext f (av a)) []) (bU s):=by cases s<;>rfl
theorem qq:∀{s t:Sy},t∈all s->dep t<=dep s:=by
 have two:∀(s a c:Sy),(∀{t},t∈all a->dep t<=dep a)->(∀{t},t∈all c->dep t<=dep c)->dep s=max (dep a) (dep c)+1->∀{t},t∈s::(all a++all c)->dep t<=dep s:=fun s a c ha hc e t h=>by
  rcases an h with rfl |h
  .exact le_refl _
  .rw [e]
   rcases ag h with h |h
   .exact Nat.le_succ_of_le (le_trans (ha h) (le_max_left _ _))
   .exact Nat.le_succ_of_le (le_trans (hc h) (le_max_right _ _))
 have one:∀(s a:Sy),(∀{t},t∈all a->dep t<=dep a)->dep s=dep a+1->∀{t},t∈s::all a->dep t<=dep s:=fun s a ha e t h=>by
  rcases an h with rfl |h
  .exact le_refl _
  .rw [e];exact Nat.le_succ_of_le (ha h)
 intro s
 induction s with
 |mark |yes=>intro t h;cases aa h;exact le_refl _
 |not a ih |next a ih |always a ih |again a ih=>exact one _ a ih rfl
 |and a c ih ih' |or a c ih ih' |till a c ih ih'=>exact two _ a c ih ih' rfl
theorem eR (s:Sy):1<=dep s:=by cases s<;>exact succ_le_succ (zero_le _)
theorem di {s x:Sy}(h:x∈av s):dep x<=dep s+1:=by
 obtain ⟨t,h1,h2⟩:=aS.mp h
 refine le_trans ?_ (succ_le_succ (qq h1))
 cases t with
 |mark |yes |not |and |or=>cases h2
 |next |till |always=>cases aa h2;exact le_succ _
 |again a=>
  have e:max 1 (dep a)=dep a:=Nat.max_eq_right (eR a)
  rcases an h2 with rfl |h2
  .show max 1 (dep a)+1<=dep a+1+1
   rw [e];exact le_succ _
  .cases aa h2
   show max 1 (dep a)+1+1<=dep a+1+1
   rw [e];exact le_refl _
theorem fX (f xs:List Sy):(ext f xs).length<=f.length+xs.length:=by
 rw [ext,List.length_append];exact add_le_add_left (length_filter_le _ _) _
theorem vT:∀s:Sy,(av s).length+2<=2 ^ (dep s+1):=by
 have p0:∀n,2<=2 ^ (n+1):=fun n=>(pow_le_pow_right (n:=2) (by decide) (succ_le_succ (zero_le n)):2 ^ (0+1)<=_)
 have two:∀(s a c:Sy),(av a).length+2<=2 ^ (dep a+1)->(av c).length+2<=2 ^ (dep c+1)->dep s=max (dep a) (dep c)+1->av s=ext (ext (ext [] (av a)) (av c)) (bU s)->(bU s).length<=1->(av s).length+2<=2 ^ (dep s+1):=fun s a c ha hc e e2 h=>by
  have h1:=pow_le_pow_right (n:=2) (by decide) (succ_le_succ (le_max_left (dep a) (dep c)))
  have h2:=pow_le_pow_right (n:=2) (by decide) (succ_le_succ (le_max_right (dep a) (dep c)))
  rw [e,e2,pow_succ]
  have h3:=fX (ext (ext [] (av a)) (av c)) (bU s)
  have h4:=fX (ext [] (av a)) (av c)
  have h5:=fX [] (av a)
  rw [length_nil,zero_add] at h5
  refine le_trans (add_le_add_right (le_trans h3 (add_le_add (le_trans h4 (add_le_add_right h5 _)) h)) 2) (le_trans (?_:_<=(av a).length+2+((av c).length+2)) (Nat.mul_two _▸add_le_add (le_trans ha h1) (le_trans hc h2)))
  rw [Nat.add_add_add_comm];exact le_succ _
 have one:∀(s a:Sy),(av a).length+2<=2 ^ (dep a+1)->dep s=dep a+1->av s=ext (ext [] (av a)) (bU s)->(bU s).length<=2->(av s).length+2<=2 ^ (dep s+1):=fun s a ha e e2 h=>by
  rw [e,e2,pow_succ]
  have h3:=fX (ext [] (av a)) (bU s)
  have h5:=fX [] (av a)
  rw [length_nil,zero_add] at h5
  exact le_trans (add_le_add_right (le_trans h3 (add_le_add h5 h)) 2) (Nat.mul_two _▸add_le_add ha (p0 _))
 intro s
 induction s with
 |mark |yes=>exact p0 _
 |not a ih |next a ih |always a ih |again a ih=>exact one _ a ih rfl rfl (le_of_ble_eq_true rfl)
 |and a c ih ih' |or a c ih ih' |till a c ih ih'=>exact two _ a c ih ih' rfl rfl (le_of_ble_eq_true rfl)
end
section
variable {J:Sg}
theorem ng {V:aY}{i:Nat}{f xs:List Sy}{c:jQ}{k:PK (List T)}{r:du}(h1:∀v,b9 (V.set i (some v)) i=some v)(h2:∀v,b9 (V.set i (some v)) 1=some (eT f))(hf:∀x∈f,dep x<=40)(hx:∀x∈xs,dep x<=40)
  (hk:k ((xs.filter fun x=>!f.contains x).map aU) J=r):bO (bz i) (p2 iz (pV i) (pV 1)) (pV i) c V (xs.map aU) J [] k=r:=by
 refine fC (fun x=>!f.contains x) aU (fun a ha=>⟨_,rfl,fun k=>?_,fun _ k=>?_⟩) hk
 .show up (b9 (List.set V i (some (aU a))) i) J (fun v J=>up (b9 (List.set V i (some (aU a))) 1) J fun w J=>up (iz v w) J k)=_
  rw [h1,h2,List.contains_eq_mem]
  show up (iz (aU a) (eT f)) J k=_
  exact az ((kC 40).nin (by decide) (hx a ha) hf rfl) rfl
 .show up (b9 (List.set V i (some (aU a))) i) J k=_
  rw [h1];rfl
theorem nN {a:Sy}{d:Nat}(h:dep a<=d)(hd:d<=8):(av a).length<=1024:=
 le_trans (le_trans (le_add_right _ 2) (vT a)) (pow_le_pow_right (j:=10) (by decide) (succ_le_succ (le_trans h (Nat.le_succ_of_le hd))))
theorem qe {x:Sy}{d:Nat}(h:dep x<=d+1)(hd:d<=8):dep x<=40:=le_trans h (le_trans (succ_le_succ hd) (by decide))
theorem pL (f xs:List Sy)(h:f.length+xs.length<=20000):f.length+(xs.filter fun x=>!f.contains x).length<=lim:=
 le_trans (add_le_add_left (length_filter_le _ _) _) (le_trans h (by decide))
abbrev E8:PS:=ai (jb 1 jH (bv (bK (aw 500 (ae (pV 2) ak))) (bz 3) (p2 iz (pV 3) (pV 1)) (pV 3))) am
theorem tt {c:jQ}{t:Option T}{d:Nat}(hd:d<=8):∀(l:List Sy),(∀a∈l,dep a<=d/\c.call 500 [aU a] J=.ret (eT (av a)) J)->∀(f:List Sy) (x2:Option T) {k:PK aY} {r:du},(∀x∈f,dep x<=d+1)->f.length+l.length * 1024<=10240->
  (∀f' x2,f'=l.foldl (fun f a=>ext f (av a)) f->(∀x∈f',dep x<=d+1)->f'.length<=10240->k [t,some (eT f'),x2,none,none] J=r)->dB (bz 2) E8 c (l.map aU) [t,some (eT f),x2,none,none] J k=r:=by
 intro l
 induction l with
 |nil=>intro _ f x2 k r h1 h2 hk;exact hk f x2 rfl h1 (le_trans (le_add_right _ _) h2)
 |cons a l ih=>
  intro hl f x2 k r hf hlen hk
  obtain ⟨h1,h2⟩:=hl a (.head _)
  have d1:∀x∈av a,dep x<=d+1:=fun x hx=>le_trans (di hx) (succ_le_succ h1)
  have bl:=nN h1 hd
  have el:=fX f (av a)
  rw [length_cons] at hlen
  refine au h2 (ng (fun _=>rfl) (fun _=>rfl) (fun x hx=>qe (hf x hx) hd) (fun x hx=>qe (d1 x hx) hd) (az (qc (l:=f) (pL f _ ?_)) ?_))
  .lia
  .exact ih (fun b hb=>hl b (.tail _ hb)) (ext f (av a)) _ (fun x hx=>(fW.mp hx).elim (hf x) (d1 x)) (by lia -abstractProof) hk
theorem g8:∀(n:Nat) (s:Sy),dep s<=n->dep s<=8->af Ψ (n+1) 500 [aU s] J=.ret (eT (av s)) J:=by
 intro n
 induction n with
 |zero=>intro s h;exact absurd (eR s) (cU (lt_succ_of_le h))
 |succ n ih=>
  intro s h hn
  have hp:∀a∈bT s,dep a<=7:=fun a ha=>le_of_lt_succ (lt_of_lt_of_le (dJ ha) hn)
  have pl:(bT s).length<=2:=by cases s<;>exact le_of_ble_eq_true rfl
  have ol:(bU s).length<=2:=by cases s<;>exact le_of_ble_eq_true rfl
  rw [rS s]
  refine tn (au (mc s n) (tt (d:=7) (by decide) (bT s) (fun a ha=>⟨hp a ha,ih a (le_of_lt_succ (lt_of_lt_of_le (dJ ha) h)) (Nat.le_succ_of_le (hp a ha))⟩) [] none (fun _ h=>nomatch h) (by rw [length_nil];lia -abstractProof) ?_))
  rintro f' x2 rfl h1 h2
  exact au (Ch s n) (ng (fun _=>rfl) (fun _=>rfl) (fun x hx=>qe (h1 x hx) (by decide)) (fun x hx=>qe (di (aS.mpr ⟨s,gy s,hx⟩)) hn) (az (qc (l:=(bT s).foldl (fun f a=>ext f (av a)) []) (pL _ _ (by lia -abstractProof))) rfl))
end
noncomputable def sv:Str:=ofString "abcdefghijklmnopqrstuvwxyz"
noncomputable def Ga (c:Nat):Bool:=Nat.ble 97 c&&Nat.ble c 122
def Lw (x:Str):Prop:=∀c∈x.cps.toList,Ga c=true
theorem lB {c:Nat}(h:Ga c=true):97<=c/\c<=122:=⟨le_of_ble_eq_true (cJ h),le_of_ble_eq_true (cI h)⟩
theorem s8:∀k,k < 26->Txt.contains sv ⟨#[97+k]⟩=true:=by decide+kernel
theorem CG {c:Nat}(h:Ga c=true):Txt.contains sv ⟨#[c]⟩=true:=by
 obtain ⟨h1,h2⟩:=lB h
 obtain ⟨k,rfl⟩:=Nat.exists_eq_add_of_le h1
 exact s8 k (Nat.lt_of_add_lt_add_left (n:=97) (lt_succ_of_le h2))
theorem nV {α:Type}(l:List α):iH (.lst (l.map fun _=>.bool true))=some (.bool true):=by rw [all_map l fun _=>true,all_eq_true.mpr fun _ _=>rfl]
theorem nA {α:Type}{n:Nat}{x:α}(h:n<=lim):oU n x=some x:=by rw [oU,show cq n=true from ble_eq_true_of_le h];rfl
structure Mk (x:Str):Prop where
 len:x.length<=6
 lw:Lw x
section
variable {J:Sg}
theorem my {x:Str}(h:Mk x)(n:Nat):af Ψ (n+1) 1 [.str x] J=.ret (.bool true) J:=by
 refine oV ?_
 have e1:decide ((x.length:Int) > 6)=false:=decide_eq_false (by have:=h.len;lia -abstractProof)
 have e2:x.cps.all (· < 128)=true:=Array.all_eq_true_iff_forall_mem.mpr fun c hc=>decide_eq_true (by have:=lB (h.lw c (Array.mem_toList_iff.mpr hc));lia -abstractProof)
 show (bif decide ((x.length:Int) > 6) then du.ret (.bool false) J else up (bif x.cps.all (· < 128) then some (x.cps.toList.map fun c=>T.str ⟨#[c]⟩) else none) J fun xs J=>bO (bz 1) bB (pB (p2 Ew (pV 1) (pC (.str sv)))) ⟨af Ψ n⟩ [some (.str x),none] xs J [] fun ys J=>up (iH (.lst ys)) J fun v J=>.ret v J)=_
 rw [e1,e2]
 show bO _ _ _ _ _ (x.cps.toList.map fun c=>T.str ⟨#[c]⟩) J [] _=_
 refine dg (fun _=>.bool true) (fun c hc=>⟨_,rfl,fun k=>?_⟩) ?_
 .show k (.bool (Txt.contains sv ⟨#[c]⟩)) J=_
  rw [CG (h.lw c hc)]
 .exact az (nV _) rfl
def Gm (s:Sy):Prop:=∀x,.mark x∈all s->Mk x/\x≠ofString ""
theorem uv {s:Sy}(h:Gm s)(n:Nat):af Ψ (n+2) 3 [aU s] J=.ret (.bool true) J:=by
 cases s with
 |mark x=>
  obtain ⟨h1,h2⟩:=h x (.head _)
  refine eK (au (my h1 n) ?_)
  show up (iD (.str x) (.str (ofString ""))) J (fun b J=>.ret (.bool b) J)=_
  rw [Ax.isN (by decide) trivial trivial,decide_eq_false h2];rfl
 |_=>exact eK (by kernel_rfl)
theorem uJ:∀(n d:Nat) (s:Sy),dep s<=d->d<=n->Gm s->af Ψ (n+2) 4 [aU s,.int d] J=.ret (.bool true) J:=by
 intro n
 induction n with
 |zero=>intro d s h h';exact absurd (eR s) (cU (lt_succ_of_le (le_trans h h')))
 |succ n ih=>
  rintro (_ |d) s h h' hg
  .exact absurd (eR s) (cU (lt_succ_of_le h))
  refine cT (au (uv hg n) (au (mc s _) ?_))
  refine dg (e:=aU) (fun _=>.bool true) (fun p hp=>⟨_,rfl,fun k=>?_⟩) ?_
  .have:=ih d p (le_of_lt_succ (lt_of_lt_of_le (dJ hp) h)) (le_of_succ_le_succ h') fun x hx=>hg x (jO hp hx)
   refine au (t:=.bool true) (J:=J) ?_ rfl
   rw [show (((d+1:Nat):Int) - 1)=(d:Int) by lia -abstractProof];exact this
  .exact az (nV (bT s)) rfl
structure Gs (s:Sy):Prop where
 dep:dep s<=5
 few:(av s).length<=4
 gm:Gm s
theorem ub {s:Sy}(h:Gs s)(n:Nat):af Ψ (n+9) 7 [aU s] J=.ret (aU s) J:=by
 have e:decide (((((av s).map aU).length:Nat):Int) > 4)=false:=decide_eq_false (by have:=h.few;rw [length_map];lia -abstractProof)
 refine oq (au (k9 (au (uJ (n+5) 5 s h.dep (le_add_left _ _) h.gm) rfl)) (au (g8 _ s ?_ ?_) ?_))
 .exact le_trans h.dep (le_add_left _ (n+2))
 .exact le_trans h.dep (by decide)
 .show (bif decide (((((av s).map aU).length:Nat):Int) > 4) then du.bad else .ret (aU s) J)=_
  rw [e];rfl
noncomputable def GN:Sy->Bool
 |.till _ _=>true
 |.always _=>true
 |_=>false
def v7 (s:Sy):List Sy:=(av s).filter GN
abbrev zf (s:Sy):List T:=.none::(v7 s).map aU
theorem qU {s:Sy}(h:dep s<=8)(hl:(av s).length<=1000)(n:Nat):af Ψ (n+10) 13 [aU s] J=.ret (.lst (zf s)) J:=by
 refine om (au (g8 (n+8) s (le_trans h (le_add_left _ _)) h) (fC GN aU (fun x hx=>⟨_,rfl,fun k=>?_,fun _ _=>rfl⟩) ?_))
 .rcases ir hx with ⟨a,rfl⟩ | ⟨a,c,rfl⟩ | ⟨a,rfl⟩<;>kernel_rfl
 .refine az (a:=.lst (zf s)) ?_ rfl
  show oU ((T.none::(v7 s).map aU).length) (T.lst (zf s))=_
  exact nA (Nat.succ_le_of_lt (lt_of_le_of_lt (le_trans (le_of_eq (length_map ..)) (le_trans (length_filter_le ..) hl)) (by decide)))
end
noncomputable abbrev nT (p:Nat):T:=.int p
abbrev gz (r:List Nat):T:=.lst (r.map nT)
structure Mc where
 names:List Str
 roads:List (List Nat)
 firsts:List Nat
structure Dt (n:Nat) (r:List Nat):Prop where
 ne:r≠[]
 nd:r.Nodup
 lt:∀p∈r,p < n
structure Mc.Ok (M:Mc):Prop where
 pos:1<=M.names.length
 few:M.names.length<=12
 marks:∀x∈M.names,Mk x
 len:M.roads.length=M.names.length
 rows:∀r∈M.roads,Dt M.names.length r
 firsts:Dt M.names.length M.firsts
abbrev Mc.fs (M:Mc):List T:=[.lst (M.names.map .str),.lst (M.roads.map gz),gz M.firsts]
noncomputable abbrev Mc.t (M:Mc):T:=.obj 0 M.fs
noncomputable def Mc.mark (M:Mc)(p:Nat):Str:=(M.names[p]?).getD default
noncomputable def Mc.road (M:Mc)(p:Nat):List Nat:=(M.roads[p]?).getD []
section
variable {J:Sg} {M:Mc}
theorem Mc.Ok.lim (O:M.Ok){p:Nat}(h:p < M.names.length):p<=lim:=le_trans (le_of_lt h) (le_trans O.few (by decide))
theorem Bk {α:Type}{l:List α}{i:Nat}{d:α}(h:i < l.length):l[i]?=some ((l[i]?).getD d):=by rw [getElem?_eq_getElem h];rfl
theorem jA (O:M.Ok){p:Nat}(h:p < M.names.length)(n:Nat):af Ψ (n+1) 1007 [M.t,nT p] J=.ret (.str (M.mark p)) J:=
 nM (mt (de (e:=T.str) (Bk h) (O.lim h)) rfl)
theorem xQ (O:M.Ok){p:Nat}(h:p < M.names.length)(n:Nat):af Ψ (n+1) 1008 [M.t,nT p] J=.ret (gz (M.road p)) J:=
 lx (mt (de (e:=gz) (Bk (O.len▸h)) (O.lim h)) rfl)
theorem uT (n:Nat):af Ψ (n+1) 1009 [M.t] J=.ret (gz M.firsts) J:=kL rfl
theorem wZ {p n:Nat}(h:p < n)(k:Nat):af Ψ (k+1) 15 [nT p,nT n] J=.ret (.bool true) J:=
 tm (show du.ret (.bool (decide ((p:Int) < (n:Int)))) J=_ by rw [decide_eq_true (bP h)])
theorem oF {n:Nat}{r:List Nat}(R:Dt n r)(hr:r.length<=1000)(k:Nat):af Ψ (k+2) 16 [gz r,nT n] J=.ret .none J:=by
 have lp:∀(suf pre:List Nat) (x2 x3:Option T),r=pre++suf->dB (zm 2 3) (ai (bR (jp (dW (qE (aw 15 (ae (pV 3) (ae (pV 1) ak))))) (jp (p2 lr (pV 3) (p3 cg (pV 0) mi (p1 dA (pV 2)))) cN)) (ai gu am) am) am)
   ⟨af Ψ (k+1)⟩ (k8 pre.length (suf.map nT)) [some (gz r),some (nT n),x2,x3] J (fun V J=>am ⟨af Ψ (k+1)⟩ V J (kE 16))=.ret .none J:=fun suf=>by
  induction suf with
  |nil=>intro pre x2 x3 _;rfl
  |cons p suf ih=>
   intro pre x2 x3 e
   have hp:p∈r:=e▸mem_append_right _ (.head _)
   have e1:lr (nT p) (.lst (cut none (some (pre.length:Int)) (r.map nT)))=some false:=by
    rw [lH,kI,e,List.take_left]
    refine (Ay.mem (by decide) (l:=pre) trivial (fun _ _=>trivial) rfl).trans (congrArg some (decide_eq_false fun q=>?_))
    have:=R.nd
    rw [e] at this
    exact (aJ this).2.2 p q p (.head _) rfl
   refine au (wZ (R.lt p hp) k) ?_
   refine mt tR (mt e1 ?_)
   have:=ih (pre++[p]) (some (nT pre.length)) (some (nT p)) (by rw [e,List.append_assoc];rfl)
   rw [List.length_append] at this
   exact this
 have e:cQ (.int ((r.map nT).length:Nat)) (.int 0)=some false:=by
  rw [fY];exact congrArg some (decide_eq_false fun q=>R.ne (List.length_eq_zero_iff.mp (by rw [length_map] at q;exact ofNat.inj q)))
 exact ou (rW (Option.some.inj e) (lp r [] none none rfl))
theorem Hc {o:Option Bool}{x y z r:du}(h:o=some true)(h2:x=r):(match (generalizing:=false) o with |some true=>x |some false=>y |none=>z)=r:=by rw [h];exact h2
theorem xR {a c:Nat}(h:a<=c):DD (.int a) (.int c)=some true:=congrArg some (decide_eq_true (bE h))
theorem sR {a c:Nat}(h:a=c):iD (.int a) (.int c)=some false:=by rw [iD,fY,decide_eq_true (by rw [h])];rfl
theorem Ak (O:M.Ok){sp:Int}(n:Nat):af Ψ (n+3) 1006 [.self,.lst (M.names.map .str),.lst (M.roads.map gz),gz M.firsts] ⟨sp,some (0,[])⟩=.ret .none ⟨sp,some (0,M.fs)⟩:=by
 have l1:(M.names.map T.str).length=M.names.length:=length_map ..
 have rl:∀{r:List Nat},Dt M.names.length r->r.length<=1000:=fun {r} R=>le_trans (aZ (m:=List.range M.names.length) R.nd fun p hp=>bQ (R.lt p hp)) (by rw [length_range];exact le_trans O.few (by decide))
 have lp:∀(l:List (List Nat)),(∀r∈l,Dt M.names.length r)->∀(x4:Option T) {k:PK aY} {r:du},(∀x4,k [some .self,some (.lst (M.names.map .str)),some (.lst (M.roads.map gz)),some (gz M.firsts),x4,none,none] ⟨sp,some (0,[])⟩=r)->
   dB (bz 4) (ai (jc (aw 16 (ae (pV 4) (ae (p1 bJ (pV 1)) ak)))) am) ⟨af Ψ (n+2)⟩ (l.map gz) [some .self,some (.lst (M.names.map .str)),some (.lst (M.roads.map gz)),some (gz M.firsts),x4,none,none] ⟨sp,some (0,[])⟩ k=r:=fun l=>by
  induction l with
  |nil=>exact fun _ x4 _ _ hk=>hk x4
  |cons r l ih=>
   intro hl x4 k _ hk
   have R:=hl r (.head _)
   rw [<-l1] at R
   exact au (oF R (rl (hl r (.head _))) n) (ih (fun r h=>hl r (.tail _ h)) _ hk)
 refine i4 (Hc (xR (a:=1) (l1▸O.pos)) (rW (c:=!decide _) (congrArg not (Option.some.inj (xR (c:=12) (l1▸le_trans O.few (by decide))))) ?_))
 refine dg (e:=T.str) (fun _=>.bool true) (fun x hx=>⟨_,rfl,fun k=>au (my (O.marks x hx) _) rfl⟩) (mt (nV _) (rW (Option.some.inj (sR (a:=(M.roads.map gz).length) (c:=(M.names.map T.str).length) (by rw [length_map,length_map,O.len]))) ?_))
 refine lp M.roads O.rows none fun x4=>?_
 refine au (oF (l1▸O.firsts) (rl O.firsts) n) ?_
 exact dg (e:=gz) gz (fun r _=>⟨_,rfl,fun k=>rfl⟩) rfl
end
structure Kw where
 m:Str
 g:List Bool
 b:Str
noncomputable instance:DecidableEq Kw:=fun a b=>Classical.propDecidable (a=b)
abbrev Eu (k:Kw):T:=.tup [v8 k.m k.g,.str k.b]
def He (k:Kw):Ky:=.tup [.tup [.str k.m,.tup (k.g.map fun b=>.int (uF b))],.str k.b]
theorem Cz {a c:Kw}(h1:a.m=c.m)(h2:a.g=c.g)(h3:a.b=c.b):a=c:=by
 show Kw.mk a.m a.g a.b=Kw.mk c.m c.g c.b
 rw [h1,h2,h3]
theorem mx:sg Eu He:=⟨fun a=>by
  have e:jT 4 (gT a.g)=some (.tup (a.g.map fun b=>.int (uF b))):=by rw [Bd,mu];rfl
  show o1 (o2 (o1 (o2 (some (Ky.str a.m)) (o2 (jT 4 (gT a.g)) (some []) fun k ks=>some (k::ks)) fun k ks=>some (k::ks)) fun ks=>some (Ky.tup ks)) (some [Ky.str a.b]) fun k ks=>some (k::ks)) (fun ks=>some (Ky.tup ks))=_
  rw [e];rfl,
 fun a c h=>by
  have h1:=List.cons.inj (Ky.tup.inj h)
  have h2:=List.cons.inj (Ky.tup.inj h1.1)
  exact Cz (Ky.str.inj h2.1) (kM (Ky.tup.inj (List.cons.inj h2.2).1)) (Ky.str.inj (List.cons.inj h1.2).1)⟩
theorem ui {α:Type}{e:α->T}{H:α->Ky} [DecidableEq α] (K:sg e H){l:List α}{vs:List T}(a:α):eC (e a) (.dct (l.map e) vs)=some (!decide (a∈l)):=by
 show (Bj _ _).map _=_
 rw [K.has];rfl
section
variable {M:Mc} {s:Sy}
def beh (s:Sy)(m:Str)(g:List Bool)(m':Str):List (List Bool):=(hJ (av s).length).filter fun g'=>CM (av s) m g m' g'
def th (M:Mc)(s:Sy)(k:Kn):List Kn:=(M.road k.p).flatMap fun q=>(beh s (M.mark k.p) k.g (M.mark q)).map (Kn.mk q)
abbrev e9 (s:Sy)(kk:List Kw):T:=.dct (kk.map Eu) (kk.map fun k=>.lst ((beh s k.m k.g k.b).map gT))
abbrev DL (M:Mc)(s:Sy)(D:List Kn):T:=.dct (D.map aV) (D.map fun k=>.lst ((th M s k).map aV))
abbrev wS (M:Mc)(s:Sy)(sp:Int)(kk:List Kw)(K:List Kn)(bg:Nat)(D:List Kn):Sg:=⟨sp,some (10,[eT (av s),.lst (zf s),M.t,e9 s kk,.lst (K.map aV),.int bg,DL M s D])⟩
theorem Gs.bds (G:Gs s){g:List Bool}(h:g.length=(av s).length):AY (av s) g:=⟨fun x hx=>le_trans (di hx) (le_trans (succ_le_succ G.dep) (by decide)),h,le_trans G.few (by decide)⟩
variable {sp:Int} {kk:List Kw} {K:List Kn} {bg:Nat} {D:List Kn}
theorem vU (G:Gs s){m m':Str}{g:List Bool}(hg:g.length=(av s).length)(hl:kk.length < lim)(n:Nat):
  bu (fun t J'=>t=.lst ((beh s m g m').map gT)/\∃kk',kk'.length<=kk.length+1/\J'=wS M s sp kk' K bg D) (af Ψ (n+20) 1004 [.self,v8 m g,.str m'] (wS M s sp kk K bg D)):=by
 refine gD ?_
 by_cases h:(⟨m,g,m'⟩:Kw)∈kk
 .refine dX (o:=eC (Eu ⟨m,g,m'⟩) (e9 s kk)) (a:=false) ?_ ?_
  .rw [e9,ui mx,decide_eq_true h];rfl
  .exact dX (mx.get (a:=⟨m,g,m'⟩) h) (b8 ⟨rfl,kk,le_succ _,rfl⟩)
 .refine dX (o:=eC (Eu ⟨m,g,m'⟩) (e9 s kk)) (a:=true) ?_ ?_
  .rw [e9,ui mx,decide_eq_false h];rfl
  .have gl:=mE (J:=wS M s sp kk K bg D) (n+18) ((av s).map aU) (by rw [length_map];exact G.few)
   rw [length_map] at gl
   refine gp gl (uA (e:=gT) (fun g'=>CM (av s) m g m' g') gT (fun g' hg'=>⟨_,rfl,fun k=>au (Ap rfl (G.bds hg) (G.bds (hH hg')) (n:=n+16) fun x hx=>?_) rfl,fun _ k=>rfl⟩) ?_)
   .exact le_trans (di hx) (le_trans (succ_le_succ G.dep) (le_trans (by decide) (le_add_left 16 n)))
   .refine dX (o:=er (e9 s kk) (Eu ⟨m,g,m'⟩) (.lst ((beh s m g m').map gT))) (a:=e9 s (kk++[⟨m,g,m'⟩])) ?_ ?_
    .rw [e9,mx.put h hl,e9,map_append (f:=fun k:Kw=>T.lst _)];rfl
    .refine dX (mx.get (l:=kk++[⟨m,g,m'⟩]) (a:=⟨m,g,m'⟩) (mem_append_right _ (.head _))) (b8 ⟨rfl,_,?_,rfl⟩)
     rw [List.length_append];exact le_refl _
theorem kS:∀n:Nat,(hJ n).length=2 ^ n:=by
 intro n
 induction n with
 |zero=>rfl
 |succ n ih=>
  show ((hJ n).map _++(hJ n).map _).length=_
  rw [List.length_append,length_map,length_map,ih,pow_succ,Nat.mul_two]
theorem AL (G:Gs s)(m:Str)(g:List Bool)(m':Str):(beh s m g m').length<=16:=
 le_trans (length_filter_le _ _) (by rw [kS];exact pow_le_pow_right (j:=4) (by decide) G.few)
theorem GG {f l a:Nat}(h:f+(l+1) * 16<=10000)(ha:a<=16):f+a<=10000:=le_trans (add_le_add_left (le_trans ha (Nat.le_mul_of_pos_left 16 (succ_pos l))) f) h
theorem GF {f l a b:Nat}(h:f+(l+1) * 16<=10000)(hb:b<=a)(ha:a<=16):f+b+l * 16<=10000:=le_trans (add_le_add_right (add_le_add_left (le_trans hb ha) f) _) (by rw [add_assoc,add_comm 16,<-Nat.succ_mul];exact h)
theorem Cu (O:M.Ok)(G:Gs s){k:Kn}(hp:k.p < M.names.length)(hg:k.g.length=(av s).length)(hr:∀q∈M.road k.p,q < M.names.length)(hl:(M.road k.p).length<=12)(hk:kk.length<=10000)(n:Nat):
  bu (fun t J'=>t=.lst ((th M s k).map aV)/\∃kk',kk'.length<=kk.length+12/\J'=wS M s sp kk' K bg D) (af Ψ (n+21) 1003 [.self,aV k] (wS M s sp kk K bg D)):=by
 have lp:∀(l:List Nat),(∀q∈l,q < M.names.length)->∀(F:List Kn) (kk:List Kw) (x4:Option T) {H:PK aY} {Q:T->Sg->Prop},F.length+l.length * 16<=10000->kk.length+l.length<=20000->
   (∀kk' x4,kk'.length<=kk.length+l.length->bu Q (H [some .self,some (aV k),some (v8 (M.mark k.p) k.g),some (.lst ((F++l.flatMap fun q=>(beh s (M.mark k.p) k.g (M.mark q)).map (Kn.mk q)).map aV)),x4,none] (wS M s sp kk' K bg D)))->
   bu Q (dB (bz 4) (ai (jb 3 jH (bv (bK (sN 10 1004 (ae (pV 2) (ae (ua 0 1007 (e8 10 2) (ae (pV 4) ak)) ak)))) (bz 5) bB (aH (ae (pV 4) (ae (pV 5) ak))))) am) ⟨af Ψ (n+20)⟩ (l.map nT) [some .self,some (aV k),some (v8 (M.mark k.p) k.g),some (.lst (F.map aV)),x4,none] (wS M s sp kk K bg D) H):=fun l=>by
  induction l with
  |nil=>intro _ F kk x4 H Q _ _ hk;rw [List.flatMap_nil,append_nil] at hk;exact hk kk x4 (le_refl _)
  |cons q l ih=>
   intro hq F kk x4 H Q h1 h2 hk
   rw [length_cons] at h1 h2 hk
   have bl:=AL G (M.mark k.p) k.g (M.mark q)
   refine gp (jA O (hq q (.head _)) _) (cR (vU G hg (lt_of_le_of_lt (le_trans (le_add_right _ _) h2) (by decide)) n) ?_)
   rintro _ _ ⟨rfl,kk',h3,rfl⟩
   refine f6 (e:=gT) (fun g=>aV ⟨q,g⟩) (fun g _=>⟨_,rfl,fun _=>rfl⟩) (dX (o:=jH (.lst (F.map aV)) _) (a:=.lst ((F++(beh s (M.mark k.p) k.g (M.mark q)).map (Kn.mk q)).map aV)) ?_ (ih (fun q h=>hq q (.tail _ h)) _ kk' _ ?_ ?_ fun kk'' x4 h4=>?_))
   .rw [<-qc (by rw [length_map];exact le_trans (GG h1 bl) (by decide)),map_map];rfl
   .rw [List.length_append,length_map];exact GF h1 (le_refl _) bl
   .exact le_trans (add_le_add_right h3 _) (by rw [Nat.add_right_comm];exact h2)
   .have:=hk kk'' x4 (le_trans h4 (le_trans (add_le_add_right h3 _) (le_of_eq (Nat.add_right_comm ..))))
    rw [List.flatMap_cons,<-List.append_assoc] at this
    exact this
 refine pd (gp (jA O hp _) (gp (xQ O hp _) (lp (M.road k.p) hr [] kk none (by rw [length_nil,zero_add];exact le_trans (Nat.mul_le_mul_right 16 hl) (by decide)) (le_trans (add_le_add hk hl) (by decide)) fun kk' x4 h=>b8 ⟨rfl,kk',le_trans h (add_le_add_left hl _),rfl⟩)))
end
theorem xA {S:List Kn}(h:S.Nodup):rE (.lst (S.map fun k=>.tup [aV k,.bool true]))=some (kh S):=by
 show o1 (mZ (S.map fun k=>.tup [aV k,.bool true]) ([].map aV) []) _=_
 rw [kJ S [] [] h];rfl
section
variable {M:Mc} {s:Sy}
def sx (M:Mc)(s:Sy):List Kn:=(List.range M.names.length).flatMap fun p=>(hJ (av s).length).map (Kn.mk p)
theorem ik {k:Kn}:k∈sx M s↔k.p < M.names.length/\k.g.length=(av s).length:=by
 constructor
 .intro h
  obtain ⟨p,h1,h2⟩:=mem_flatMap.mp h
  obtain ⟨g,h3,rfl⟩:=aG h2
  exact ⟨bY h1,hH h3⟩
 .exact fun h=>mem_flatMap.mpr ⟨k.p,bQ h.1,eL ⟨k.g,r0 h.2,rfl⟩⟩
theorem zt:(sx M s).length=M.names.length * 2 ^ (av s).length:=by
 have:∀l:List Nat,(l.flatMap fun p=>(hJ (av s).length).map (Kn.mk p)).length=l.length * 2 ^ (av s).length:=fun l=>by
  induction l with
  |nil=>exact (Nat.zero_mul _).symm
  |cons p l ih=>rw [List.flatMap_cons,List.length_append,ih,length_map,kS,length_cons,Nat.succ_mul,add_comm]
 rw [sx,this,length_range]
theorem lX (O:M.Ok){p:Nat}(h:p < M.names.length):Dt M.names.length (M.road p):=by
 have h:=O.len▸h
 refine O.rows _ ?_
 rw [Mc.road,getElem?_eq_getElem h];exact getElem_mem h
theorem BS (O:M.Ok){k y:Kn}(hp:k.p < M.names.length)(h:y∈th M s k):y∈sx M s:=by
 obtain ⟨q,h1,h2⟩:=mem_flatMap.mp h
 obtain ⟨g,h3,rfl⟩:=aG h2
 exact ik.mpr ⟨(lX O hp).lt q h1,hH (b6 h3).1⟩
structure yZ (M:Mc) (s:Sy) (S D R:List Kn):Prop where
 nd:(D++R).Nodup
 sub:∀k∈D++R,k∈sx M s
 clo:∀k∈D,∀y∈th M s k,y∈D++R
 rch:∀k∈D++R,∃a∈S,lg (th M s) a k
 pre:S <+:D++R
theorem yZ.push {S D R:List Kn}{k y:Kn}(P:yZ M s S D R)(hk:k∈D++R)(hy:y∈th M s k)(hu:y∈sx M s)(hn:y∉D++R):yZ M s S D (R++[y]):=by
 have e:D++(R++[y])=(D++R)++[y]:=(List.append_assoc ..).symm
 refine ⟨?_,?_,?_,?_,?_⟩
 .rw [e,nodup_append]
  exact ⟨P.nd,pairwise_singleton _ _,fun a ha b hb q=>hn (aa hb▸q▸ha)⟩
 .rw [e];exact fun x hx=>(ag hx).elim (P.sub x) fun h=>aa h▸hu
 .rw [e];exact fun x hx z hz=>mem_append_left _ (P.clo x hx z hz)
 .rw [e]
  intro x hx
  rcases ag hx with h |h
  .exact P.rch x h
  .obtain ⟨a,h1,h2⟩:=P.rch k hk
   exact ⟨a,h1,aa h▸h2.trans (.one hy)⟩
 .rw [e];exact P.pre.trans (List.prefix_append _ _)
theorem yZ.done {S D R:List Kn}{k:Kn}(P:yZ M s S D (k::R))(h:∀y∈th M s k,y∈D++k::R):yZ M s S (D++[k]) R:=by
 have e:(D++[k])++R=D++k::R:=by rw [List.append_assoc];rfl
 refine ⟨e▸P.nd,e▸P.sub,fun x hx=>?_,e▸P.rch,e▸P.pre⟩
 rw [e]
 rcases ag hx with hx |hx
 .exact P.clo x hx
 .exact aa hx▸h
inductive SW (M:Mc) (s:Sy) (S:List Kn) (sp:Int) (bg:Nat):List Kn×List Kn×List Kw->aY->Sg->Prop
 |mk {D R:List Kn} {kk:List Kw} {x3 x4:Option T} (P:yZ M s S D R) (hk:kk.length<=12 * D.length):SW M s S sp bg (D,R,kk) [some .self,some (kh (D++R)),some (.int D.length),x3,x4,none] (wS M s sp kk (D++R) bg D)
inductive SF (M:Mc) (s:Sy) (S:List Kn) (sp:Int) (bg:Nat) (D:List Kn) (k:Kn) (kk:List Kw):List Kn->aY->Sg->Prop
 |mk {pre R':List Kn} {x4:Option T} (P:yZ M s S D (k::R')) (hp:∀y∈pre,y∈D++k::R'):SF M s S sp bg D k kk pre [some .self,some (kh (D++k::R')),some (.int D.length),some (aV k),x4,none] (wS M s sp kk (D++k::R') bg (D++[k]))
theorem zy (O:M.Ok)(G:Gs s)(U:(sx M s).length<=128){S:List Kn}{sp:Int}(hS:S.Nodup)(hu:∀k∈S,k∈sx M s)(bg:Nat)(n:Nat):
  bu (fun t v'=>t=.none/\∃kk K,v'=wS M s sp kk K bg K/\yZ M s S K []) (af Ψ (n+22) 1002 [.self] (wS M s sp [] S bg [])):=by
 have ul:=U
 refine sI (f6 (e:=aV) (fun k=>.tup [aV k,.bool true]) (fun k _=>⟨_,rfl,fun _=>rfl⟩) (dX (xA hS) ?_))
 refine jY (S:=List Kn×List Kn×List Kw) (SW M s S sp bg)
  (fun x=>decide ((x.1.length:Int) < (((x.1++x.2.1).map aV).length:Int))) (fun x=>128 - x.1.length) ?_ ?_ ?_ (s:=([],S,[])) (show 128 - 0 < 400 by decide) (.mk ⟨hS,hu,fun _ h=>(nomatch h),fun k hk=>⟨k,hk,.refl _⟩,List.prefix_rfl⟩ (le_refl _))
 .rintro _ _ _ ⟨⟩ k hk
  exact hk
 .rintro _ _ _ @⟨D,R,kk,x3,x4,P,hk⟩ hg H hκ
  have len:=le_trans (aZ P.nd P.sub) ul
  obtain _ | ⟨k,R⟩:=R
  .have:=of_decide_eq_true hg
   rw [length_map,append_nil] at this
   exact absurd this (Int.lt_irrefl _)
  have km:k∈D++k::R:=mem_append_right _ (.head _)
  obtain ⟨hp,hgl⟩:=ik.mp (P.sub k km)
  have rr:=lX O hp
  have kD:k∉D:=fun h=>(aJ P.nd).2.2 k h k (.head _) rfl
  rw [List.length_append,length_cons] at len
  have e1:(D++k::R)[D.length]?=some k:=by rw [getElem?_append_right (le_refl _),Nat.sub_self];rfl
  refine dX (de (e:=aV) e1 (le_of_lt (eE (le_trans (le_add_right _ _) len) (by decide)))) (cR (Cu O G hp hgl rr.lt ?_ ?_ n) ?_)
  .have:=aZ (m:=List.range M.names.length) rr.nd fun p hp=>bQ (rr.lt p hp)
   rw [length_range] at this;exact le_trans this O.few
  .exact le_trans hk (le_trans (Nat.mul_le_mul_left 12 (le_trans (le_add_right _ _) len)) (by decide))
  rintro _ _ ⟨rfl,kk',h1,rfl⟩
  refine dX (o:=er (DL M s D) (aV k) _) (a:=DL M s (D++[k])) ?_ ?_
  .rw [DL,ck.put kD (eE (le_trans (le_add_right _ _) len) (by decide)),DL,map_append (f:=fun k=>T.lst _)];rfl
  refine dX (ck.get (l:=D++[k]) (a:=k) (mem_append_right _ (.head _))) ?_
  refine mI (e:=aV) (l:=th M s k) (SF M s S sp bg D k kk') ?_ ?_ (pre:=[]) rfl (.mk P fun _ h=>nomatch h)
  .rintro pre y suf _ _ hl @⟨R',x4,P,hp'⟩ H' hκ'
   have yt:y∈th M s k:=by rw [hl];exact mem_append_right _ (.head _)
   have len:=le_trans (aZ P.nd P.sub) ul
   by_cases h:y∈D++k::R'
   .refine dX (o:=eC (aV y) (kh (D++k::R'))) (a:=false) (by rw [ii,decide_eq_true h];rfl) (hκ' _ _ (.mk P fun z hz=>?_))
    exact (ag hz).elim (hp' z) fun q=>aa q▸h
   .have ll:(D++k::R').length < lim:=by exact lt_of_le_of_lt (by assumption) (by decide)
    refine dX (o:=eC (aV y) (kh (D++k::R'))) (a:=true) (by rw [ii,decide_eq_false h];rfl) (dX (jz h ll) (dX (d7 y ll) ?_))
    have e:(D++k::R')++[y]=D++k::(R'++[y]):=List.append_assoc ..
    rw [e]
    refine hκ' _ _ (.mk (R':=R'++[y]) (P.push (mem_append_right _ (.head _)) yt (BS O hp yt) h) fun z hz=>?_)
    rw [<-e]
    exact (ag hz).elim (fun q=>mem_append_left _ (hp' z q)) fun q=>mem_append_right _ q
  .rintro _ _ @⟨R',x4,P,hp'⟩
   have e:(D++[k])++R'=D++k::R':=by rw [List.append_assoc];rfl
   have l:(D++[k]).length=D.length+1:=List.length_append ..
   have w:=SW.mk (sp:=sp) (bg:=bg) (kk:=kk') (x3:=some (aV k)) (x4:=x4) (P.done hp') (by rw [l];exact le_trans h1 (add_le_add_right hk 12))
   rw [e,l] at w
   exact hκ _ _ _ (show 128 - (D++[k]).length < 128 - D.length by rw [l];exact Nat.sub_lt_sub_left (lt_of_lt_of_le (Nat.lt_add_of_pos_right (succ_pos _)) len) (lt_succ_self _)) w
 .rintro _ _ _ @⟨D,R,kk,x3,x4,P,_⟩ hg
  obtain _ | ⟨k,R⟩:=R
  .exact b8 ⟨rfl,kk,D,by rw [append_nil],P⟩
  .have:=of_decide_eq_false hg
   rw [length_map,List.length_append,length_cons] at this
   exact absurd (bP (Nat.lt_add_of_pos_right (succ_pos _))) this
end
section
variable {M:Mc} {s:Sy}
theorem mM {f:Nat->List (List Bool)}(hf:∀p,(f p).Nodup):∀{l:List Nat},l.Nodup->(l.flatMap fun p=>(f p).map (Kn.mk p)).Nodup:=by
 intro l
 induction l with
 |nil=>exact fun _=>.nil
 |cons p l ih=>
  intro h
  obtain ⟨h1,h2⟩:=aT h
  rw [List.flatMap_cons,nodup_append]
  refine ⟨oH (fun x y e=>congrArg Kn.g e) (hf p),ih h2,fun a ha b hb e=>?_⟩
  obtain ⟨g,_,rfl⟩:=aG ha
  obtain ⟨q,h3,h4⟩:=mem_flatMap.mp hb
  obtain ⟨g',_,rfl⟩:=aG h4
  exact h1 ((show p=q from congrArg Kn.p e)▸h3)
def st (M:Mc)(s:Sy):List Kn:=M.firsts.flatMap fun p=>((hJ (av s).length).filter fun g=>!so (M.mark p) (av s) g s).map (Kn.mk p)
theorem xB {k:Kn}:k∈st M s↔k.p∈M.firsts/\k.g.length=(av s).length/\so (M.mark k.p) (av s) k.g s=false:=by
 constructor
 .intro h
  obtain ⟨p,h1,h2⟩:=mem_flatMap.mp h
  obtain ⟨g,h3,rfl⟩:=aG h2
  obtain ⟨h4,h5⟩:=b6 h3
  exact ⟨h1,hH h4,(not_eq_true' _).mp h5⟩
 .exact fun h=>mem_flatMap.mpr ⟨k.p,h.1,eL ⟨k.g,fh ⟨r0 h.2.1,(not_eq_true' _).mpr h.2.2⟩,rfl⟩⟩
theorem qF (O:M.Ok){k:Kn}(h:k.p < M.names.length):(th M s k).Nodup:=mM (fun _=>(nY _).filter _) (lX O h).nd
abbrev iS (M:Mc)(s:Sy)(sp:Int)(F:List Kn):Sg:=⟨sp,some (10,[eT (av s),.lst (zf s),M.t,.dct [] [],.lst (F.map aV)])⟩
theorem wh (O:M.Ok)(G:Gs s)(U:(sx M s).length<=128){sp:Int}(n:Nat):
  bu (fun t J'=>t=.none/\∃kk K,J'=wS M s sp kk K (st M s).length K/\yZ M s (st M s) K []) (af Ψ (n+23) 1001 [.self,M.t,aU s] ⟨sp,some (10,[])⟩):=by
 have inner:∀(p:Nat),p < M.names.length->∀(l:List (List Bool)),(∀g∈l,g.length=(av s).length)->∀(F:List Kn) (x4:Option T) {k:PK aY} {Q:T->Sg->Prop},F.length+l.length<=10000->
   (∀x4,bu Q (k [some .self,some M.t,some (aU s),some (nT p),x4] (iS M s sp (F++(l.filter fun g=>!so (M.mark p) (av s) g s).map (Kn.mk p)))))->
   bu Q (dB (bz 4) (ai (bR (dW (qE (aw 10 (ae (pV 2) (ae (ua 0 1007 (pV 1) (ae (pV 3) ak)) (ae (e8 10 0) (ae (pV 4) ak))))))) (ai (qX 10 4 (aH (ae (pV 3) (ae (pV 4) ak)))) am) am) am) ⟨af Ψ (n+22)⟩ (l.map gT) [some .self,some M.t,some (aU s),some (nT p),x4] (iS M s sp F) k):=fun p hp l=>by
  induction l with
  |nil=>intro _ F x4 k Q _ hk;rw [List.filter_nil,map_nil,append_nil] at hk;exact hk x4
  |cons g l ih=>
   intro hl F x4 k Q h1 hk
   rw [length_cons] at h1
   refine gp (jA O hp _) (gp (lT (G.bds (hl g (.head _))) s (n+20) (le_trans G.dep (le_trans (by decide) (le_add_left 20 n))) (jJ s)) ?_)
   cases e:so (M.mark p) (av s) g s with
   |true=>
    rw [List.filter_cons_of_neg (by rw [e];decide)] at hk
    exact ih (fun g h=>hl g (.tail _ h)) F _ (Nat.le_of_succ_le h1) hk
   |false=>
    rw [List.filter_cons_of_pos (by rw [e];rfl)] at hk
    refine dX (d7 (e:=aV) (l:=F) ⟨p,g⟩ (lt_of_le_of_lt (le_trans (le_add_right _ _) h1) (by decide))) (ih (fun g h=>hl g (.tail _ h)) (F++[⟨p,g⟩]) _ ?_ fun x4=>?_)
    .rw [List.length_append];exact le_trans (le_of_eq (add_assoc ..)) (add_comm 1 _▸h1)
    .rw [List.append_assoc];exact hk x4
 have outer:∀(l:List Nat),(∀p∈l,p < M.names.length)->∀(F:List Kn) (x3 x4:Option T) {k:PK aY} {Q:T->Sg->Prop},F.length+l.length * 16<=10000->
   (∀x3 x4,bu Q (k [some .self,some M.t,some (aU s),x3,x4] (iS M s sp (F++l.flatMap fun p=>((hJ (av s).length).filter fun g=>!so (M.mark p) (av s) g s).map (Kn.mk p)))))->
   bu Q (dB (bz 3) (ai (dv (bK (aw 8 (ae (e8 10 0) ak))) (bz 4) (ai (bR (dW (qE (aw 10 (ae (pV 2) (ae (ua 0 1007 (pV 1) (ae (pV 3) ak)) (ae (e8 10 0) (ae (pV 4) ak))))))) (ai (qX 10 4 (aH (ae (pV 3) (ae (pV 4) ak)))) am) am) am)) am) ⟨af Ψ (n+22)⟩ (l.map nT) [some .self,some M.t,some (aU s),x3,x4] (iS M s sp F) k):=fun l=>by
  induction l with
  |nil=>intro _ F x3 x4 k Q _ hk;rw [List.flatMap_nil,append_nil] at hk;exact hk x3 x4
  |cons p l ih=>
   intro hl F x3 x4 k Q h1 hk
   rw [length_cons] at h1
   have gl:=mE (J:=iS M s sp F) (n+21) ((av s).map aU) (by rw [length_map];exact G.few)
   rw [length_map] at gl
   have al:(hJ (av s).length).length<=16:=by rw [kS];exact pow_le_pow_right (j:=4) (by decide) G.few
   refine gp gl (inner p (hl p (.head _)) _ (fun g h=>hH h) F _ (GG h1 al) fun x4=>ih (fun q h=>hl q (.tail _ h)) _ _ _ ?_ fun x3 x4=>?_)
   .have:=length_filter_le (fun g=>!so (M.mark p) (av s) g s) (hJ (av s).length)
    rw [List.length_append,length_map];exact GF h1 this al
   .have:=hk x3 x4
    rw [List.flatMap_cons,<-List.append_assoc] at this
    exact this
 have fl:M.firsts.length<=12:=by
  have:=aZ (m:=List.range M.names.length) O.firsts.nd fun p hp=>bQ (O.firsts.lt p hp)
  rw [length_range] at this;exact le_trans this O.few
 have d8:dep s<=8:=le_trans G.dep (by decide)
 refine l7 (gp (ub G (n+13)) (gp (g8 _ s (le_trans d8 (le_trans (by decide) (le_add_left 21 n))) d8) (gp (qU d8 (le_trans G.few (by decide)) (n+12)) (gp (uT (n+21)) ?_))))
 refine outer M.firsts O.firsts.lt [] none none (by rw [length_nil,zero_add];exact le_trans (Nat.mul_le_mul_right 16 fl) (by decide)) fun x3 x4=>?_
 refine cR (zy O G U (sp:=sp) (S:=st M s) (mM (fun _=>(nY _).filter _) O.firsts.nd) (fun k hk=>ik.mpr ⟨O.firsts.lt _ (xB.mp hk).1,(xB.mp hk).2.1⟩) ((st M s).map aV).length n) ?_
 rintro _ _ ⟨rfl,kk,K,rfl,P⟩
 exact b8 ⟨rfl,kk,K,by rw [length_map],P⟩
end
theorem dY {xs:List T}{j:Nat}{t:T}(h:xs[j]?=some t)(hj:j<=lim):aA (.lst xs) (.int j)=some t:=by
 have:=de (e:=id) h hj
 rw [List.map_id] at this;exact this
section
variable {M:Mc} {s:Sy}
def zS (M:Mc)(s:Sy)(k:Kn):Nat->Bool
 | 0=>true
 |j+1=>match (v7 s)[j]? with
  |some x=>bF (av s) (M.mark k.p) k.g x
  |none=>true
abbrev Fl (M:Mc)(s:Sy)(kk:List Kw)(K:List Kn):T:=eV (eT (av s)) (.lst (zf s)) M.t (e9 s kk) K (st M s).length (th M s)
variable {kk:List Kw} {K:List Kn} {J:Sg}
theorem pf (G:Gs s):(v7 s).length<=4:=le_trans (length_filter_le _ _) G.few
theorem q0 (O:M.Ok)(G:Gs s)(hu:∀k∈K,k∈sx M s)(n:Nat):∀k∈K,∀j,j < (zf s).length->af Ψ (n+20) 1005 [Fl M s kk K,aV k,.int j] J=.ret (.bool (zS M s k j)) J:=by
 intro k hk j hj
 obtain ⟨h1,h2⟩:=ik.mp (hu k hk)
 have pl:=pf G
 obtain _ |j:=j
 .exact lc (mt (dY (j:=0) rfl (zero_le _)) (au (jA O h1 (n+18)) (au (xz (m:=M.mark k.p) (g:=k.g) (t:=eT (av s)) (n+18)) rfl)))
 .have hj:j < (v7 s).length:=by rw [length_cons,length_map] at hj;exact Nat.lt_of_succ_lt_succ hj
  have e1:(v7 s)[j]?=some (v7 s)[j]:=getElem?_eq_getElem hj
  have m1:=b6 (getElem_mem hj)
  have e2:(zf s)[j+1]?=some (aU (v7 s)[j]):=by
   show ((v7 s).map aU)[j]?=_
   rw [getElem?_map,e1];rfl
  have e3:zS M s k (j+1)=bF (av s) (M.mark k.p) k.g (v7 s)[j]:=by
   show (match (v7 s)[j]? with |some x=>bF (av s) (M.mark k.p) k.g x |none=>true)=_
   rw [e1]
  rw [e3]
  generalize (v7 s)[j]=x at m1 e2
  have hk:(∃a c,x=.till a c)\/∃a,x=.always a:=by
   rcases ir m1.1 with ⟨a,rfl⟩ |h
   .cases m1.2
   .exact h
  exact lc (mt (dY e2 (le_trans (le_trans hj pl) (by decide))) (au (jA O h1 (n+18)) (au (Cn (G.bds h2) m1.1 hk (fun p hp=>nP m1.1 hp) (n:=n+17) (le_trans (di m1.1) (le_trans (succ_le_succ G.dep) (le_trans (by decide) (le_add_left 17 n))))) rfl)))
structure Ht (M:Mc) (s:Sy) (K P R:List Kn):Prop where
 lasso:BE (th M s) (st M s) P R
 sub:∀x∈P++R,x∈K
 bF:∀j,j < (zf s).length->∃x∈R,zS M s x j=true
 len:(P++R).length<=1000
abbrev GI (l:List Kn):T:=.lst (l.map fun k=>nT k.p)
theorem vR (O:M.Ok)(G:Gs s)(U:(sx M s).length<=128)(S:yZ M s (st M s) K []){c0:Kn}{r:List Kn}(hC:∀x∈c0::r,x∈K)(scc:∀x∈c0::r,∀y∈c0::r,lg (th M s) x y)(hs:∀u∈c0::r,∃v∈th M s u,v∈c0::r)(hmet:∀j,j < (zf s).length->∃k∈c0::r,zS M s k j=true)(n:Nat):
  bu (fun t J'=>J'=J/\∃P R,t=.tup [.str (ofString "breaks"),GI P,GI R]/\Ht M s K P R) (af Ψ (n+22) 42 [Fl M s kk K,.lst ((c0::r).map aV)] J):=by
 have hu:∀k∈K,k∈sx M s:=fun k hk=>S.sub k (by rw [append_nil];exact hk)
 have nd:K.Nodup:=by have:=S.nd;rw [append_nil] at this;exact this
 have hc:∀k∈K,∀y∈th M s k,y∈K:=fun k hk y hy=>by have:=S.clo k hk y hy;rw [append_nil] at this;exact this
 have k2:K.length<=128:=le_trans (aZ nd hu) U
 have k1:K.length<=300:=le_trans k2 (by decide)
 have pl:=pf G
 have pre:st M s <+:K:=by have:=S.pre;rw [append_nil] at this;exact this
 have e1:cut none (some ((st M s).length:Int)) K=st M s:=by rw [kI];exact List.prefix_iff_eq_take.mp pre |>.symm
 refine qP (dX (fN e1) (dX (fN (kI 1 (c0::r))) (cR (pv (starts:=st M s) (goals:=[c0]) k1 hc (nd.sublist pre.sublist) (fun x hx=>pre.subset hx) (n+19)) ?_)))
 rintro _ _ ⟨rfl,P,rfl,h⟩
 have W:AU (th M s) K (st M s) c0 P:=by
  rcases h with ⟨g,h1,h2⟩ | ⟨_,h⟩
  .cases aa h1;exact h2
  .obtain ⟨a,h1,h2⟩:=S.rch c0 (by rw [append_nil];exact hC c0 (.head _))
   exact absurd h2 (h a h1 c0 (.head _))
 refine dX (fN (rJ P)) (f6 (e:=aV) (fun k=>nT k.p) (fun k _=>⟨_,rfl,fun _=>rfl⟩) (cR (zE (n:=n+18) k2 hc (fun k hk=>qF O (ik.mp (hu k hk)).1) hC ?_ scc hs hmet (q0 O G hu n)) ?_))
 .rw [length_cons,length_map];lia
 rintro _ _ ⟨rfl,R,rfl,w1,w2,w3,w4,w5,w6⟩
 refine f6 (e:=aV) (fun k=>nT k.p) (fun k _=>⟨_,rfl,fun _=>rfl⟩) (b8 ⟨rfl,P.dropLast,R,rfl,W.lasso w1 w2 w3,fun x hx=>(ag hx).elim (fun h=>W.sub x (List.dropLast_subset _ h)) (w4 x),w5,?_⟩)
 rw [List.length_append,List.length_dropLast];exact le_trans (add_le_add (le_trans (sub_le _ _) (le_trans W.len k2)) w6) (by decide)
end
end
end Mine.L01
namespace Mine.L01
noncomputable section
open PySem
def Sf (n:Nat)(t:T):Prop:=∃d,cu n t=some d/\PyData.eqv d d=true
theorem B0 {n:Nat}{x:Str}:Sf n (.str x):=⟨.str x,io n x,beq_self_eq_true x⟩
theorem B7 {n:Nat}:∀{l:List T},(∀x∈l,Sf n x)->∃ds,fi (cu n) l=some ds/\PyData.eqvAll ds ds=true:=fun {l}=>by
 induction l with
 |nil=>exact fun _=>⟨[],rfl,rfl⟩
 |cons x l ih=>
  intro h
  obtain ⟨d,h1,h2⟩:=h x (.head _)
  obtain ⟨ds,h3,h4⟩:=ih fun y hy=>h y (.tail _ hy)
  exact ⟨d::ds,nX h1 h3,by rw [PyData.eqvAll,h2,h4];rfl⟩
theorem wL {n:Nat}{l:List T}(h:∀x∈l,Sf n x):Sf (n+1) (.lst l):=let ⟨ds,h1,h2⟩:=B7 h;⟨.list ds,congrArg (Option.map PyData.list) h1,h2⟩
theorem B6 {α:Type}{n:Nat}{l:List α}{f:α->T}(h:∀x∈l,Sf n (f x)):∀t∈l.map f,Sf n t:=fun t ht=>let ⟨x,h1,h2⟩:=aG ht;h2▸h x h1
theorem Sf.eq {t:T}(h:Sf cG t):cQ t t=some true:=by
 obtain ⟨d,h1,h2⟩:=h
 unfold cQ;rw [h1];exact congrArg some h2
end
end Mine.L01
namespace Mine.L01
noncomputable section
open PySem Ltl
theorem zQ {Q:T->Sg->Prop}{o:du}{c:Nat}{sp:Int}{fs:List T}{k:PK T}(h:o=.ret .none ⟨sp,some (c,fs)⟩)(h2:bu Q (k (.obj c fs) ⟨sp,none⟩)):bu Q (og c o k):=by
 rw [h]
 unfold og
 show bu Q (bif Nat.beq c c then k (.obj c fs) ⟨sp,none⟩ else .bad)
 rw [beq_refl];exact h2
section
variable {th:Kn->List Kn} {K:List Kn}
def GH (th:Kn->List Kn):List Kn->Bool
 | []=>false
 |c::r=>!r.isEmpty||decide (c∈th c)
theorem Ca {A B:List (List Kn)}{c:Kn}{r:List Kn}(HHH:zl th K (A++(c::r)::B))(hK:∀k∈K,∀y∈th k,y∈K)(h:GH th (c::r)=true):∀u∈c::r,∃v∈th u,v∈c::r:=by
 have mem:c::r∈A++(c::r)::B:=mem_append_right _ (.head _)
 have nd:(c::r).Nodup:=by
  have:=HHH.nd
  rw [flatten_append,flatten_cons] at this
  exact (aJ (aJ this).2.1).1
 have two:∀u d,u∈c::r->d∈c::r->u≠d->∃v∈th u,v∈c::r:=fun u d hu hd ne=>by
  cases HHH.scc _ mem u hu d hd with
  |refl=>exact absurd rfl ne
  |step e q=>exact ⟨_,e,HHH.within hu e hK q hd⟩
 intro u hu
 cases r with
 |nil=>
  cases aa hu
  exact ⟨c,of_decide_eq_true (show decide (c∈th c)=true from h),.head _⟩
 |cons d r=>
  by_cases q:u=c
  .exact two u d hu (.tail _ (.head _)) fun e=>(aT nd).1 (q▸e▸.head _)
  .exact two u c hu (.head _) q
theorem zp {m:Nat}:∀l:List Kn,(∀k∈l,(th k).length<=m)->ee th [] l<=l.length * (m+2):=by
 intro l
 induction l with
 |nil=>exact fun _=>zero_le _
 |cons k l ih=>
  intro h
  have h1:=ih fun x hx=>h x (.tail _ hx)
  have h2:=h k (.head _)
  show (if k∈[] then 0 else (th k).length+2)+ee th [] l<=_
  rw [if_neg (fun q=>nomatch q),length_cons,Nat.succ_mul];lia -abstractProof
end
section
variable {M:Mc} {s:Sy}
@[reducible] def jR:PS:=ai (jb 4 jH (bv (bK (pV 6)) (bz 8) bB (aH (ae (p2 aA (pV 8) (pC (.int 0))) (ae (p2 aA (pV 8) (pC (.int 1))) (ae (p2 dU (p2 dU (p1 bJ (pV 3)) (pC (.int 1))) (pV 5)) (ae (pV 7) ak))))))) am
@[reducible] def jB:PS:=ai (aI 7 (pC (.int 0))) (ai (bR (qE (aw 37 (ae (pV 2) (ae (pV 6) ak)))) (ai (aI 7 (aw 38 (ae (pV 2) (ae (pV 6) ak)))) (ai (bR (p2 yb (pV 7) (pC .none)) (ai (aF (aw 42 (ae (pV 2) (ae (pV 6) ak)))) am) am) am)) am) jR)
@[reducible] def jE:PS:=ai (aF (aH (ae (pC (.str (ofString "keeps"))) (ae (pV 4) ak)))) am
theorem vp (O:M.Ok)(G:Gs s)(U:(sx M s).length<=128){sp:Int}(n:Nat):bu (fun _ J'=>J'=⟨sp,none⟩) (af Ψ (n+24) 43 [M.t,aU s] ⟨sp,none⟩):=by
 obtain ⟨_,_,w1,rfl,kk,K,rfl,S⟩:=wh O G U (sp:=sp) n
 have hu:∀k∈K,k∈sx M s:=fun k hk=>S.sub k (by rw [append_nil];exact hk)
 have nd:K.Nodup:=by have:=S.nd;rw [append_nil] at this;exact this
 have hc:∀k∈K,∀y∈th M s k,y∈K:=fun k hk y hy=>by have:=S.clo k hk y hy;rw [append_nil] at this;exact this
 have k1:K.length<=128:=le_trans (aZ nd hu) U
 have hw:∀k∈K,(th M s k).length<=128:=fun k hk=>le_trans (aZ (qF O (ik.mp (hu k hk)).1) (hc k hk)) k1
 have ws:ee (th M s) [] K < 20000:=lt_of_le_of_lt (zp K hw) (lt_of_le_of_lt (Nat.mul_le_mul_right _ k1) (by decide))
 refine wV (zQ w1 (cR (vO nd (le_trans k1 (by decide)) hc ws (fun k hk=>le_trans (hw k hk) (by decide)) (n+21)) ?_))
 rintro _ _ ⟨rfl,Cs,rfl,HHH,cov⟩
 have lp:∀(suf pre:List (List Kn)) (X:List T) (x5 x6 x7:Option T),Cs=pre++suf->X.length+suf.flatten.length<=1000->
   bu (fun _ J'=>J'=⟨sp,none⟩) (dB (zm 5 6) jB
    ⟨af Ψ (n+23)⟩ (k8 pre.length (suf.map yI)) [some M.t,some (aU s),some (Fl M s kk K),some (.lst (Cs.map yI)),some (.lst X),x5,x6,x7,none] ⟨sp,none⟩ fun V J=>jE ⟨af Ψ (n+23)⟩ V J (kE 43)):=fun suf=>by
  induction suf with
  |nil=>
   intro pre X x5 x6 x7 e _
   exact b8 rfl
  |cons C suf ih=>
   intro pre X x5 x6 x7 e hX
   obtain _ | ⟨c,r⟩:=C
   .exact absurd rfl (HHH.ne [] (by rw [e];exact mem_append_right _ (.head _)))
   rw [e] at HHH
   have CK:∀x∈c::r,x∈K:=fun x hx=>HHH.sub x (by rw [flatten_append,flatten_cons];exact mem_append_right _ (mem_append_left _ hx))
   have go:∀num:Int,
     bu (fun _ J'=>J'=⟨sp,none⟩) (jR
      ⟨af Ψ (n+23)⟩ [some M.t,some (aU s),some (Fl M s kk K),some (.lst (Cs.map yI)),some (.lst X),some (nT pre.length),some (yI (c::r)),some (.int num),none] ⟨sp,none⟩ fun V J=>dB (zm 5 6) jB
    ⟨af Ψ (n+23)⟩ (k8 (pre.length+1) (suf.map yI)) V J fun V J=>jE ⟨af Ψ (n+23)⟩ V J (kE 43)):=fun num=>by
    rw [flatten_cons,List.length_append] at hX
    refine f6 (e:=aV) (fun k=>.tup [nT k.p,gT k.g,.int ((((Cs.map yI).length:Int) - 1) - pre.length),.int num]) (fun k _=>⟨_,rfl,fun _=>rfl⟩) (dX (yr (by rw [length_map];exact le_trans (le_trans (add_le_add_left (le_add_right _ _) _) hX) (by decide))) ?_)
    have:=ih (pre++[c::r]) (X++(c::r).map fun k=>.tup [nT k.p,gT k.g,.int ((((Cs.map yI).length:Int) - 1) - pre.length),.int num]) (some (nT pre.length)) (some (yI (c::r))) (some (.int num)) (by rw [e,List.append_assoc];rfl) (by rw [List.length_append,length_map];exact le_trans (le_of_eq (add_assoc ..)) hX)
    rw [List.length_append] at this
    exact this
   refine gp (wP (CK c (.head _)) (n+22)) ?_
   cases hr:GH (th M s) (c::r) with
   |false=>
    rw [show (!r.isEmpty||decide (c∈th M s c))=false from hr]
    exact go 0
   |true=>
    rw [show (!r.isEmpty||decide (c∈th M s c))=true from hr]
    refine cR (wm CK ?_ (q0 O G hu (n+2))) ?_
    .rw [length_cons,length_map];exact le_trans (succ_le_succ (pf G)) (by decide)
    rintro _ _ ⟨rfl,⟨rfl,h⟩ | ⟨j,h1,rfl,h2⟩⟩
    .refine cR (vR O G U S CK (HHH.scc _ (mem_append_right _ (.head _))) (Ca HHH hc hr) h (n+1)) ?_
     rintro _ _ ⟨rfl,P,R,rfl,B⟩
     exact b8 rfl
    .exact go j
 exact lp Cs [] [] none none none rfl (by rw [length_nil,zero_add];exact le_trans (aZ HHH.nd HHH.sub) (le_trans k1 (by decide)))
end
theorem mJ (a:Int){n:Nat}(h:0 < n):∃k:Nat,a.fmod (n:Int)=(k:Int)/\k < n:=by
 have h1:0<=a.fmod (n:Int):=Int.fmod_nonneg_of_pos _ (Int.natCast_pos.mpr h)
 have h2:a.fmod (n:Int) < (n:Int):=Int.fmod_lt_of_pos _ (Int.natCast_pos.mpr h)
 exact ⟨(a.fmod (n:Int)).toNat,(Int.toNat_of_nonneg h1).symm,(Int.toNat_lt h1).mpr h2⟩
theorem Lw.append {a b:Str}(ha:Lw a)(hb:Lw b):Lw (a++b):=fun c h=>by
 have e:(a++b).cps.toList=a.cps.toList++b.cps.toList:=by
  show (a.cps++b.cps).toList=_
  rw [Array.toList_append]
 rw [e] at h
 exact (ag h).elim (ha c) (hb c)
theorem Lw.cut {x:Str}{lo hi:Option Int}(h:Lw x):Lw (fB lo hi x):=fun c hc=>h c (List.mem_of_mem_drop (List.mem_of_mem_take hc))
theorem fL (a b:Str):(a++b).length=a.length+b.length:=Array.size_append ..
theorem z8:∀k,k < 26->sv.cps[k]?=some (97+k):=by decide+kernel
noncomputable def lt (x:Int):Str:=⟨#[97+(x.fmod 26).toNat]⟩
theorem xK (x:Int):aA (.str sv) (.int (x.fmod 26))=some (.str (lt x)):=by
 obtain ⟨k,h1,h2⟩:=mJ x (n:=26) (by decide)
 have h1:x.fmod 26=(k:Int):=h1
 rw [lt,h1]
 show tO k sv=_
 rw [tO,sE (le_trans (le_of_lt h2) (by decide)),jn (show k < sv.length from h2)]
 show (sv.cps[k]?).map _=_
 rw [z8 k h2];rfl
theorem mq (x:Int):Lw (lt x):=fun c h=>by
 obtain ⟨k,h1,h2⟩:=mJ x (n:=26) (by decide)
 have h1:x.fmod 26=(k:Int):=h1
 have e:c=97+(x.fmod 26).toNat:=aa h
 rw [e,h1]
 exact and_eq_true_iff.mpr ⟨ble_eq_true_of_le (le_add_right _ _),ble_eq_true_of_le (by lia)⟩
theorem mr (x:Int):(lt x).length=1:=rfl
def zA (f:Nat->Int):Str:=Txt.join (ofString "") [lt (f 0),lt (f 1),lt (f 2),lt (f 3),lt (f 4),lt (f 5)]
theorem wK (f:Nat->Int):zA f=lt (f 0)++ofString ""++(lt (f 1)++ofString ""++(lt (f 2)++ofString ""++(lt (f 3)++ofString ""++(lt (f 4)++ofString ""++lt (f 5))))):=by
 show Builtin.Str.glued _ _=_
 rw [StrLaws.glued_eq_join];rfl
theorem qd:(ofString "").length=0:=by decide+kernel
theorem kG:Lw (ofString ""):=fun c h=>by
 have e:(ofString "").cps.toList=[]:=by decide+kernel
 rw [e] at h;cases h
theorem tS (f:Nat->Int):(zA f).length=6:=by
 rw [wK];simp only [fL,mr,qd]
theorem wJ (f:Nat->Int):Lw (zA f):=by
 rw [wK]
 exact ((mq _).append kG).append (((mq _).append kG).append (((mq _).append kG).append (((mq _).append kG).append (((mq _).append kG).append (mq _)))))
theorem Ai (f:Nat->Int):uk (.str (ofString "")) (.lst [.str (lt (f 0)),.str (lt (f 1)),.str (lt (f 2)),.str (lt (f 3)),.str (lt (f 4)),.str (lt (f 5))])=some (.str (zA f)):=by
 have k:PyData.strOk (zA f)=true:=by
  have:=wJ f
  exact Array.all_eq_true_iff_forall_mem.mpr fun c hc=>decide_eq_true (lt_of_le_of_lt (lB (this c (Array.mem_toList_iff.mpr hc))).2 (by decide))
 show (bif JoinOk (ofString "") [lt (f 0),lt (f 1),lt (f 2),lt (f 3),lt (f 4),lt (f 5)]&&PyData.strOk (zA f)&&cq (zA f).length then some (T.str (zA f)) else none)=_
 rw [k,tS,show JoinOk (ofString "") [lt (f 0),lt (f 1),lt (f 2),lt (f 3),lt (f 4),lt (f 5)]=true from by kernel_rfl];rfl
theorem yD {x:Str}{lo hi:Option Int}:(fB lo hi x).length<=x.length:=by
 show ((x.cps.toList.drop _).take _).toArray.size<=x.cps.toList.length
 rw [size_toArray,length_take,length_drop];exact le_trans (Nat.min_le_right _ _) (sub_le _ _)
theorem yB {x:Str}(hx:x.length=6){k:Nat}(h:1<=k):1<=(fB none (some (k:Int)) x).length:=by
 show 1<=(Mine.cut none (some (k:Int)) x.cps.toList).toArray.size
 have:x.cps.toList.length=6:=hx
 rw [kI,size_toArray,length_take,this];lia
theorem AD {x:Str}{k:Nat}:(fB none (some (k:Int)) x).length<=k:=by
 show (Mine.cut none (some (k:Int)) x.cps.toList).toArray.size<=k
 rw [kI,size_toArray,length_take];exact min_le_left _ _
theorem qi {n b:Nat}(h:b<=n):clipAt n (b:Int)=b:=(nr n b).trans (Nat.min_eq_left h)
theorem yC {x:Str}(hx:x.length=6){a z:Nat}(h:a<=z)(hz:z<=6):(fB (some (a:Int)) (some (z:Int)) x).length<=z - a:=by
 have e:x.cps.toList.length=6:=hx
 show ((x.cps.toList.drop (clipAt x.cps.toList.length a)).take (clipAt x.cps.toList.length z - clipAt x.cps.toList.length a)).toArray.size<=_
 rw [e,qi hz,qi (le_trans h hz),size_toArray,length_take];exact min_le_left _ _
structure Nm (x:Str):Prop where
 m:Mk x
 ne:x≠ofString ""
theorem Nm.of {x:Str}(h1:x.length<=6)(h2:Lw x)(h3:1<=x.length):Nm x:=⟨⟨h1,h2⟩,fun e=>by rw [e,qd] at h3;cases h3⟩
structure Fg (x y z:Str):Prop where
 a:Nm x
 b:Nm y
 c:Nm z
noncomputable abbrev pJ (x y z:Str):T:=.lst [.str x,.str y,.str z]
section
variable {J:Sg}
theorem b7 (a:Int){k:Nat}(h:(bif ((k:Int)==0)||Nat.ble 1073741824 (k:Int).natAbs then false else true)=true):dO (.int a) (.int k)=some (.int (a.fdiv k)):=by
 unfold dO
 show (bif ((k:Int)==0)||Nat.ble 1073741824 (k:Int).natAbs then none else some (T.int (a.fdiv k)))=_
 cases e:((k:Int)==0)||Nat.ble 1073741824 (k:Int).natAbs with
 |true=>rw [e] at h;cases h
 |false=>rfl
theorem ig (a:Int){k:Nat}(h:0 < k):bS (.int a) (.int k)=some (.int (a.fmod k)):=by
 unfold bS
 show (bif ((k:Int)==0) then none else some (T.int (a.fmod k)))=_
 rw [beq_eq_false_iff_ne.mpr (by lia)];rfl
theorem fu (a:Int){n:Nat}(h:0 < n):∃k:Nat,bS (.int a) (.int n)=some (nT k)/\k < n:=by
 obtain ⟨k,h1,h2⟩:=mJ a h
 exact ⟨k,by rw [ig a h,h1],h2⟩
theorem add_int (a b:Int):bx (.int a) (.int b)=some (.int (a+b)):=by unfold bx;rfl
theorem pN {k:Nat}(a:Int)(h:sm k=true):iX (.int k) (.int a)=some (.int (k * a)):=by
 unfold iX
 show (bif sm k||sm a then some (T.int (k * a)) else none)=_
 rw [h];rfl
theorem wH (x:Str)(lo hi:Option Int):cg (.str x) lo hi=some (.str (fB lo hi x)):=by unfold cg;rfl
theorem yX {a b:Str}(h:a.length+b.length<=100):bx (.str a) (.str b)=some (.str (a++b)):=by
 unfold bx
 exact nA (by rw [fL];exact le_trans h (by decide))
theorem xu (cell:Int)(n:Nat):bu (fun t J'=>J'=J/\∃x y z,t=pJ x y z/\Fg x y z) (af Ψ (n+1) 19 [.int cell] J):=by
 let f:Nat->Int:=fun j=>cell.fdiv 7+5 * (j:Int)
 have hl:=tS f
 have hw:=wJ f
 refine o9 (aM (fO (n:=6) (by decide)) (f6 (e:=nT) (fun j=>.str (lt (f j))) (fun j _=>⟨_,rfl,fun k=>?_⟩) (aM (Ai f) ?_)))
 .exact az rfl (az rfl (az (b7 cell (k:=7) rfl) (az rfl (az (pN (k:=5) j rfl) (az (add_int _ _) (az (ig _ (k:=26) (by decide)) (az (xK _) rfl)))))))
 generalize zA f=rest at hl hw
 refine aM rfl (aM (ig cell (k:=3) (by decide)) (aM (fY _ _) ?_))
 have c6:∀{lo hi:Option Int},(fB lo hi rest).length<=6:=hl▸yD
 refine gq (fun _=>?_) fun _=>?_
 .obtain ⟨q,hq,q4⟩:=fu (cell.fdiv (3:Nat)) (n:=4) (by decide)
  have e:∀k:Nat,(1+(q:Int))+(k:Int)=((1+q+k:Nat):Int):=fun k=>by lia
  have nm:∀k:Nat,Nm (fB none (some ((1+q+k:Nat):Int)) rest):=fun k=>.of c6 hw.cut (yB hl (by lia))
  refine aM rfl (aM (b7 cell (k:=3) rfl) (aM hq (aM (add_int 1 _) (aM (fO (n:=3) (by decide)) (f6 (e:=nT) (fun k=>.str (fB none (some ((1+q+k:Nat):Int)) rest)) (fun k _=>⟨_,rfl,fun H=>?_⟩) (b8 ⟨rfl,_,_,_,rfl,nm 0,nm 1,nm 2⟩))))))
  rw [<-e]
  exact az rfl (az rfl (az rfl (az (add_int _ _) (az rfl (az (wH _ _ _) rfl)))))
 .obtain ⟨z,hz,z6⟩:=fu (cell.fdiv (3:Nat)) (n:=6) (by decide)
  obtain ⟨a,ha,a1⟩:=fu (cell.fdiv (18:Nat)) (n:=z+1) (succ_pos _)
  let y:Nat->Str:=fun k=>fB none (some (a:Int)) rest++lt (cell.fdiv 90+7 * (k:Int))++fB (some (a:Int)) (some (z:Int)) rest
  have l1:(fB none (some (a:Int)) rest).length<=a:=AD
  have l2:(fB (some (a:Int)) (some (z:Int)) rest).length<=z - a:=yC hl (by lia) (by lia)
  have nm:∀k,Nm (y k):=fun k=>.of (by rw [fL,fL,mr];lia) ((hw.cut.append (mq _)).append hw.cut) (by rw [fL,fL,mr];lia)
  refine aM rfl (aM (b7 cell (k:=3) rfl) (aM hz (aM rfl (aM (b7 cell (k:=18) rfl) (aM rfl (aM (add_int _ _) (aM ha ?_)))))))
  have turn:∀(k:Nat) (X:List T) (x7:Option T),X.length<=10->∀H:PK aY,ai (aI 7 (p2 aA (pV 1) (p2 bS (p2 bx (p2 dO (pV 0) (pC (.int 90))) (p2 iX (pC (.int 7)) (pV 6))) (pC (.int 26))))) (ai (jb 5 dC (p2 bx (p2 bx (p3 cg (pV 2) mi (p1 dA (pV 4))) (pV 7)) (p3 cg (pV 2) (p1 dA (pV 4)) (p1 dA (pV 3))))) am)
    ⟨af Ψ n⟩ [some (.int cell),some (.str sv),some (.str rest),some (nT z),some (nT a),some (.lst X),some (nT k),x7,none,none] J H=H [some (.int cell),some (.str sv),some (.str rest),some (nT z),some (nT a),some (.lst (X++[.str (y k)])),some (nT k),some (.str (lt (cell.fdiv 90+7 * (k:Int)))),none,none] J:=fun k X x7 hX H=>
   az rfl (az rfl (az (b7 cell (k:=90) rfl) (az rfl (az (pN (k:=7) k rfl) (az (add_int _ _) (az (ig _ (k:=26) (by decide)) (az (xK _) (az rfl (az rfl (az rfl (az (wH _ _ _) (az rfl (az (yX (by rw [mr];lia)) (az rfl (az rfl (az rfl (az rfl (az rfl (az (wH _ _ _) (az (yX (by rw [fL,mr];lia)) (az (tE (lt_of_le_of_lt hX (by decide))) rfl)))))))))))))))))))))
  refine CR rfl (aM (fO (n:=3) (by decide)) ?_)
  have t0:=turn 0 [] none (le_of_ble_eq_true rfl)
  have t1:=fun x7=>turn 1 [.str (y 0)] x7 (le_of_ble_eq_true rfl)
  have t2:=fun x7=>turn 2 [.str (y 0),.str (y 1)] x7 (le_of_ble_eq_true rfl)
  refine ⟨pJ (y 0) (y 1) (y 2),J,?_,rfl,_,_,_,rfl,nm 0,nm 1,nm 2⟩
  refine (t0 _).trans ((t1 _ _).trans ((t2 _ _).trans ?_))
  exact az rfl rfl
end
section
variable {ns:List Int} {J:Sg}
theorem o7 {k:Nat}(h:k < ns.length)(hn:ns.length<=63):aA (.scr ns) (nT k)=some (.int ns[k]):=by
 have:zi k (ns.map T.int)=some (.int ns[k]):=tC (getElem?_eq_getElem h) (le_trans (le_of_lt h) (le_trans hn (by decide)))
 unfold aA;exact this
theorem AK (hn:ns.length<=63)(k n:Nat):bu (fun t J'=>J'=J/\∃z,t=.int z) (af Ψ (n+1) 17 [.scr ns,nT k] J):=by
 refine l6 (aM rfl (aM rfl (aM rfl (aM rfl (gq (fun h=>?_) fun _=>b8 ⟨rfl,0,rfl⟩)))))
 have h:k < ns.length:=ofNat_lt.mp (of_decide_eq_true h)
 exact aM rfl (aM rfl (aM (o7 h hn) (b8 ⟨rfl,_,rfl⟩)))
theorem Eo (a:Int){k:Nat}(h:sm k=true):iX (.int a) (.int k)=some (.int (a * k)):=by
 unfold iX
 show (bif sm a||sm k then some (T.int (a * k)) else none)=_
 rw [h,Bool.or_true];rfl
theorem DO (j:Nat):dU (.int ((j:Int)+1)) (.int 1)=some (nT j):=by unfold dU;exact congrArg (fun z=>some (T.int z)) (Int.add_sub_cancel ..)
theorem lE (hn:ns.length<=63)(j n:Nat){se:Option (Nat×List T)}:bu (fun t J'=>J'=⟨((j+1:Nat):Int),se⟩/\∃z,t=.int z) (af Ψ (n+1) 18 [.scr ns,.spot] ⟨(j:Int),se⟩):=by
 refine qS (aM (add_int _ _) (aM (DO j) (aM rfl (aM rfl (aM rfl (aM rfl (gq (fun h=>?_) fun _=>?_)))))))
 .have h:j < ns.length:=ofNat_lt.mp (of_decide_eq_true h)
  exact aM rfl (aM rfl (aM (o7 h hn) (b8 ⟨rfl,_,rfl⟩)))
 .refine aM rfl (aM rfl (aM rfl (gq (fun h=>?_) fun _=>?_)))
  .have h:4 < ns.length:=by have:=of_decide_eq_true h;lia
   obtain ⟨k,hk,k1⟩:=fu (j:Int) (n:=ns.length) (lt_trans (by decide) h)
   refine aM rfl (aM rfl (gq (fun _=>?_) fun _=>?_))
   .exact EY (aM rfl (aM rfl (aM rfl (aM rfl (aM hk (aM (o7 k1 hn) (aM rfl (aM (pN (k:=7919) j rfl) (aM (add_int _ _) (aM (Eo _ (k:=48271) rfl) (aM (ig _ (k:=1000003) (by decide)) (b8 ⟨rfl,_,rfl⟩))))))))))))
   .exact b8 ⟨rfl,0,rfl⟩
  .exact b8 ⟨rfl,0,rfl⟩
end
section
variable {ns:List Int}
theorem Cm:Mk (ofString ""):=⟨by rw [qd];decide,kG⟩
theorem Fb {a b:List T}(h:(a++b).length<=lim):bx (.lst a) (.lst b)=some (.lst (a++b)):=by unfold bx;exact nA h
end
noncomputable def Be:List Str:=["not","and","or","next","till","always","again","till","always","next","not"].map ofString
theorem wD:o5 (.str (ofString "not and or next till always again till always next not")) (.str (ofString " "))=some (.lst (Be.map .str)):=by kernel_rfl
noncomputable abbrev Gy:T:=.tup [.str (ofString "not"),.str (ofString "next"),.str (ofString "always"),.str (ofString "again")]
structure Un (k:Str) (C:Sy->Sy):Prop where
 t:lr (.str k) Gy=some true
 to:∀a,aU (C a)=.tup [.str k,aU a]
 dep:∀a,dep (C a)=dep a+1
 all:∀a,all (C a)=C a::all a
 ne:∀a x,Sy.mark x≠C a
structure Bi (k:Str) (C:Sy->Sy->Sy):Prop where
 t:lr (.str k) Gy=some false
 to:∀a c,aU (C a c)=.tup [.str k,aU a,aU c]
 dep:∀a c,dep (C a c)=max (dep a) (dep c)+1
 all:∀a c,all (C a c)=C a c::(all a++all c)
 ne:∀a c x,Sy.mark x≠C a c
theorem wo:Un (ofString "not") .not:=⟨by kernel_rfl,fun _=>rfl,fun _=>rfl,fun _=>rfl,fun _ _ h=>nomatch h⟩
theorem tM:Un (ofString "next") .next:=⟨by kernel_rfl,fun _=>rfl,fun _=>rfl,fun _=>rfl,fun _ _ h=>nomatch h⟩
theorem oz:Un (ofString "always") .always:=⟨by kernel_rfl,fun _=>rfl,fun _=>rfl,fun _=>rfl,fun _ _ h=>nomatch h⟩
theorem wp:Un (ofString "again") .again:=⟨by kernel_rfl,fun _=>rfl,fun _=>rfl,fun _=>rfl,fun _ _ h=>nomatch h⟩
theorem C9:Bi (ofString "and") .and:=⟨by kernel_rfl,fun _ _=>rfl,fun _ _=>rfl,fun _ _=>rfl,fun _ _ _ h=>nomatch h⟩
theorem EZ:Bi (ofString "or") .or:=⟨by kernel_rfl,fun _ _=>rfl,fun _ _=>rfl,fun _ _=>rfl,fun _ _ _ h=>nomatch h⟩
theorem uE:Bi (ofString "till") .till:=⟨by kernel_rfl,fun _ _=>rfl,fun _ _=>rfl,fun _ _=>rfl,fun _ _ _ h=>nomatch h⟩
theorem Ah:∀i,i < 11->∃k,Be[i]?=some k/\((∃C,Un k C)\/∃C,Bi k C)
 | 0,_=>⟨_,rfl,.inl ⟨_,wo⟩⟩
 | 1,_=>⟨_,rfl,.inr ⟨_,C9⟩⟩
 | 2,_=>⟨_,rfl,.inr ⟨_,EZ⟩⟩
 | 3,_=>⟨_,rfl,.inl ⟨_,tM⟩⟩
 | 4,_=>⟨_,rfl,.inr ⟨_,uE⟩⟩
 | 5,_=>⟨_,rfl,.inl ⟨_,oz⟩⟩
 | 6,_=>⟨_,rfl,.inl ⟨_,wp⟩⟩
 | 7,_=>⟨_,rfl,.inr ⟨_,uE⟩⟩
 | 8,_=>⟨_,rfl,.inl ⟨_,oz⟩⟩
 | 9,_=>⟨_,rfl,.inl ⟨_,tM⟩⟩
 | 10,_=>⟨_,rfl,.inl ⟨_,wo⟩⟩
 |_+11,h=>absurd h (by lia)
theorem Un.gm {k:Str}{C:Sy->Sy}(U:Un k C){a:Sy}(h:Gm a):Gm (C a):=fun x hx=>by
 rw [U.all] at hx
 rcases an hx with e |hx
 .exact absurd e (U.ne a x)
 .exact h x hx
theorem Bi.gm {k:Str}{C:Sy->Sy->Sy}(U:Bi k C){a c:Sy}(h:Gm a)(h':Gm c):Gm (C a c):=fun x hx=>by
 rw [U.all] at hx
 rcases an hx with e |hx
 .exact absurd e (U.ne a c x)
 .exact (ag hx).elim (h x) (h' x)
section
variable {ns:List Int}
theorem lt_int (a b:Int):ue (.int a) (.int b)=some (decide (a < b)):=by unfold ue;rfl
theorem sub_int (a b:Int):dU (.int a) (.int b)=some (.int (a - b)):=by unfold dU;rfl
theorem zZ (hn:ns.length<=63){x y z:Str}(N:Fg x y z):∀(d j n:Nat),1<=d->d<=n->bu (fun t w'=>(∃j':Nat,w'=⟨(j':Int),none⟩)/\∃s,t=aU s/\dep s<=d/\Gm s) (af Ψ (n+1) 20 [.scr ns,.spot,pJ x y z,nT d] ⟨(j:Int),none⟩):=by
 intro d
 induction d with
 |zero=>intro j n h;cases h
 |succ d ih=>
  intro j n _ hd
  obtain ⟨n,rfl⟩:∃k,n=k+1:=⟨n - 1,by lia⟩
  refine qR (aM rfl (aM rfl (cR (lE hn j n) ?_)))
  rintro _ _ ⟨rfl,c,rfl⟩
  have leaf:∀{H:PK aY},bu (fun t w'=>(∃j':Nat,w'=⟨(j':Int),none⟩)/\∃s,t=aU s/\dep s<=d+1/\Gm s) (ai (bR (p2 cQ (p2 bS (pV 5) (pC (.int 9))) (pC (.int 4))) (ai (aF (aH (ae (pC (.str (ofString "yes"))) ak))) am) am) (ai (aF (aH (ae (pC (.str (ofString "mark"))) (ae (p2 aA (pV 2) (p2 bS (pV 5) (pC (.int 3)))) ak)))) am)
    ⟨af Ψ (n+1)⟩ [some (.scr ns),some .spot,some (pJ x y z),some (nT (d+1)),some (.int c),some (.int (c.fdiv (13:Nat))),none,none,none] ⟨((j+1:Nat):Int),none⟩ H):=fun {H}=>by
   refine aM rfl (aM (ig _ (k:=9) (by decide)) (aM (fY _ _) (gq (fun _=>?_) fun _=>?_)))
   .exact b8 ⟨⟨_,rfl⟩,.yes,rfl,succ_le_succ (zero_le _),fun x h=>by cases aa h⟩
   .obtain ⟨i,hi,i3⟩:=fu (c.fdiv (13:Nat)) (n:=3) (by decide)
    obtain ⟨s,hs,ms⟩:∃s,aA (pJ x y z) (nT i)=some (.str s)/\Nm s:=by
     rcases Nat.lt_succ_iff_lt_or_eq.mp i3 with h |rfl
     .rcases Nat.lt_succ_iff_lt_or_eq.mp h with h |rfl
      .cases lt_one_iff.mp h;exact ⟨x,dY (j:=0) rfl (by decide),N.a⟩
      .exact ⟨y,dY (j:=1) rfl (by decide),N.b⟩
     .exact ⟨z,dY (j:=2) rfl (by decide),N.c⟩
    exact aM rfl (aM rfl (aM hi (aM hs (b8 ⟨⟨_,rfl⟩,.mark s,rfl,succ_le_succ (zero_le _),fun x h=>by cases aa h;exact ⟨ms.m,ms.ne⟩⟩))))
  obtain ⟨i,hi,i13⟩:=fu c (n:=13) (by decide)
  refine aM rfl (aM (b7 c (k:=13) rfl) (aM rfl (aM (lt_int _ _) ?_)))
  by_cases h1:((d+1:Nat):Int) < 2
  .rw [decide_eq_true h1];exact leaf
  rw [decide_eq_false h1]
  refine rX (aM rfl (aM hi (aM (lt_int _ _) ?_)))
  by_cases h2:(i:Int) < 2
  .rw [decide_eq_true h2];exact leaf
  rw [decide_eq_false h2]
  obtain ⟨k,hk,kc⟩:=Ah (i - 2) (by lia)
  have e1:dU (nT i) (.int 2)=some (nT (i - 2)):=by rw [sub_int];exact congrArg (fun z=>some (T.int z)) (by lia)
  have e2:dU (nT (d+1)) (.int 1)=some (nT d):=by rw [sub_int];exact congrArg (fun z=>some (T.int z)) (by lia)
  refine rX (rX (aM rfl (aM wD (aM rfl (aM hi (aM e1 (aM (de (e:=T.str) hk (by rw [kq];lia)) (aM rfl (aM rfl (aM rfl (aM rfl (aM e2 (cR (ih (j+1) n (by lia) (by lia)) ?_)))))))))))))
  rintro _ _ ⟨⟨j',rfl⟩,a,rfl,da,ga⟩
  refine aM rfl (CR rfl ?_)
  rcases kc with ⟨C,U⟩ | ⟨C,U⟩
  .refine aM U.t (EY ?_)
   exact aM rfl (aM rfl (b8 ⟨⟨j',rfl⟩,C a,(U.to a).symm,by rw [U.dep];exact succ_le_succ da,U.gm ga⟩))
  .refine aM U.t (rX ?_)
   refine aM rfl (aM rfl (aM rfl (aM rfl (aM rfl (aM rfl (aM e2 (cR (ih j' n (by lia) (by lia)) ?_)))))))
   rintro _ _ ⟨⟨j'',rfl⟩,b,rfl,db,gb⟩
   exact b8 ⟨⟨j'',rfl⟩,C a b,(U.to a b).symm,by rw [U.dep];exact succ_le_succ (max_le.mpr ⟨da,db⟩),U.gm ga gb⟩
end
section
variable {J:Sg}
theorem AS:∀s:Sy,(all s).length+1<=2 ^ dep s:=by
 have two:∀(s a c:Sy),(all a).length+1<=2 ^ dep a->(all c).length+1<=2 ^ dep c->dep s=max (dep a) (dep c)+1->all s=s::(all a++all c)->(all s).length+1<=2 ^ dep s:=fun s a c ha hc e e2=>by
  have h1:=pow_le_pow_right (n:=2) (by decide) (le_max_left (dep a) (dep c))
  have h2:=pow_le_pow_right (n:=2) (by decide) (le_max_right (dep a) (dep c))
  rw [e,e2,pow_succ,length_cons,List.length_append];lia
 have one:∀(s a:Sy),(all a).length+1<=2 ^ dep a->dep s=dep a+1->all s=s::all a->(all s).length+1<=2 ^ dep s:=fun s a ha e e2=>by
  rw [e,e2,pow_succ,length_cons];lia
 intro s
 induction s with
 |mark |yes=>exact le_refl 2
 |not a ih |next a ih |always a ih |again a ih=>exact one _ a ih rfl rfl
 |and a c ih ih' |or a c ih ih' |till a c ih ih'=>exact two _ a c ih ih' rfl rfl
theorem yW {s:Sy}(h:dep s<=8):(all s).length<=256:=le_trans (le_succ _) (le_trans (AS s) (pow_le_pow_right (j:=8) (by decide) h))
abbrev Fc:PS:=ai (bR (qE (p1 (eF .tuple) (pV 2))) (ai (aI 1 (p2 bx (pV 1) (aw 21 (ae (pV 2) ak)))) am) am) am
theorem lS (s:Sy):∃ts,aU s=.tup ts:=by cases s<;>exact ⟨_,rfl⟩
theorem yV {c:jQ}{t:Option T}:∀(l:List Sy),(∀a∈l,(all a).length<=256/\c.call 21 [aU a] J=.ret (eT (all a)) J)->∀(F:List Sy) (x2:Option T) {k:PK aY} {r:du},F.length+l.length * 256<=10000->
  (∀x2,k [t,some (eT (l.foldl (fun f a=>f++all a) F)),x2] J=r)->dB (bz 2) Fc c (l.map aU) [t,some (eT F),x2] J k=r:=by
 intro l
 induction l with
 |nil=>intro _ F x2 k r _ hk;exact hk x2
 |cons a l ih=>
  intro hl F x2 k r h1 hk
  obtain ⟨h2,h3⟩:=hl a (.head _)
  rw [length_cons] at h1
  have e:=ih (fun b hb=>hl b (.tail _ hb)) (F++all a) (some (aU a)) (by rw [List.length_append];lia) hk
  obtain ⟨ts,et⟩:=lS a
  rw [map_cons,et]
  rw [et] at h3 e
  exact au h3 (mt (lO (by rw [kq];lia)) e)
theorem Dh (s:Sy):all s=(bT s).foldl (fun f a=>f++all a) [s]:=by cases s<;>rfl
theorem tF:∀(n:Nat) (s:Sy),dep s<=n->dep s<=8->af Ψ (n+1) 21 [aU s] J=.ret (eT (all s)) J:=by
 intro n
 induction n with
 |zero=>intro s h;exact absurd (eR s) (cU (lt_succ_of_le h))
 |succ n ih=>
  intro s h h8
  have pl:(bT s).length<=2:=by cases s<;>exact le_of_ble_eq_true rfl
  have L:=yV (J:=J) (c:=⟨af Ψ (n+1)⟩) (t:=some (aU s)) (bT s) (fun a ha=>⟨yW (le_trans (le_of_lt (dJ ha)) h8),ih a (le_of_lt_succ (lt_of_lt_of_le (dJ ha) h)) (le_trans (le_of_lt (dJ ha)) h8)⟩) [s] none (k:=fun V J=>ai (aF (pV 1)) am ⟨af Ψ (n+1)⟩ V J (kE 21)) (r:=.ret (eT (all s)) J) (by show 1+_<=_;lia) fun x2=>by rw [Dh s];rfl
  cases s with
  |mark x=>exact nK (mt (a:=.tup [.str x]) (by kernel_rfl) rfl)
  |_=>exact nK (mt (a:=.tup ((bT _).map aU)) (by kernel_rfl) (az rfl L))
end
section
variable {J:Sg}
abbrev xS:PS:=(ai (aI 3 (bo ak))
  (ai (bR (p2 lr (p2 aA (pV 2) (pC (.int 0))) (aH (ae (pC (.str (ofString "next"))) (ae (pC (.str (ofString "till"))) (ae (pC (.str (ofString "always"))) ak)))))
  (ai (aI 3 (bo (ae (pV 2) ak)))
  am)
  (ai (bR (p2 cQ (p2 aA (pV 2) (pC (.int 0))) (pC (.str (ofString "again"))))
  (ai (aI 3 (bo (ae (aH (ae (pC (.str (ofString "till"))) (ae (aH (ae (pC (.str (ofString "yes"))) ak)) (ae (p2 aA (pV 2) (pC (.int 1))) ak)))) (ae (aH (ae (pC (.str (ofString "always"))) (ae (aH (ae (pC (.str (ofString "till"))) (ae (aH (ae (pC (.str (ofString "yes"))) ak)) (ae (p2 aA (pV 2) (pC (.int 1))) ak)))) ak))) ak))))
  am)
  am)
  am))
  (ai (aI 1 (p2 bx (pV 1) (bv (bK (pV 3)) (bz 4) (p2 iz (pV 4) (pV 1)) (pV 4))))
  am)))
theorem Cy {c:jQ}{t2:Option T}{t0:Option T}{f xs:List Sy}(hf:∀x∈f,dep x<=40)(hx:∀x∈xs,dep x<=40)(hl:f.length+xs.length<=20000){k:PK aY}{r:du}(hk:k [t0,some (eT (ext f xs)),t2,some (eT xs),none] J=r):
  ai (aI 1 (p2 bx (pV 1) (bv (bK (pV 3)) (bz 4) (p2 iz (pV 4) (pV 1)) (pV 4)))) am c [t0,some (eT f),t2,some (eT xs),none] J k=r:=
 ng (i:=4) (fun _=>rfl) (fun _=>rfl) hf hx (mt (lO (e:=aU) (l:=f) (q:=xs.filter fun x=>!f.contains x) (pL f xs hl)) hk)
theorem Af {c:jQ}{t0 x3:Option T}{f:List Sy}{t:Sy}(hf:∀x∈f,dep x<=40)(ht:dep t<=30)(hl:f.length<=10000){k:PK aY}{r:du}(hk:k [t0,some (eT (ext f (bU t))),some (aU t),some (eT (bU t)),none] J=r):
  xS c [t0,some (eT f),some (aU t),x3,none] J k=r:=by
 have hx:∀x∈bU t,dep x<=40:=fun x hx=>le_trans (di (aS.mpr ⟨t,gy t,hx⟩)) (le_trans (succ_le_succ ht) (by decide))
 have ol:(bU t).length<=2:=by cases t<;>exact le_of_ble_eq_true rfl
 have E:=Cy (c:=c) (t0:=t0) (t2:=some (aU t)) hf hx (by lia) hk
 cases t<;>exact E
theorem Ag {c:jQ}{t0:Option T}:∀(l:List Sy),(∀a∈l,dep a<=30)->∀(f:List Sy) (x2 x3:Option T) {k:PK aY} {r:du},(∀x∈f,dep x<=40)->f.length+l.length * 2<=10000->
  (∀x2 x3,k [t0,some (eT (l.foldl (fun f t=>ext f (bU t)) f)),x2,x3,none] J=r)->dB (bz 2) xS c (l.map aU) [t0,some (eT f),x2,x3,none] J k=r:=by
 intro l
 induction l with
 |nil=>intro _ f x2 x3 k r _ _ hk;exact hk x2 x3
 |cons t l ih=>
  intro hl f x2 x3 k r hf h1 hk
  rw [length_cons] at h1
  have ht:=hl t (.head _)
  have ol:(bU t).length<=2:=by cases t<;>exact le_of_ble_eq_true rfl
  have el:=fX f (bU t)
  exact Af hf ht (by lia) (ih (fun a ha=>hl a (.tail _ ha)) _ _ _ (fun x hx=>(fW.mp hx).elim (hf x) fun q=>le_trans (di (aS.mpr ⟨t,gy t,q⟩)) (le_trans (succ_le_succ ht) (by decide))) (by lia) hk)
theorem Bb {n:Nat}{s:Sy}(h:dep s<=n)(h8:dep s<=8):af Ψ (n+2) 22 [aU s] J=.ret (eT (lb s)) J:=
 qm (au (tF n s h h8) (Ag (all s) (fun a ha=>le_trans (qq ha) (le_trans h8 (by decide))) [] none none (fun _ h=>nomatch h) (by have:=yW h8;rw [length_nil];lia) fun _ _=>rfl))
end
end
end Mine.L01
section
set_option maxRecDepth 10000
namespace Mine.L01
noncomputable section
open PySem Ltl
section
variable {J:Sg} {a c t:T} {x y z:Str}
theorem jd (t:T)(n:Nat):af Ψ (n+1) 4 [t,.int (0:Nat)] J=.ret (.bool false) J:=cT (by kernel_rfl)
theorem AA (s:Sy)(d:Nat):(bT s).all (fun p=>decide (dep p<=d))=decide (dep s<=d+1):=by
 have one:∀a:Sy,[a].all (fun p=>decide (dep p<=d))=decide (dep a+1<=d+1):=fun a=>(Bool.and_true _).trans (decide_eq_decide.mpr Nat.succ_le_succ_iff.symm)
 have two:∀a c:Sy,[a,c].all (fun p=>decide (dep p<=d))=decide (max (dep a) (dep c)+1<=d+1):=fun a c=>by
  show (decide (dep a<=d)&&(decide (dep c<=d)&&true))=_
  rw [Bool.and_true,<-Bool.decide_and]
  exact decide_eq_decide.mpr (max_le.symm.trans Nat.succ_le_succ_iff.symm)
 cases s with
 |mark |yes=>exact (decide_eq_true (succ_le_succ (zero_le _))).symm
 |not a |next a |always a |again a=>exact one a
 |and a c |or a c |till a c=>exact two a c
theorem qH (d:Nat):(((d+1:Nat):Int) - 1)=(d:Int):=show ((d:Int)+1) - 1=(d:Int) from Int.add_sub_cancel ..
theorem lQ:∀(n d:Nat) (s:Sy),d<=n->Gm s->af Ψ (n+2) 4 [aU s,.int d] J=.ret (.bool (decide (dep s<=d))) J:=by
 have z:∀(n:Nat) (s:Sy),af Ψ (n+2) 4 [aU s,.int (0:Nat)] J=.ret (.bool (decide (dep s<=0))) J:=fun n s=>by rw [decide_eq_false (cU (eR s))];exact jd _ _
 intro n
 induction n with
 |zero=>intro d s h;cases Nat.le_zero.mp h;exact fun _=>z 0 s
 |succ n ih=>
  rintro (_ |d) s h hg
  .exact z _ s
  refine cT (au (uv hg n) (au (mc s _) ?_))
  refine dg (e:=aU) (fun p=>.bool (decide (dep p<=d))) (fun p hp=>⟨_,rfl,fun k=>?_⟩) ?_
  .refine au (t:=.bool (decide (dep p<=d))) (J:=J) ?_ rfl
   rw [qH];exact ih d p (le_of_succ_le_succ h) fun x hx=>hg x (jO hp hx)
  .exact az (all_map (bT s) fun p=>decide (dep p<=d)) (by rw [AA])
def Dc (t:T):Prop:=∀(n d:Nat) (J:Sg),d<=n->∃b,af Ψ (n+4) 4 [t,.int d] J=.ret (.bool b) J
def oY (t:T):Prop:=∀(n d:Nat) (J:Sg),d<=n->af Ψ (n+4) 4 [t,.int d] J=.ret (.bool false) J
theorem oY.dc (h:oY t):Dc t:=fun n d J hd=>⟨false,h n d J hd⟩
theorem Br {s:Sy}(h:Gm s):Dc (aU s):=fun n d J hd=>⟨_,lQ (n+2) d s (Nat.le_add_right_of_le hd) h⟩
theorem xo (h:∀(n:Nat) (J:Sg),af Ψ (n+2) 3 [t] J=.ret (.bool false) J):oY t:=fun n d J hd=>by
 cases d with
 |zero=>exact jd t _
 |succ d=>exact cT (au (h (n+1) J) rfl)
inductive K1:Str->Prop
 |not:K1 (ofString "not")
 |next:K1 (ofString "next")
 |always:K1 (ofString "always")
 |again:K1 (ofString "again")
inductive K2:Str->Prop
 |and:K2 (ofString "and")
 |or:K2 (ofString "or")
 |till:K2 (ofString "till")
theorem K1.form {k:Str}(h:K1 k)(a:T)(n:Nat):af Ψ (n+1) 3 [.tup [.str k,a]] J=.ret (.bool true) J/\af Ψ (n+1) 2 [.tup [.str k,a]] J=.ret (.lst [a]) J:=by cases h<;>exact ⟨eK (by kernel_rfl),i0 (by kernel_rfl)⟩
theorem K2.form {k:Str}(h:K2 k)(a c:T)(n:Nat):af Ψ (n+1) 3 [.tup [.str k,a,c]] J=.ret (.bool true) J/\af Ψ (n+1) 2 [.tup [.str k,a,c]] J=.ret (.lst [a,c]) J:=by cases h<;>exact ⟨eK (by kernel_rfl),i0 (by kernel_rfl)⟩
abbrev wE:PE:=aw 4 (ae (pV 2) (ae (p2 dU (pV 1) (pC (.int 1))) ak))
theorem wi {n d:Nat}{b:Bool}{t0:Option T}(h:af Ψ n 4 [a,.int d] J=.ret (.bool b) J)(k:PK T):wE ⟨af Ψ n⟩ [t0,some (.int ((d+1:Nat):Int)),some a] J k=k (.bool b) J:=
 au (t:=.bool b) (J:=J) (by rw [qH];exact h) rfl
theorem xq {k:Str}(hk:K1 k)(h:oY a):oY (.tup [.str k,a]):=fun n d J hd=>by
 cases d with
 |zero=>exact jd _ _
 |succ d=>
  obtain ⟨n,rfl⟩:∃m,n=m+1:=⟨n - 1,(Nat.sub_add_cancel (le_trans (succ_le_succ (zero_le d)) hd)).symm⟩
  refine cT (au (hk.form a _).1 (au (hk.form a _).2 ?_))
  refine dg (e:=id) (l:=[a]) (fun _=>.bool false) (fun p hp=>⟨_,rfl,fun k=>?_⟩) rfl
  cases aa hp
  exact wi (h n d J (le_of_succ_le_succ hd)) k
theorem C0 {elt:PE}{cx:jQ}{V:aY}{i:Nat}{u v:T}{k:PK (List T)}(h1:∀k,elt cx (V.set i (some a)) J k=k u J)(h2:∀k,elt cx (V.set i (some c)) J k=k v J):bO (bz i) bB elt cx V [a,c] J [] k=k [u,v] J:=by
 rw [lJ]
 show elt cx (V.set i (some a)) J _=_
 rw [h1,lJ]
 show elt cx (V.set i (some c)) J _=_
 rw [h2,qh];rfl
theorem xp {k:Str}(hk:K2 k)(h1:Dc a)(h2:Dc c)(h:oY a\/oY c):oY (.tup [.str k,a,c]):=fun n d J hd=>by
 cases d with
 |zero=>exact jd _ _
 |succ d=>
  obtain ⟨n,rfl⟩:∃m,n=m+1:=⟨n - 1,(Nat.sub_add_cancel (le_trans (succ_le_succ (zero_le d)) hd)).symm⟩
  have hd:=le_of_succ_le_succ hd
  obtain ⟨b,hb⟩:=h1 n d J hd
  obtain ⟨e,he⟩:=h2 n d J hd
  have hf:(b&&e)=false:=by
   rcases h with h |h
   .have:=(h n d J hd).symm.trans hb
    cases this;rfl
   .have:=(h n d J hd).symm.trans he
    cases this;exact Bool.and_false b
  refine cT (au (hk.form a c _).1 (au (hk.form a c _).2 ((C0 (wi hb) (wi he)).trans ?_)))
  cases b<;>cases e<;>first |rfl |cases hf
theorem Ek:Txt.contains sv ⟨#[32]⟩=false:=by decide+kernel
theorem zX (h:Mk x)(n:Nat):af Ψ (n+1) 1 [.str (x++ofString " ")] J=.ret (.bool false) J:=by
 refine oV ?_
 have cp:(x++ofString " ").cps.toList=x.cps.toList++[32]:=by
  show (x.cps++(ofString " ").cps).toList=_
  rw [Array.toList_append];rfl
 have e2:(x++ofString " ").cps.all (· < 128)=true:=Array.all_eq_true_iff_forall_mem.mpr fun c hc=>by
  have hc:=Array.mem_toList_iff.mpr hc
  rw [cp] at hc
  refine decide_eq_true ((ag hc).elim (fun q=>?_) fun q=>by rw [aa q];decide)
  have:=lB (h.lw c q);lia -abstractProof
 show (bif decide (((x++ofString " ").length:Int) > 6) then du.ret (.bool false) J else up (bif (x++ofString " ").cps.all (· < 128) then some ((x++ofString " ").cps.toList.map fun c=>T.str ⟨#[c]⟩) else none) J fun xs J=>bO (bz 1) bB (pB (p2 Ew (pV 1) (pC (.str sv)))) ⟨af Ψ n⟩ [some (.str (x++ofString " ")),none] xs J [] fun ys J=>up (iH (.lst ys)) J fun v J=>.ret v J)=_
 rw [e2,cp]
 cases decide (((x++ofString " ").length:Int) > 6) with
 |true=>rfl
 |false=>
  show bO _ _ _ _ _ ((x.cps.toList++[32]).map fun c=>T.str ⟨#[c]⟩) J [] _=_
  refine dg (fun c=>.bool (Txt.contains sv ⟨#[c]⟩)) (fun c hc=>⟨_,rfl,fun k=>rfl⟩) ?_
  refine az (all_map _ fun c=>Txt.contains sv ⟨#[c]⟩) ?_
  rw [List.all_append,show [32].all (fun c=>Txt.contains sv ⟨#[c]⟩)=false from (Bool.and_true _).trans Ek,Bool.and_false]
end
end
end Mine.L01
end
section
set_option maxRecDepth 10000
namespace Mine.L01
noncomputable section
open PySem Ltl
section
variable {J:Sg} {a c t o:T} {x y z w:Str} {n:Nat} {t0 x4:Option T} {m:Int} {ms:List T} {H:PK aY} {r:du}
@[reducible] def Ec:PS:=ai (bR (lh (qE (p1 (eF .tuple) (pV 4))) (lh (p2 DE (pV 1) (pC (.int 0))) bB)) (ai (qy [4,1] (aw 67 (ae (pV 4) (ae (pV 1) (ae (pV 2) ak))))) am) am) (ai (jb 3 dC (pV 4)) am)
theorem yT {v:T}(h:Nat.ble ms.length 10=true):dC (.lst ms) v=some (.lst (ms++[v])):=nA (le_trans (succ_le_succ (le_of_ble_eq_true h)) (by decide))
theorem j6 (h:Nat.ble ms.length 10=true)(hk:H [t0,some (.int m),some o,some (.lst (ms++[.str w])),some (.str w)] J=r):Ec ⟨af Ψ n⟩ [t0,some (.int m),some o,some (.lst ms),some (.str w)] J H=r:=
 (show _=up (dC (.lst ms) (.str w)) J fun y J=>H [t0,some (.int m),some o,some y,some (.str w)] J by kernel_rfl).trans (az (yT h) hk)
theorem zN {ts:List T}(h:Nat.ble ms.length 10=true)(hk:H [t0,some (.int (-1)),some o,some (.lst (ms++[.tup ts])),some (.tup ts)] J=r):Ec ⟨af Ψ n⟩ [t0,some (.int (-1)),some o,some (.lst ms),some (.tup ts)] J H=r:=
 (show _=up (dC (.lst ms) (.tup ts)) J fun y J=>H [t0,some (.int (-1)),some o,some y,some (.tup ts)] J by kernel_rfl).trans (az (yT h) hk)
theorem Gc (j:Nat):DE (.int (j:Int)) (.int 0)=some true:=congrArg some (decide_eq_true (natCast_nonneg j))
theorem pk {ts:List T}{j:Nat}{t':T}(h:Nat.ble ms.length 10=true)(hc:af Ψ n 67 [.tup ts,.int (j:Int),o] J=.ret (.tup [t',.int m]) J)(hk:H [t0,some (.int m),some o,some (.lst (ms++[t'])),some t'] J=r):Ec ⟨af Ψ n⟩ [t0,some (.int (j:Int)),some o,some (.lst ms),some (.tup ts)] J H=r:=
 (show _=up (DE (.int (j:Int)) (.int 0)) J fun b J=>bif b then f8 (af Ψ n 67 [.tup ts,.int (j:Int),o] J) (fun v J=>up (o1 (lN v) fun us=>c5 [4,1] us [t0,some (.int (j:Int)),some o,some (.lst ms),some (.tup ts)]) J fun V J=>jb 3 dC (pV 4) ⟨af Ψ n⟩ V J H) else jb 3 dC (pV 4) ⟨af Ψ n⟩ [t0,some (.int (j:Int)),some o,some (.lst ms),some (.tup ts)] J H by kernel_rfl).trans
  (az (Gc j) (au hc ((show _=up (dC (.lst ms) t') J fun y J=>H [t0,some (.int m),some o,some y,some t'] J by kernel_rfl).trans (az (yT h) hk))))
def lz (n:Nat)(J:Sg)(o t:T)(len:Nat):Prop:=∀at':Nat,∃t' m,af Ψ n 67 [t,.int at',o] J=.ret (.tup [t',.int m]) J/\((at' < len/\m=-1/\oY t')\/((∃j:Nat,at'=len+j/\m=j)/\t'=t))
theorem BU (k:Nat):dU (.int ((k+1:Nat):Int)) (.int 1)=some (.int k):=by rw [sub_int,qH]
theorem EB (k:Nat):cQ (.int ((k+1:Nat):Int)) (.int 0)=some false:=by rw [fY];exact congrArg some (decide_eq_false fun q=>by cases q)
theorem l9 {ts:List T}{k:Nat}{v:T}(h:dB (bz 4) Ec ⟨af Ψ n⟩ ts [some (.tup ts),some (.int k),some o,some (.lst []),none] J (fun V J=>ai (aF (aH (ae (p1 j2 (pV 3)) (ae (pV 1) ak)))) am ⟨af Ψ n⟩ V J (kE 67))=.ret v J):af Ψ (n+1) 67 [.tup ts,.int ((k+1:Nat):Int),o] J=.ret v J:=
 nJ ((show _=up (cQ (.int ((k+1:Nat):Int)) (.int 0)) J fun q J=>bif q then .ret (.tup [o,.int (-1)]) J else up (dU (.int ((k+1:Nat):Int)) (.int 1)) J fun v J=>dB (bz 4) Ec ⟨af Ψ n⟩ ts [some (.tup ts),some v,some o,some (.lst []),none] J (fun V J=>ai (aF (aH (ae (p1 j2 (pV 3)) (ae (pV 1) ak)))) am ⟨af Ψ n⟩ V J (kE 67)) by kernel_rfl).trans (az (EB k) (rW rfl (az (BU k) h))))
theorem tX (ho:oY o):∃t' m,af Ψ (n+1) 67 [t,.int ((0:Nat):Int),o] J=.ret (.tup [t',.int m]) J/\m=-1/\oY t':=⟨o,-1,nJ (by kernel_rfl),rfl,ho⟩
theorem Cr {k l:Nat}(h:k < l):k+1 < l+1:=Nat.succ_lt_succ h
theorem Ea {k:Str}{ts:List T}{l:Nat}(ho:oY o)(hk:K1 k)(h:lz n J o (.tup ts) l):lz (n+1) J o (.tup [.str k,.tup ts]) (l+1):=fun at'=>by
 cases at' with
 |zero=>obtain ⟨t',m,h1,h2,h3⟩:=tX (n:=n) (J:=J) (t:=.tup [.str k,.tup ts]) ho;exact ⟨t',m,h1,.inl ⟨succ_pos _,h2,h3⟩⟩
 |succ j=>
  obtain ⟨t',m,h1,h2⟩:=h j
  refine ⟨.tup [.str k,t'],m,l9 (j6 (ms:=[]) rfl (pk (ms:=[.str k]) rfl h1 rfl)),?_⟩
  rcases h2 with ⟨h2,h3,h4⟩ | ⟨⟨i,h2,h3⟩,h4⟩
  .exact .inl ⟨Cr h2,h3,xq hk h4⟩
  .exact .inr ⟨⟨i,by rw [h2,Nat.add_right_comm],h3⟩,by rw [h4]⟩
theorem D0 {k:Str}{ts us:List T}{l l':Nat}(ho:oY o)(hk:K2 k)(d1:Dc (.tup ts))(d2:Dc (.tup us))(h:lz n J o (.tup ts) l)(h':lz n J o (.tup us) l'):lz (n+1) J o (.tup [.str k,.tup ts,.tup us]) (l+l'+1):=fun at'=>by
 cases at' with
 |zero=>obtain ⟨t',m,h1,h2,h3⟩:=tX (n:=n) (J:=J) (t:=.tup [.str k,.tup ts,.tup us]) ho;exact ⟨t',m,h1,.inl ⟨succ_pos _,h2,h3⟩⟩
 |succ j=>
  obtain ⟨t',m,h1,h2⟩:=h j
  rcases h2 with ⟨h2,rfl,h4⟩ | ⟨⟨i,h2,rfl⟩,rfl⟩
  .exact ⟨.tup [.str k,t',.tup us],-1,l9 (j6 (ms:=[]) rfl (pk (ms:=[.str k]) rfl h1 (zN (ms:=[.str k,t']) rfl rfl))),.inl ⟨Cr (lt_of_lt_of_le h2 (le_add_right _ _)),rfl,xp hk h4.dc d2 (.inl h4)⟩⟩
  .obtain ⟨t2,m2,h5,h6⟩:=h' i
   refine ⟨.tup [.str k,.tup ts,t2],m2,l9 (j6 (ms:=[]) rfl (pk (ms:=[.str k]) rfl h1 (pk (ms:=[.str k,.tup ts]) rfl h5 rfl))),?_⟩
   rcases h6 with ⟨h6,h7,h8⟩ | ⟨⟨i',h6,h7⟩,h8⟩
   .exact .inl ⟨Cr (h2▸Nat.add_lt_add_left h6 l),h7,xp hk d1 h8.dc (.inr h8)⟩
   .exact .inr ⟨⟨i',by rw [h2,h6,Nat.add_right_comm _ 1,<-add_assoc],h7⟩,by rw [h8]⟩
theorem Cc (ho:oY o):∀(n:Nat) (s:Sy),dep s<=n->Gm s->lz (n+1) J o (aU s) (all s).length:=by
 intro n
 induction n with
 |zero=>intro s h;exact absurd (eR s) (cU (lt_succ_of_le h))
 |succ n ih=>
  intro s h hg
  have ip:∀p∈bT s,lz (n+1) J o (aU p) (all p).length/\Dc (aU p):=fun p hp=>have g:Gm p:=fun x hx=>hg x (jO hp hx);⟨ih p (le_of_lt_succ (lt_of_lt_of_le (dJ hp) h)) g,Br g⟩
  have one:∀{k:Str} {a:Sy},K1 k->(lz (n+1) J o (aU a) (all a).length/\Dc (aU a))->lz (n+2) J o (.tup [.str k,aU a]) ((all a).length+1):=fun {k a} hk h=>by
   obtain ⟨ts,e⟩:=lS a
   rw [e] at h ⊢;exact Ea ho hk h.1
  have two:∀{k:Str} {a c:Sy},K2 k->(lz (n+1) J o (aU a) (all a).length/\Dc (aU a))->(lz (n+1) J o (aU c) (all c).length/\Dc (aU c))->lz (n+2) J o (.tup [.str k,aU a,aU c]) ((all a++all c).length+1):=fun {k a c} hk h h'=>by
   obtain ⟨ts,e⟩:=lS a
   obtain ⟨us,e'⟩:=lS c
   rw [List.length_append]
   rw [e] at h ⊢;rw [e'] at h' ⊢;exact D0 ho hk h.2 h'.2 h.1 h'.1
  cases s with
  |mark x=>
   intro at'
   cases at' with
   |zero=>obtain ⟨t',m,h1,h2,h3⟩:=tX (n:=n+1) (J:=J) (t:=aU (.mark x)) ho;exact ⟨t',m,h1,.inl ⟨succ_pos _,h2,h3⟩⟩
   |succ j=>exact ⟨_,j,l9 (j6 (ms:=[]) rfl (j6 (ms:=[.str (ofString "mark")]) rfl rfl)),.inr ⟨⟨j,add_comm _ _,rfl⟩,rfl⟩⟩
  |yes=>
   intro at'
   cases at' with
   |zero=>obtain ⟨t',m,h1,h2,h3⟩:=tX (n:=n+1) (J:=J) (t:=aU .yes) ho;exact ⟨t',m,h1,.inl ⟨succ_pos _,h2,h3⟩⟩
   |succ j=>exact ⟨_,j,l9 (j6 (ms:=[]) rfl rfl),.inr ⟨⟨j,add_comm _ _,rfl⟩,rfl⟩⟩
  |not a=>exact one .not (ip a (.head _))
  |next a=>exact one .next (ip a (.head _))
  |always a=>exact one .always (ip a (.head _))
  |again a=>exact one .again (ip a (.head _))
  |and a c=>exact two .and (ip a (.head _)) (ip c (.tail _ (.head _)))
  |or a c=>exact two .or (ip a (.head _)) (ip c (.tail _ (.head _)))
  |till a c=>exact two .till (ip a (.head _)) (ip c (.tail _ (.head _)))
end
end
end Mine.L01
end
section
set_option maxRecDepth 10000
namespace Mine.L01
noncomputable section
open PySem Ltl
section
variable {J:Sg} {x y z:Str} {n:Nat}
noncomputable abbrev st' (s:String):T:=.str (ofString s)
def yO (x y:Str)(v:T):List T:=
 [.tup [st' "mark",st' ""],.tup [st' "mark",st' "A"],.tup [st' "mark",st' "abcdefg"],.tup [st' "mark",.int 5],.tup [st' "mark"],.tup [st' "mark",.str x,.str y],
 .tup [st' "yes",.int 1],.tup [st' "no"],.tup [st' "not"],.tup [st' "not",aU (.mark x),aU (.mark x)],.tup [st' "and",aU (.mark x)],.tup [st' "or",aU (.mark x),aU (.mark x),aU (.mark x)],
 .tup [st' "next",.str x],.lst [],.tup [st' "till",aU (.mark x),.none],.tup [st' "always",.lst [aU (.mark x)]],.tup [st' "again",aU (.mark x),aU (.mark x)],.none,
 st' "yes",.tup [],.tup [st' "mark",v],.int 7,.tup [.lst [st' "yes"]],.dct [] [],.tup [st' "mark",aU (.mark x)],.tup [st' "until",aU (.mark x),aU (.mark x)]]
theorem fc {α:Type}{p:α->Prop}{a:α}{l:List α}(h:p a)(hl:∀r∈l,p r):∀r∈a::l,p r:=eM ⟨h,hl⟩
theorem pW (h:Nm x):Gm (.mark x):=fun y hy=>by cases aa hy;exact ⟨h.m,h.ne⟩
theorem AM (h:Nm x):∀t∈yO x y (.str (x++ofString " ")),oY t:=
 have q {t:T} (h:∀(n:Nat) (J:Sg),fQ ⟨af Ψ (n+1)⟩ [some t] J (kE 3)=.ret (.bool false) J):oY t:=xo fun n J=>eK (h n J)
 have g:Dc (aU (.mark x)):=Br (pW h)
 fc (q fun n J=>by kernel_rfl) (fc (q fun n J=>by kernel_rfl) (fc (q fun n J=>by kernel_rfl) (fc (q fun n J=>by kernel_rfl) (fc (q fun n J=>by kernel_rfl) (fc (q fun n J=>by kernel_rfl)
 (fc (q fun n J=>by kernel_rfl) (fc (q fun n J=>by kernel_rfl) (fc (q fun n J=>by kernel_rfl) (fc (q fun n J=>by kernel_rfl) (fc (q fun n J=>by kernel_rfl) (fc (q fun n J=>by kernel_rfl)
 (fc (xq .next (q fun n J=>by kernel_rfl)) (fc (q fun n J=>by kernel_rfl) (fc (xp .till g (oY.dc (q fun n J=>by kernel_rfl)) (.inr (q fun n J=>by kernel_rfl))) (fc (xq .always (q fun n J=>by kernel_rfl)) (fc (q fun n J=>by kernel_rfl) (fc (q fun n J=>by kernel_rfl)
 (fc (q fun n J=>by kernel_rfl) (fc (q fun n J=>by kernel_rfl) (fc (q fun n J=>au (zX h.m n) rfl) (fc (q fun n J=>by kernel_rfl) (fc (q fun n J=>by kernel_rfl) (fc (q fun n J=>by kernel_rfl) (fc (q fun n J=>by kernel_rfl) (fc (q fun n J=>by kernel_rfl) fun _ h=>nomatch h)))))))))))))))))))))))))
theorem Em {cl:Int}:cz ⟨af Ψ n⟩ [some (.int cl),some (pJ x y z),none,none] J (kE 68)=up (bx (.str x) (st' " ")) J fun v J=>up (bS (.int cl) (.int 26)) J fun i J=>up (aA (.lst (yO x y v)) i) J fun r J=>.ret r J:=by kernel_rfl
theorem El (N:Fg x y z)(cl:Int)(n:Nat):bu (fun t J'=>J'=J/\oY t) (af Ψ (n+1) 68 [.int cl,pJ x y z] J):=by
 refine j5 ?_
 rw [Em]
 obtain ⟨k,hk,k26⟩:=fu cl (n:=26) (by decide)
 obtain ⟨t,ht⟩:∃t,(yO x y (.str (x++ofString " ")))[k]?=some t:=⟨_,getElem?_eq_getElem (show k < 26 from k26)⟩
 have xl:=N.a.m.len
 refine aM (yX (le_trans (add_le_add_right xl _) (by decide))) (aM hk (aM (dY ht (le_trans (le_of_lt k26) (by decide))) (b8 ⟨rfl,AM N.a t (mem_of_getElem? ht)⟩)))
theorem Er (s:Sy):vg (.lst ((bT s).map (fun p=>.int (dep p))++[.int 0]))=some (.int ((dep s:Int) - 1)):=by
 have e:∀a:Nat,max (a:Int) 0=a:=fun a=>Int.max_eq_left (natCast_nonneg a)
 cases s with
 |mark |yes=>kernel_rfl
 |not a |next a |always a |again a=>exact congrArg (fun i=>some (T.int i)) ((e _).trans (qH _).symm)
 |and a c |or a c |till a c=>
  refine congrArg (fun i=>some (T.int i)) ?_
  show max ((dep a:Nat):Int) (max (dep c:Int) 0)=((max (dep a) (dep c)+1:Nat):Int) - 1
  rw [e,qH]
  rcases Nat.le_total (dep a) (dep c) with q |q
  .rw [Nat.max_eq_right q,max_eq_right (bE q)]
  .rw [Nat.max_eq_left q,Int.max_eq_left (bE q)]
abbrev dE:PE:=aw 69 (ae (pV 1) ak)
@[reducible] def dK:PK (List T):=fun ys J=>up (bx (.lst ys) (.lst [.int 0])) J fun v J=>up (vg v) J fun v J=>up (bx (.int 1) v) J fun v J=>.ret v J
theorem AB:∀(n:Nat) (s:Sy),dep s<=n->af Ψ (n+1) 69 [aU s] J=.ret (.int (dep s)) J:=by
 intro n
 induction n with
 |zero=>intro s h;exact absurd (eR s) (cU (lt_succ_of_le h))
 |succ n ih=>
  intro s h
  have pl:(bT s).length<=2:=by cases s<;>exact le_of_ble_eq_true rfl
  have L:bO (bz 1) (qE (p1 (eF .tuple) (pV 1))) dE ⟨af Ψ (n+1)⟩ [some (aU s),none] ((bT s).map aU) J [] dK=.ret (.int (dep s)) J:=by
   refine fC (fun _=>true) (fun p=>.int (dep p)) (fun p hp=>⟨_,rfl,fun k=>?_,fun _ k=>au (ih p (le_of_lt_succ (lt_of_lt_of_le (dJ hp) h))) rfl⟩) ?_
   .obtain ⟨ts,e⟩:=lS p
    rw [e];rfl
   .rw [List.filter_eq_self.mpr fun _ _=>rfl]
    refine az (Fb (by rw [List.length_append,nil_append,length_map];exact le_trans (add_le_add_right pl _) (by decide))) (az (Er s) (az (add_int _ _) ?_))
    rw [Int.add_comm,Int.sub_add_cancel]
  cases s with
  |mark x=>exact gZ (by kernel_rfl)
  |yes=>exact gZ (by kernel_rfl)
  |_=>exact gZ (Eq.trans (by kernel_rfl) L)
end
end
end Mine.L01
end
section
set_option maxRecDepth 10000
namespace Mine.L01
noncomputable section
open PySem Ltl
section
variable {ns:List Int} {J:Sg} {x y z:Str} {n j:Nat}
def Dm (d:Nat)(t:T):Prop:=∃s,t=aU s/\dep s<=d/\Gm s
theorem CN {s a:Sy}(h:Gm a)(e:all s=s::all a)(hs:∀x,s≠.mark x):Gm s:=fun x hx=>by
 rw [e] at hx
 exact (an hx).elim (fun q=>(hs x q.symm).elim) (h x)
theorem Ex {s a c:Sy}(h:Gm a)(h':Gm c)(e:all s=s::(all a++all c))(hs:∀x,s≠.mark x):Gm s:=fun x hx=>by
 rw [e] at hx
 exact (an hx).elim (fun q=>(hs x q.symm).elim) fun q=>(ag q).elim (h x) (h' x)
@[reducible] def Hd:PS:=ai (aI 5 (aw 18 (ae (pV 0) (ae (pV 1) ak)))) (ai (aI 3 (p2 aA (bo (ae (aH (ae (pC (.str (ofString "next"))) (ae (pV 3) ak))) (ae (aH (ae (pC (.str (ofString "again"))) (ae (pV 3) ak))) (ae (aH (ae (pC (.str (ofString "till"))) (ae (pV 3) (ae (aH (ae (pC (.str (ofString "mark"))) (ae (p2 aA (pV 2) (pC (.int 1))) ak))) ak)))) ak)))) (p2 bS (pV 5) (pC (.int 3))))) am)
inductive MI (ns:List Int) (x y z:Str):List Nat->aY->Sg->Prop
 |mk (l:List Nat) (s:Sy) (x4 x5:Option T) (j:Nat) (d:dep s<=1+l.length) (g:Gm s):MI ns x y z l [some (.scr ns),some .spot,some (pJ x y z),some (aU s),x4,x5] ⟨(j:Int),none⟩
theorem zY (hn:ns.length<=63)(N:Fg x y z)(j n:Nat):bu (fun t J'=>(∃j':Nat,J'=⟨(j':Int),none⟩)/\Dm 5 t) (af Ψ (n+2) 71 [.scr ns,.spot,pJ x y z] ⟨(j:Int),none⟩):=by
 refine qQ ?_
 refine (show bu _ (f8 (af Ψ (n+1) 18 [.scr ns,.spot] ⟨(j:Int),none⟩) fun v J=>up (bS v (.int 5)) J fun v J=>up (zd [v]) J fun xs J=>dB (bz 4) Hd ⟨af Ψ (n+1)⟩ xs [some (.scr ns),some .spot,some (pJ x y z),some (aU (.mark x)),none,none] J fun V J=>ai (aF (pV 3)) am ⟨af Ψ (n+1)⟩ V J (kE 71)) from ?_)
 refine cR (lE hn j n) ?_
 rintro _ _ ⟨rfl,c,rfl⟩
 obtain ⟨k,hk,k5⟩:=fu c (n:=5) (by decide)
 refine aM hk (aM (fO (le_trans (le_of_lt k5) (by decide))) ?_)
 refine mI (MI ns x y z) (fun pre a suf V J hl hi H hκ=>?_) (fun V J hi=>?_) (pre:=[]) rfl (.mk [] (.mark x) none none _ (le_refl _) (pW N.a))
 .obtain ⟨s,x4,x5,j,d,g⟩:=hi
  refine (show bu _ (f8 (af Ψ (n+1) 18 [.scr ns,.spot] ⟨(j:Int),none⟩) fun v J=>up (bS v (.int 3)) J fun i J=>up (aA (.lst [aU (.next s),aU (.again s),aU (.till s (.mark y))]) i) J fun r J=>H [some (.scr ns),some .spot,some (pJ x y z),some r,some (.int a),some v] J) from ?_)
  refine cR (lE hn j n) ?_
  rintro _ _ ⟨rfl,c,rfl⟩
  obtain ⟨i,hi,i3⟩:=fu c (n:=3) (by decide)
  have dl:∀{m:Nat},m<=1+pre.length->m+1<=1+(pre++[a]).length:=fun h=>by rw [List.length_append];exact succ_le_succ h
  have fin:∀s',[aU (.next s),aU (.again s),aU (.till s (.mark y))][i]?=some (aU s')->dep s'<=1+(pre++[a]).length->Gm s'->bu (fun t J'=>(∃j':Nat,J'=⟨(j':Int),none⟩)/\Dm 5 t) (up (bS (.int c) (.int 3)) ⟨((j+1:Nat):Int),none⟩ fun i J=>up (aA (.lst [aU (.next s),aU (.again s),aU (.till s (.mark y))]) i) J fun r J=>H [some (.scr ns),some .spot,some (pJ x y z),some r,some (.int a),some (.int c)] J):=fun s' h1 h2 h3=>
   aM hi (aM (dY h1 (le_trans (le_of_lt i3) (by decide))) (hκ _ _ (.mk _ s' _ _ _ h2 h3)))
  match i,i3,fin with
  | 0,_,fin=>exact fin (.next s) rfl (dl d) (CN g rfl fun _ h=>nomatch h)
  | 1,_,fin=>exact fin (.again s) rfl (dl d) (CN g rfl fun _ h=>nomatch h)
  | 2,_,fin=>exact fin (.till s (.mark y)) rfl (dl (max_le.mpr ⟨d,le_add_right _ _⟩)) (Ex g (pW N.b) rfl fun _ h=>nomatch h)
 .obtain ⟨s,x4,x5,j,d,g⟩:=hi
  refine b8 ⟨⟨j,rfl⟩,s,rfl,le_trans d ?_,g⟩
  rw [nil_append,length_range,add_comm];exact k5
@[reducible] def FW:PS:=ai (aI 3 (p2 aA (bo (ae (aH (ae (pC (.str (ofString "not"))) (ae (pV 3) ak))) (ae (aH (ae (pC (.str (ofString "and"))) (ae (aH (ae (pC (.str (ofString "yes"))) ak)) (ae (pV 3) ak)))) ak))) (p2 bS (p2 dO (p2 dO (pV 4) (pC (.int 24))) (p2 bx (pV 6) (pC (.int 1)))) (pC (.int 2))))) am
@[reducible] def GE:PS:=ai (aF (aH (ae (pV 3) (ae (pC (.bool false)) ak)))) am
theorem uV {w t:T}:dG ⟨af Ψ n⟩ [some (.scr ns),some .spot,some w,some t,none,none,none] J (kE 72)=f8 (af Ψ n 18 [.scr ns,.spot] J) fun c J=>up (bS c (.int 6)) J fun v J=>up (cQ v (.int 0)) J fun b J=>bif b then (up (dO c (.int 6)) J fun q J=>f8 (af Ψ n 21 [t] J) fun l J=>up (bJ l) J fun m J=>up (bS q m) J fun i J=>up (dO c (.int 60)) J fun q J=>f8 (af Ψ n 68 [q,w] J) fun o J=>f8 (af Ψ n 67 [t,i,o] J) fun r J=>up (aA r (.int 0)) J fun r J=>.ret (.tup [r,.bool true]) J)
  else (up (bS c (.int 6)) J fun v J=>up (cQ v (.int 1)) J fun b J=>bif b then (f8 (af Ψ n 71 [.scr ns,.spot,w] J) fun r J=>.ret (.tup [r,.bool false]) J)
  else (up (bS c (.int 6)) J fun v J=>up (cQ v (.int 2)) J fun b J=>bif b then (up (dO c (.int 6)) J fun q J=>up (bS q (.int 4)) J fun m J=>up (zd [m]) J fun xs J=>dB (bz 6) FW ⟨af Ψ n⟩ xs [some (.scr ns),some .spot,some w,some t,some c,none,none] J fun V J=>GE ⟨af Ψ n⟩ V J (kE 72)) else GE ⟨af Ψ n⟩ [some (.scr ns),some .spot,some w,some t,some c,none,none] J (kE 72))):=by kernel_rfl
theorem zu {w t:T}{c:Int}{a:Nat}{H:PK aY}:FW ⟨af Ψ n⟩ [some (.scr ns),some .spot,some w,some t,some (.int c),none,some (.int a)] J H=up (dO (.int c) (.int 24)) J fun q J=>up (bx (.int a) (.int 1)) J fun e J=>up (dO q e) J fun q J=>up (bS q (.int 2)) J fun i J=>up (aA (.lst [.tup [st' "not",t],.tup [st' "and",.tup [st' "yes"],t]]) i) J fun r J=>H [some (.scr ns),some .spot,some w,some r,some (.int c),none,some (.int a)] J:=by kernel_rfl
theorem EN (q:Int){a:Nat}(h:a < 4):dO (.int q) (.int ((a:Int)+1))=some (.int (q.fdiv ((a+1:Nat):Int))):=
 match a,h with
 | 0,_=>b7 q (k:=1) rfl
 | 1,_=>b7 q (k:=2) rfl
 | 2,_=>b7 q (k:=3) rfl
 | 3,_=>b7 q (k:=4) rfl
inductive SI (ns:List Int) (w:T) (c:Int) (d:Nat):List Nat->aY->Sg->Prop
 |mk (l:List Nat) (s:Sy) (x6:Option T) (j:Nat) (h:dep s<=d+l.length) (g:Gm s):SI ns w c d l [some (.scr ns),some .spot,some w,some (aU s),some (.int c),none,x6] ⟨(j:Int),none⟩
structure Ho (t:T):Prop where
 ex:∃u b,t=.tup [u,.bool b]/\(bif b then oY u else Dm 8 u)
theorem Dm.up {d e:Nat}{t:T}(h:Dm d t)(hd:d<=e):Dm e t:=let ⟨s,h1,h2,h3⟩:=h;⟨s,h1,le_trans h2 hd,h3⟩
theorem uU (hn:ns.length<=63)(N:Fg x y z){s:Sy}(hd:dep s<=5)(hg:Gm s)(j n:Nat):bu (fun t J'=>(∃j':Nat,J'=⟨(j':Int),none⟩)/\Ho t) (af Ψ (n+8) 72 [.scr ns,.spot,pJ x y z,aU s] ⟨(j:Int),none⟩):=by
 refine oc ?_
 rw [uV]
 refine cR (lE hn j (n+6)) ?_
 rintro _ _ ⟨rfl,c,rfl⟩
 obtain ⟨m,hm,m6⟩:=fu c (n:=6) (by decide)
 refine aM hm (aM (fY _ _) (gq (fun _=>?_) fun _=>aM hm (aM (fY _ _) (gq (fun _=>?_) fun _=>aM hm (aM (fY _ _) (gq (fun _=>?_) fun _=>?_))))))
 .refine aM (b7 c (k:=6) rfl) (gp (tF (n+6) s (le_trans hd (le_add_left _ _)) (le_trans hd (by decide))) (aM (a:=nT (all s).length) (by show some (T.int (((all s).map aU).length:Nat))=_;rw [length_map]) ?_))
  have ap:0 < (all s).length:=List.length_pos_of_mem (gy s)
  obtain ⟨i,hi,il⟩:=fu (c.fdiv (6:Nat)) ap
  refine aM hi (aM (b7 c (k:=60) rfl) (cR (El N _ (n+6)) ?_))
  rintro o _ ⟨rfl,ho⟩
  obtain ⟨t',m',h1,h2⟩:=Cc (J:=⟨((j+1:Nat):Int),none⟩) ho (n+6) s (le_trans hd (le_add_left _ _)) hg i
  refine gp h1 (aM (a:=t') rfl (b8 ⟨⟨_,rfl⟩,t',true,rfl,?_⟩))
  rcases h2 with ⟨_,_,h2⟩ | ⟨⟨q,h2,_⟩,_⟩
  .exact h2
  .exact absurd il (not_lt.mpr (h2▸le_add_right _ _))
 .refine cR (zY hn N (j+1) (n+5)) ?_
  rintro u _ ⟨⟨j',rfl⟩,hu⟩
  exact b8 ⟨⟨j',rfl⟩,u,false,rfl,hu.up (by decide)⟩
 .obtain ⟨k,hk,k4⟩:=fu (c.fdiv (6:Nat)) (n:=4) (by decide)
  refine aM (b7 c (k:=6) rfl) (aM hk (aM (fO (le_trans (le_of_lt k4) (by decide))) ?_))
  refine mI (SI ns (pJ x y z) c 5) (fun pre a suf V J hl hi H hκ=>?_) (fun V J hi=>?_) (pre:=[]) rfl (.mk [] s none _ hd hg)
  .obtain ⟨s,x6,j,d,g⟩:=hi
   have ha:a < 4:=by
    have:a∈List.range k:=(show List.range k=pre++a::suf from hl)▸mem_append_right _ (.head _)
    exact lt_trans (bY this) k4
   refine (show bu _ (FW ⟨af Ψ (n+7)⟩ [some (.scr ns),some .spot,some (pJ x y z),some (aU s),some (.int c),none,some (.int a)] ⟨(j:Int),none⟩ H) from ?_)
   rw [zu]
   obtain ⟨i,hi,i2⟩:=fu ((c.fdiv (24:Nat)).fdiv ((a+1:Nat):Int)) (n:=2) (by decide)
   have dl:∀{m:Nat},m<=5+pre.length->m+1<=5+(pre++[a]).length:=fun h=>by rw [List.length_append];exact succ_le_succ h
   refine aM (b7 c (k:=24) rfl) (aM (add_int _ _) (aM (EN _ ha) (aM hi ?_)))
   match i,i2 with
   | 0,_=>exact aM (a:=aU (.not s)) (dY (j:=0) rfl (by decide)) (hκ _ _ (.mk _ (.not s) _ _ (dl d) (CN g rfl fun _ h=>nomatch h)))
   | 1,_=>exact aM (a:=aU (.and .yes s)) (dY (j:=1) rfl (by decide)) (hκ _ _ (.mk _ (.and .yes s) _ _ (dl (max_le.mpr ⟨le_trans (by decide) (le_add_right _ _),d⟩)) (Ex (a:=.yes) (fun x h=>by cases aa h) g rfl fun _ h=>nomatch h)))
  .obtain ⟨s,x6,j,d,g⟩:=hi
   refine b8 ⟨⟨j,rfl⟩,aU s,false,rfl,s,rfl,le_trans d ?_,g⟩
   rw [nil_append,length_range];exact add_le_add_left (le_of_lt_succ k4) 5
 .exact b8 ⟨⟨_,rfl⟩,aU s,false,rfl,s,rfl,le_trans hd (by decide),hg⟩
end
end
end Mine.L01
end
section
set_option maxRecDepth 10000
namespace Mine.L01
noncomputable section
open PySem Ltl
noncomputable def vz:Sy->Bool
 |.next _=>true
 |.till _ _=>true
 |.always _=>true
 |_=>false
def PC (S:Sy->Prop):List Sy->Prop
 | []=>True
 |b::l=>(∀x∈(all b).tail,vz x=true->S x)/\PC (fun y=>S y\/y=b) l
theorem PC.mono:∀{l:List Sy} {S S':Sy->Prop},(∀x,S x->S' x)->PC S l->PC S' l
 | [],_,_,_,_=>trivial
 |b::l,_,_,h,p=>⟨fun x hx q=>h x (p.1 x hx q),PC.mono (fun y q=>q.imp (h y) id) p.2⟩
theorem PC.app:∀{l m:List Sy} {S:Sy->Prop},PC S l->PC (fun y=>S y\/y∈l) m->PC S (l++m)
 | [],_,_,_,h=>h.mono fun y q=>q.elim id fun q=>nomatch q
 |b::l,_,_,p,h=>⟨p.1,PC.app p.2 (h.mono fun y q=>q.elim (fun q=>.inl (.inl q)) fun q=>(an q).elim (fun q=>.inl (.inr q)) .inr)⟩
theorem PC.filt {q:Sy->Bool}:∀{l:List Sy} {S:Sy->Prop},(∀x,q x=false->S x)->PC S l->PC S (l.filter q)
 | [],_,_,_=>trivial
 |b::l,S,h,p=>by
  cases e:q b with
  |true=>rw [List.filter_cons_of_pos e];exact ⟨p.1,PC.filt (fun x hx=>.inl (h x hx)) p.2⟩
  |false=>rw [List.filter_cons_of_neg (by rw [e];decide)];exact PC.filt h (p.2.mono fun y q=>q.elim id fun q=>q▸h b e)
theorem PC.ext {f xs:List Sy}(h:PC (fun _=>False) f)(h':PC (fun y=>y∈f) xs):PC (fun _=>False) (ext f xs):=
 h.app ((h'.filt fun x hx=>by rw [Bool.not_eq_false',List.contains_eq_mem,decide_eq_true_eq] at hx;exact hx).mono fun y q=>.inr q)
theorem E0 {a x:Sy}(h:x∈all a)(hb:vz x=true):x∈av a:=aS.mpr ⟨x,h,by cases x<;>first |exact .head _ |cases hb⟩
theorem t8:∀(l f:List Sy),(∀p∈l,PC (fun _=>False) (av p))->PC (fun _=>False) f->PC (fun _=>False) (l.foldl (fun f a=>Ltl.ext f (av a)) f)/\∀x,(x∈f\/∃p∈l,x∈av p)->x∈l.foldl (fun f a=>Ltl.ext f (av a)) f
 | [],f,_,hf=>⟨hf,fun x h=>h.elim id fun ⟨_,h,_⟩=>nomatch h⟩
 |a::l,f,h,hf=>by
  obtain ⟨h1,h2⟩:=t8 l (Ltl.ext f (av a)) (fun p hp=>h p (.tail _ hp)) (hf.ext ((h a (.head _)).mono fun _ q=>q.elim))
  exact ⟨h1,fun x hx=>h2 x (hx.elim (fun q=>.inl (fW.mpr (.inl q))) fun ⟨p,hp,q⟩=>(an hp).elim (fun e=>.inl (fW.mpr (.inr (e▸q)))) fun hp=>.inr ⟨p,hp,q⟩)⟩
theorem pj (s:Sy)(h:∀p∈bT s,PC (fun _=>False) (av p)):PC (fun _=>False) (av s):=by
 rw [rS s]
 obtain ⟨h1,h2⟩:=t8 (bT s) [] h trivial
 refine h1.ext ?_
 generalize (bT s).foldl (fun f a=>Ltl.ext f (av a)) []=f at h2
 have at':∀p∈bT s,∀x∈all p,vz x=true->x∈f:=fun p hp x hx hb=>h2 x (.inr ⟨p,hp,E0 hx hb⟩)
 cases s with
 |next a=>exact ⟨at' a (.head _),trivial⟩
 |always a=>exact ⟨at' a (.head _),trivial⟩
 |till a c=>exact ⟨fun x hx hb=>(ag (show x∈all a++all c from hx)).elim (fun q=>at' a (.head _) x q hb) fun q=>at' c (.tail _ (.head _)) x q hb,trivial⟩
 |again a=>
  have ya:∀x,x∈.yes::all a->vz x=true->x∈f:=fun x hx hb=>(an hx).elim (fun q=>by rw [q] at hb;cases hb) fun q=>at' a (.head _) x q hb
  exact ⟨ya,fun x hx hb=>(an hx).elim .inr fun q=>.inl (ya x q hb),trivial⟩
 |_=>exact trivial
theorem w8 (s:Sy):PC (fun _=>False) (av s):=by
 induction s with
 |mark |yes=>exact pj _ fun _ h=>nomatch h
 |not a ih |next a ih |always a ih |again a ih=>exact pj _ fun p hp=>aa hp▸ih
 |and a c i1 i2 |or a c i1 i2 |till a c i1 i2=>exact pj _ fun p hp=>(an hp).elim (fun e=>e▸i1) fun hp=>aa hp▸i2
theorem PC.at:∀{pre suf:List Sy} {b:Sy} {S:Sy->Prop},PC S (pre++b::suf)->∀x∈(all b).tail,vz x=true->S x\/x∈pre
 | [],_,_,_,p,x,hx,hb=>.inl (p.1 x hx hb)
 |a::pre,_,_,_,p,x,hx,hb=>(PC.at (pre:=pre) p.2 x hx hb).elim (fun q=>q.imp id fun q=>mem_cons.mpr (.inl q)) fun q=>.inr (.tail _ q)
theorem sK {s:Sy}{pre suf:List Sy}{b:Sy}(e:av s=pre++b::suf){x:Sy}(hx:x∈(all b).tail):x∉b::suf:=fun q=>by
 have hm:x∈av s:=e▸mem_append_right _ q
 have hb:vz x=true:=by rcases ir hm with ⟨a,rfl⟩ | ⟨a,c,rfl⟩ | ⟨a,rfl⟩<;>rfl
 rcases PC.at (e▸w8 s) x hx hb with h |h
 .exact h
 .exact (aJ (e▸bh s)).2.2 x h x q rfl
section
variable {J:Sg} {n:Nat}
theorem CY {α:Type}{l:List α}{a:Nat}(h:a<=l.length):cut (some (a:Int)) none l=l.drop a:=by
 simp only [cut,Option.elim,qi h]
 rw [List.take_of_length_le (le_of_eq (length_drop ..))]
@[reducible] def FZ:PT:=p2 lr (pV 4) (p3 cg (pV 0) (p1 dA (pV 3)) mi)
@[reducible] def F1:PS:=ai (bR (jp (p2 iz (p2 aA (pV 0) (pV 3)) (pV 2)) (jp (p2 iD (xb .list eG (pV 0) (p2 aA (pV 0) (pV 3))) (pV 3)) cN)) (ai (aF (pC (.bool false))) am) am)
  (ai (bR (p2 iD (bv (bK (p3 cg (aw 21 (ae (p2 aA (pV 0) (pV 3)) ak)) (p1 dA (pC (.int 1))) mi)) (bz 4) FZ (pV 4)) (bo ak)) (ai (aF (pC (.bool false))) am) am) am)
theorem DZ {f:List T}{x1:Option T}{d i:T}{H:PK aY}:F1 ⟨af Ψ n⟩ [some (.lst f),x1,some d,some i,none] J H=up (aA (.lst f) i) J fun v J=>up (iz v d) J fun q J=>bif q then .ret (.bool false) J else up (aA (.lst f) i) J fun v J=>up (eG (.lst f) v) J fun j J=>up (iD j i) J fun q J=>bif q then .ret (.bool false) J else
  up (aA (.lst f) i) J fun v J=>f8 (af Ψ n 21 [v] J) fun l J=>up (cg l (some 1) none) J fun l J=>up (iM l) J fun xs J=>bO (bz 4) FZ (pV 4) ⟨af Ψ n⟩ [some (.lst f),x1,some d,some i,none] xs J [] fun ys J=>up (iD (.lst ys) (.lst [])) J fun q J=>bif q then .ret (.bool false) J else H [some (.lst f),x1,some d,some i,none] J:=by kernel_rfl
theorem DY {f:List T}{x1:Option T}{d v:T}{a:Nat}{k:PK Bool}:FZ ⟨af Ψ n⟩ [some (.lst f),x1,some d,some (.int a),some v] J k=up (cg (.lst f) (some (a:Int)) none) J fun w J=>up (lr v w) J k:=by kernel_rfl
theorem B9 {f:List T}{t:T}:cw ⟨af Ψ n⟩ [some (.lst f),some t,none,none,none] J (kE 73)=f8 (af Ψ n 22 [t] J) fun d J=>up (bJ d) J fun m J=>up (iD (.int f.length) m) J fun q J=>bif q then .ret (.bool false) J else up (zd [.int f.length]) J fun xs J=>dB (bz 3) F1 ⟨af Ψ n⟩ xs [some (.lst f),some t,some d,none,none] J fun V J=>ai (aF (pC (.bool true))) am ⟨af Ψ n⟩ V J (kE 73):=by kernel_rfl
inductive RI (s:Sy) (J:Sg):List Nat->aY->Sg->Prop
 |mk (l:List Nat) (x3:Option T):RI s J l [some (eT (av s)),some (aU s),some (eT (lb s)),x3,none] J
theorem B8 {s:Sy}(hd:dep s<=5)(n:Nat):af Ψ (n+10) 73 [eT (av s),aU s] J=.ret (.bool true) J:=by
 have bl:(av s).length<=1024:=nN hd (by decide)
 have bd:∀x∈av s,dep x<=6:=fun x hx=>le_trans (di hx) (succ_le_succ hd)
 have bd':∀x∈av s,dep x<=40:=fun x hx=>le_trans (bd x hx) (by decide)
 have lbm:∀x,x∈lb s↔x∈av s:=fun x=>((sW (all s) [] .nil).2 x).trans ((Iff.trans ⟨fun h=>h.elim (fun q=>nomatch q) id,.inr⟩ aS.symm))
 have run:bu (fun t J'=>t=.bool true/\J'=J) (af Ψ (n+10) 73 [eT (av s),aU s] J):=by
  refine j3 ?_
  rw [B9]
  refine gp (Bb (n:=n+7) (le_trans hd (le_add_left _ _)) (le_trans hd (by decide))) (aM (a:=nT (lb s).length) (by show some (T.int (((lb s).map aU).length:Nat))=_;rw [length_map]) ?_)
  rw [length_map]
  refine aM (sR (sV s).symm) (rX (aM (fO (le_trans bl (by decide))) ?_))
  refine mI (RI s J) (fun pre a suf V J' hl hi H hκ=>?_) (fun V J' hi=>?_) (pre:=[]) rfl (.mk [] none)
  .obtain ⟨x3⟩:=hi
   have ha:a < (av s).length:=bY ((show List.range (av s).length=pre++a::suf from hl)▸mem_append_right _ (.head _))
   have hb:=getElem?_eq_getElem ha
   have hm:(av s)[a]∈av s:=getElem_mem ha
   have ix:aA (eT (av s)) (.int a)=some (aU (av s)[a]):=de hb (le_trans (le_of_lt ha) (le_trans bl (by decide)))
   refine (show bu _ (F1 ⟨af Ψ (n+9)⟩ [some (eT (av s)),some (aU s),some (eT (lb s)),some (.int a),none] J H) from ?_)
   rw [DZ]
   refine aM ix (aM (a:=false) ?_ (rX (aM ix (aM (a:=.int a) ?_ (aM (sR rfl) (rX (aM ix (gp (tF (n+8) _ (le_trans (bd _ hm) (le_trans (by decide) (le_add_left _ _))) (le_trans (bd _ hm) (by decide))) (aM tR ?_)))))))))
   .rw [(kC 40).nin (by decide) (bd' _ hm) (fun x hx=>bd' x ((lbm x).mp hx)) rfl,decide_eq_true ((lbm _).mpr hm)];rfl
   .rw [(kC 40).idx (by decide) (bd' _ hm) bd' hm,(bh s).idxOf_getElem]
   .rw [lH,rK]
    refine aM rfl ?_
    refine uA (fun _=>false) aU (fun x hx=>⟨_,rfl,fun k=>?_,fun h=>nomatch h⟩) ?_
    .refine DY.trans (az tR (az (a:=false) ?_ rfl))
     rw [lH,CY (le_of_lt ha)]
     have xd:dep x<=40:=le_trans (qq (List.mem_of_mem_tail (List.drop_one▸hx))) (bd' _ hm)
     rw [(kC 40).mem (by decide) xd (fun y hy=>bd' y (List.mem_of_mem_drop hy)) rfl]
     refine congrArg some (decide_eq_false ?_)
     rw [List.drop_eq_getElem_cons ha]
     exact sK ((List.take_append_drop a (av s)).symm.trans (by rw [List.drop_eq_getElem_cons ha])) (List.drop_one▸hx)
    .rw [List.filter_eq_nil_iff.mpr fun _ _=>by decide]
     exact aM (a:=false) rfl (rX (hκ _ _ (.mk _ _)))
  .obtain ⟨x3⟩:=hi
   exact b8 ⟨rfl,rfl⟩
 obtain ⟨_,_,h,rfl,rfl⟩:=run
 exact h
end
end
end Mine.L01
end
section
set_option maxRecDepth 10000
namespace Mine.L01
noncomputable section
open PySem Ltl
section
variable {J:Sg} {n:Nat} {sp:Int} {t:T} {s:Sy}
noncomputable def M1:Mc:=⟨[ofString ""],[[0]],[0]⟩
theorem DW:Dt 1 [0]:=⟨(fun h=>nomatch h),pairwise_singleton _ _,fun p hp=>by cases aa hp;exact Nat.one_pos⟩
theorem xI:M1.Ok:=⟨le_refl 1,by decide,fun x hx=>aa hx▸Cm,rfl,fun r hr=>aa hr▸DW,DW⟩
theorem u1 (G:Gs s):(sx M1 s).length<=128:=by
 rw [zt]
 exact le_trans (Nat.mul_le_mul_left _ (pow_le_pow_right (by decide) G.few)) (by decide)
theorem wy:ci ⟨af Ψ n⟩ [some t,some (.int 0),none] J (kE 50)=f8 (af Ψ n 7 [t] J) fun v J=>up (iD v t) J fun q J=>bif q then .ret (.int 8) J else .ret (.int (-1)) J:=by kernel_rfl
theorem ww:ci ⟨af Ψ n⟩ [some t,some (.int 1),none] ⟨sp,none⟩ (kE 50)=og 0 (af Ψ n 1006 [.self,.lst [.str (ofString "")],.lst [.lst [.int 0]],.lst [.int 0]] ⟨sp,some (0,[])⟩) fun m J=>match J.self with |some _=>.bad |none=>og 10 (af Ψ n 1001 [.self,m,t] ⟨J.spot,some (10,[])⟩) fun _ J=>.ret (.int (-1)) J:=by kernel_rfl
theorem wv:ci ⟨af Ψ n⟩ [some t,some (.int 2),none] ⟨sp,none⟩ (kE 50)=og 0 (af Ψ n 1006 [.self,.lst [.str (ofString "")],.lst [.lst [.int 0]],.lst [.int 0]] ⟨sp,some (0,[])⟩) fun m J=>f8 (af Ψ n 43 [m,t] J) fun _ J=>.ret (.int (-1)) J:=by kernel_rfl
theorem Bh (n:Nat):af Ψ (n+24) 1006 [.self,.lst [.str (ofString "")],.lst [.lst [.int 0]],.lst [.int 0]] ⟨sp,some (0,[])⟩=.ret .none ⟨sp,some (0,M1.fs)⟩:=Ak xI (n+21)
theorem BO (G:Gs s)(n:Nat):∀w:Nat,w < 3->af Ψ (n+25) 50 [aU s,.int w] ⟨sp,none⟩=.ret (.int (-1)) ⟨sp,none⟩:=by
 have en:iD (aU s) (aU s)=some false:=by rw [(kC 40).isN (by decide) (le_trans G.dep (by decide)) (le_trans G.dep (by decide)),decide_eq_true rfl];rfl
 have fin:∀{o:du},bu (fun t J'=>t=.int (-1)/\J'=(⟨sp,none⟩:Sg)) o->o=.ret (.int (-1)) ⟨sp,none⟩:=fun h=>by obtain ⟨_,_,e,rfl,rfl⟩:=h;exact e
 intro w hw
 match w,hw with
 | 0,_=>exact gY (wy.trans (au (ub G (n+15)) (az en rfl)))
 | 1,_=>
  obtain ⟨_,_,h,rfl,kk,K,rfl,_⟩:=wh xI G (u1 G) (sp:=sp) (n+1)
  exact gY (ww.trans (fin (zQ (Bh n) (zQ h (b8 ⟨rfl,rfl⟩)))))
 | 2,_=>
  obtain ⟨v,_,h,rfl⟩:=vp xI G (u1 G) (sp:=sp) n
  exact gY (wv.trans (fin (zQ (Bh n) (gp h (b8 ⟨rfl,rfl⟩)))))
end
end
end Mine.L01
end
section
set_option maxRecDepth 10000
namespace Mine.L01
noncomputable section
open PySem Ltl
section
variable {J:Sg} {n:Nat} {ns:List Int} {w u t:T} {b:Bool} {s:Sy} {k:PK aY}
noncomputable abbrev fr1 (ns:List Int)(w u:T)(b:Bool)(x5 x6 x7 x8:Option T):aY:=[some (.scr ns),some .spot,some w,some u,some (.bool b),x5,x6,x7,x8,none,none,none]
theorem Ce:t9 ⟨af Ψ n⟩ (frame [.scr ns,.spot] 10) ⟨1,none⟩ k=f8 (af Ψ n 17 [.scr ns,.int 0] ⟨1,none⟩) fun c J=>f8 (af Ψ n 19 [c] J) fun w J=>f8 (af Ψ n 20 [.scr ns,.spot,w,.int 5] J) fun t J=>f8 (af Ψ n 72 [.scr ns,.spot,w,t] J) fun r J=>up (o1 (lN r) fun ts=>c5 [3,4] ts [some (.scr ns),some .spot,some w,none,none,none,none,none,none,none,none,none]) J fun V J=>js ⟨af Ψ n⟩ V J k:=by kernel_rfl
theorem says {c:Bool}(h:∀n J,5<=n->af Ψ (n+4) 4 [t,.int (5:Nat)] J=.ret (.bool c) J)(n:Nat)(hn:10<=n):af Ψ n 5 [t] J=.ret (.bool c) J:=by
 obtain ⟨m,rfl⟩:∃m,n=m+5:=⟨n - 5,by lia⟩
 exact k9 (au (h m J (by lia)) rfl)
theorem tU (h:oY t)(n:Nat)(hn:10<=n):af Ψ n 5 [t] J=.ret (.bool false) J:=says (fun m J hm=>h m 5 J hm) n hn
theorem zD (h:Gm s)(n:Nat)(hn:10<=n):af Ψ n 5 [aU s] J=.ret (.bool (decide (dep s<=5))) J:=says (fun m J hm=>lQ (m+2) 5 s (Nat.le_add_right_of_le hm) h) n hn
theorem Cb (h5:af Ψ n 5 [u] J=.ret (.bool false) J):js ⟨af Ψ n⟩ (fr1 ns w u true none none none none) J k=k (fr1 ns w u true (some (.bool false)) (some (.bool false)) (some (.int 0)) (some (.int 3))) J:=au h5 (by kernel_rfl)
theorem wU {d:Int}(h5:af Ψ n 5 [u] J=.ret (.bool false) J)(h6:af Ψ n 69 [u] J=.ret (.int d) J)(hd:¬d < 6):js ⟨af Ψ n⟩ (fr1 ns w u false none none none none) J k=k (fr1 ns w u false (some (.bool false)) (some (.bool false)) (some (.int 0)) (some (.int 3))) J:=
 au h5 (au h6 (az (a:=false) (congrArg some (decide_eq_false hd)) (by kernel_rfl)))
theorem zJ {x5 x7 x8:Option T}:mf ⟨af Ψ n⟩ (fr1 ns w u b x5 (some (.bool false)) x7 x8) J (fun _ J=>.ret .none J)=.ret (.bool true) J:=by kernel_rfl
theorem gt_int (a c:Int):vA (.int a) (.int c)=some (decide (a > c)):=by unfold vA;rfl
theorem sU (l:List Sy):bJ (eT l)=some (.int l.length):=by show some (T.int ((l.map aU).length:Nat))=_;rw [length_map]
abbrev DF (ns:List Int)(w u:T)(i:Int)(v:T):aY:=fr1 ns w u false (some (.bool true)) (some (.bool true)) (some (.int i)) (some v)
section
variable {d:Int} {l:List Sy} (h5:af Ψ n 5 [u] J=.ret (.bool true) J) (h6:af Ψ n 69 [u] J=.ret (.int d) J) (hd:d < 6)
include h5 h6 hd
theorem A5:js ⟨af Ψ n⟩ (fr1 ns w u false none none none none) J k=f8 (af Ψ n 22 [u] J) fun v J=>up (bJ v) J fun v J=>up (vA v (.int 4)) J fun q J=>bif q then k (DF ns w u 1 (.int 3)) J else f8 (af Ψ n 22 [u] J) fun v J=>up (bJ v) J fun v J=>up (vA v (.int 2)) J fun q J=>up (oO (.bool q)) J fun v J=>up (iX (.int 2) v) J fun v J=>up (dU (.int 3) v) J fun v J=>k (DF ns w u (-1) v) J:=
 au h5 (au h6 (az (a:=true) (congrArg some (decide_eq_true hd)) (by kernel_rfl)))
variable (h7:af Ψ n 22 [u] J=.ret (eT l) J)
include h7
theorem wT (hl:(l.length:Int) > 4):js ⟨af Ψ n⟩ (fr1 ns w u false none none none none) J k=k (DF ns w u 1 (.int 3)) J:=
 (A5 h5 h6 hd).trans (au h7 (az (sU l) (az (gt_int _ _) (EX (decide_eq_true hl) rfl))))
theorem zF (hl:¬(l.length:Int) > 4):∃m:Nat,(m=1\/m=3)/\js ⟨af Ψ n⟩ (fr1 ns w u false none none none none) J k=k (DF ns w u (-1) (.int m)) J:=by
 have fin:∀q:Bool,∃m:Nat,(m=1\/m=3)/\(up (oO (.bool q)) J fun v J=>up (iX (.int 2) v) J fun v J=>up (dU (.int 3) v) J fun v J=>k (DF ns w u (-1) v) J)=k (DF ns w u (-1) (.int m)) J:=fun q=>by
  cases q
  .exact ⟨3,.inr rfl,by kernel_rfl⟩
  .exact ⟨1,.inl rfl,by kernel_rfl⟩
 obtain ⟨m,hm,e⟩:=fin (decide ((l.length:Int) > 2))
 exact ⟨m,hm,(A5 h5 h6 hd).trans (au h7 (az (sU l) (az (gt_int _ _) (rW (decide_eq_false hl) (au h7 (az (sU l) (az (gt_int _ _) e)))))))⟩
end
theorem DJ {m:Nat}{x5 x6:Option T}(hm:m=1\/m=3)(h:∀j:Nat,j < 3->af Ψ n 50 [u,.int j] J=.ret (.int (-1)) J):w9 ⟨af Ψ n⟩ (fr1 ns w u b x5 x6 (some (.int (-1))) (some (.int m))) J k=k (fr1 ns w u b x5 x6 (some (.int (-1))) (some (.int m))) J:=by
 have m3:m<=3:=by rcases hm with rfl |rfl<;>decide
 refine (show _=up (zd [.int m]) J fun xs J=>bO (bz 11) bB (aw 50 (ae (pV 3) (ae (pV 11) ak))) ⟨af Ψ n⟩ (fr1 ns w u b x5 x6 (some (.int (-1))) (some (.int m))) xs J [] fun ys J=>up (uX (.lst [.int (-1)]) (.int m)) J fun v J=>up (iD (.lst ys) v) J fun q J=>bif q then .ret (.bool false) J else k (fr1 ns w u b x5 x6 (some (.int (-1))) (some (.int m))) J by kernel_rfl).trans (az (fO (le_trans m3 (by decide))) ?_)
 refine dg (fun _=>.int (-1)) (fun j hj=>⟨_,rfl,fun k=>?_⟩) ?_
 .exact au (h j (lt_of_lt_of_le (bY hj) m3)) rfl
 .rcases hm with rfl |rfl<;>kernel_rfl
theorem DT {m:Nat}(h:dep s<=m):Sf m (aU s):=⟨f0 s,dP s m h,(f9 s s).mpr rfl⟩
theorem zL {x5 x7 x8:Option T}{l:List T}(hb:af Ψ n 500 [u] J=.ret (.lst l) J)(hl:l.length < lim)(hr:af Ψ n 73 [.lst l,u] J=.ret (.bool true) J)(sf:∀x∈l,Sf 49 x):mf ⟨af Ψ n⟩ (fr1 ns w u false x5 (some (.bool true)) x7 x8) J (fun _ J=>.ret .none J)=.ret (.bool true) J:=by
 have ap:=tE (v:=.str (ofString "more")) hl
 have ad:bx (.lst l) (.lst [.str (ofString "more")])=some (.lst (l++[.str (ofString "more")])):=by unfold bx;exact nA (by rw [List.length_append];exact hl)
 have s1:cQ (.lst l) (.lst l)=some true:=Sf.eq (wL sf)
 have s2:cQ (.lst (l++[.str (ofString "more")])) (.lst (l++[.str (ofString "more")]))=some true:=Sf.eq (wL fun x hx=>(ag hx).elim (sf x) fun q=>aa q▸B0)
 refine au hb ((show _=up (dC (.lst l) (.str (ofString "more"))) J fun y J=>f8 (af Ψ n 73 [.lst l,u] J) fun r J=>match cX r with |some true=>(f8 (af Ψ n 500 [u] J) fun v J=>up (cQ v (.lst l)) J fun q J=>match cX (.bool q) with |some true=>(up (bx (.lst l) (.lst [.str (ofString "more")])) J fun v J=>up (cQ y v) J fun q J=>.ret (.bool q) J) |some false=>.ret (.bool q) J |none=>.bad) |some false=>.ret r J |none=>.bad by kernel_rfl).trans ?_)
 refine az ap (au hr ?_)
 refine (show _=f8 (af Ψ n 500 [u] J) fun v J=>up (cQ v (.lst l)) J fun q J=>match cX (.bool q) with |some true=>(up (bx (.lst l) (.lst [.str (ofString "more")])) J fun v J=>up (cQ (.lst (l++[.str (ofString "more")])) v) J fun q J=>.ret (.bool q) J) |some false=>.ret (.bool q) J |none=>.bad by rfl).trans (au hb (az s1 ?_))
 exact az ad (az s2 rfl)
theorem wX {x5 x7 x8:Option T}(hd:dep s<=5)(m:Nat):mf ⟨af Ψ (m+10)⟩ (fr1 ns w (aU s) false x5 (some (.bool true)) x7 x8) J (fun _ J=>.ret .none J)=.ret (.bool true) J:=
 have d8:dep s<=8:=le_trans hd (by decide)
 zL (g8 (m+9) s (le_trans d8 (le_trans (by decide) (le_add_left 9 m))) d8) (lt_of_le_of_lt (le_of_eq (length_map _)) (lt_of_le_of_lt (nN hd (by decide)) (by decide))) (B8 hd m)
  (B6 fun x hx=>DT (le_trans (di hx) (le_trans (succ_le_succ hd) (by decide))))
end
theorem Da {t:T}(h:∀(n:Nat) (J:Sg),10<=n->af Ψ n 5 [t] J=.ret (.bool false) J):tK t false:=fun m hm J=>⟨h m J (le_trans (by decide) hm),fun h=>nomatch h⟩
theorem plain (ns:List Int)(hn:ns.length<=63):∃V J,Dq 44 ns V J:=by
 obtain ⟨_,_,e1,rfl,c,rfl⟩:=AK (J:=⟨((1:Nat):Int),none⟩) hn 0 43
 obtain ⟨_,_,e2,rfl,x,y,z,rfl,N⟩:=xu (J:=⟨((1:Nat):Int),none⟩) c 43
 obtain ⟨_,_,e3,⟨j,rfl⟩,s0,rfl,d0,g0⟩:=zZ hn N 5 1 43 (by decide) (by decide)
 obtain ⟨_,_,e4,⟨j',rfl⟩,S⟩:=uU hn N d0 g0 j 36
 obtain ⟨u,b,rfl,hs⟩:=S.ex
 have pre:∀k,t9 ⟨af Ψ 44⟩ (frame [.scr ns,.spot] 10) ⟨1,none⟩ k=js ⟨af Ψ 44⟩ (fr1 ns (pJ x y z) u b none none none none) ⟨(j':Int),none⟩ k:=fun k=>Ce.trans (au e1 (au e2 (au e3 (au e4 rfl))))
 have no:∀(h5:∀(n:Nat) (J:Sg),10<=n->af Ψ n 5 [u] J=.ret (.bool false) J),(∀k,js ⟨af Ψ 44⟩ (fr1 ns (pJ x y z) u b none none none none) ⟨(j':Int),none⟩ k=k (fr1 ns (pJ x y z) u b (some (.bool false)) (some (.bool false)) (some (.int 0)) (some (.int 3))) ⟨(j':Int),none⟩)->∃V J,Dq 44 ns V J:=fun h5 h=>⟨_,_,(pre _).trans (h _),.inr ⟨rfl,_,_,_,_,_,_,u,false,Da h5,rfl⟩,_,zJ⟩
 cases b with
 |true=>exact no (fun n J h=>tU hs n h) fun k=>Cb (tU hs 44 (by decide))
 |false=>
  obtain ⟨s,rfl,d8,g⟩:Dm 8 u:=hs
  have h5:∀(n:Nat) (J:Sg),10<=n->af Ψ n 5 [aU s] J=.ret (.bool (decide (dep s<=5))) J:=fun n J h=>zD g n h
  have h6:af Ψ 44 69 [aU s] ⟨(j':Int),none⟩=.ret (.int (dep s)) ⟨(j':Int),none⟩:=AB 43 s (le_trans d8 (by decide))
  by_cases hd:dep s<=5
  .rw [decide_eq_true hd] at h5
   have d6:((dep s:Nat):Int) < 6:=bP (lt_succ_of_le hd)
   have h7:af Ψ 44 22 [aU s] ⟨(j':Int),none⟩=.ret (eT (lb s)) ⟨(j':Int),none⟩:=Bb (n:=42) (le_trans d8 (by decide)) d8
   by_cases hl:(((lb s).length:Nat):Int) > 4
   .refine ⟨_,_,(pre _).trans (wT (h5 44 _ (by decide)) h6 d6 h7 hl),.inr ⟨rfl,_,_,_,_,_,_,aU s,true,fun m hm J=>⟨h5 m J (le_trans (by decide) hm),fun _=>⟨(av s).map aU,?_,?_⟩⟩,rfl⟩,_,wX hd 34⟩
    .obtain ⟨n,rfl⟩:∃n,m=n+1:=⟨m - 1,by lia⟩
     exact g8 n s (by lia) d8
    .rw [length_map,<-sV];exact ofNat_lt.mp hl
   .have fw:(av s).length<=4:=by rw [<-sV];exact bW fun q=>hl (bP q)
    have G:Gs s:=⟨hd,fw,g⟩
    have ex:=fun k=>zF (ns:=ns) (w:=pJ x y z) (k:=k) (h5 44 _ (by decide)) h6 d6 h7 hl
    obtain ⟨m,hm,e⟩:=ex .fall
    exact ⟨_,_,(pre _).trans e,.inl (DJ hm (BO G 19)),_,wX hd 34⟩
  .rw [decide_eq_false hd] at h5
   exact no h5 fun k=>wU (h5 44 _ (by decide)) h6 fun q=>hd (le_of_lt_succ (ofNat_lt.mp q))
end
end Mine.L01
end
end
open PySem PySem.W PyProof.Rows Mine Mine.L01
set_option maxRecDepth 100000
set_option maxHeartbeats 8000000
namespace Mine.L01
theorem yv:(defOf q rw_uf020006_01.row.name).isSome=true:=by kernel_rfl
noncomputable def Fs:DefRec:=((defOf q rw_uf020006_01.row.name).get yv).1
theorem EM:defOf q rw_uf020006_01.row.name=some (Fs,[]):=by kernel_rfl
theorem EL:rw_uf020006_01.row.prog.theDef rw_uf020006_01.row.name=some (Fs.params,Fs.body,Fs.scope):=by kernel_rfl
end Mine.L01
theorem PySem.Challenge.cw_uf020006_01_holds : PySem.Challenge.rw_uf020006_01.Holds := by
 refine holds_law FO fun sd=>?_
 refine holds_open (q:=q) (loose:=[]) (Xt:=Mine.L01.Xt) (XP:=BA q) (Yf:=Hook.obs Hook.none) (Ya:=Hook.val Hook.none) (YP:=Hook.says Hook.none) (N:=4000) left (Hook.of _) (Hook.keeps _) BA.of BA.keeps EM EL (by kernel_rfl) (fun s e=>recFacts_of (Fd.rc e)) (by rfl) sd Ha ⟨rfl,rfl,rfl,rfl,rfl,by decide+kernel⟩ ?hw ?hc
 case hw=>w_witness2
 intro w s0 s₁ mg mb G Y fa o pm cd doc dV kV ho hd hcd hD hmg hg args vals as hpre hlay hrd hwl hlo
 clear Y ho hd hcd hD
 wrow_args hpre hlay hrd hwl hlo
 rename IntsAre _ _=>hI
 rename Heap.IsList _ _ _=>hL
 obtain ⟨V,J,hc⟩:=(fun {vs:List Value} {ns:List Int} (_:IntsAre vs ns)=>Mine.L01.plain ns) hI (by omega)
 refine wpAny_mono (vi (pg:=rw_uf020006_01.row.prog) G.T G.TE G.X.2 ⟨by decide,by decide,rfl⟩ rfl hmg hL hI (by omega) (by decide) hc) (fun v s' q=>?_) fun _ _ q=>q.elim
 obtain ⟨rfl,h',tk,rfl,hk⟩:=q
 exact yk (fun _=>rfl) (by first |rfl |wrow_post) (.of_eq hg) hk
