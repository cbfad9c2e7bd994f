import PyProof.Rows.All
import PyProof.P3Statements
import PyProof.P3In
import PyProof.Cells
import PyProof.MakeMany
import PyProof.DictKinds
import PyProof.TupleKey
import PyProof.Ns1
import PyProof.SliceMore
import PySem.Builtin.Range.Common
import PyProof.Rows.Many
import PyProof.Rules2
import PyProof.Rules3
import PyProof.Calls
import PyProof.RaisesMany
import PyProof.RulesTry
import OpenK.KLine
import PyProof.ListCopy
import PyProof.TupleOfSeq
import PyProof.ConsumeWalk
import PyProof.DictStraight
import PyProof.StrBlockL
import PyProof.ZipIter
import PyProof.Conv_int_bool
import PyProof.ListOps
import PyProof.P3Eq
import OpenK.KCall
import OpenK.KWalk
import Wide.BridgeG
import Wide.OneHead
import PyProof.Rows.PlainObj
import PyProof.InstStoreFacts
import PyProof.AssignAttr
import PyProof.Rows.Own
import PyProof.ExcBaseAll.ValueError
import KE.KIsAll
import KE.KTryMore
import PyProof.RulesAs
import PyProof.ExcAttrAll.ValueError
import PyProof.Rows.TupAssign
import PyProof.TupleIter
import PyProof.EnumStmt
import PyProof.EnumFor
import PyProof.Rows.Chain
import PyProof.StrWalks
import PyProof.StrOps
import PyProof.StrBlock
import PyProof.EqAt
import PyProof.AutoIntOps
import PyProof.ListMulAny
import PyProof.Rows.ListMulR
import PyProof.Rows.ListMulArg
import Wide.All
import OpenK.AllK
import Wide.FinOn
import PySem.Challenge.RW_uf020006_02
set_option Elab.async false
set_option linter.all false
section
set_option backward.eqns.nonrecursive false
namespace Mine
noncomputable section
open PySem

inductive V where
  | none
  | bool (b : Bool)
  | int (i : Int)
  | str (s : Str)
  | tup (xs : List V)
  | ref (a : Nat)
  | scr (ns : List Int)
  deriving Inhabited

inductive O where
  | list (xs : List V)
  | inst (c : Nat) (d : Nat)
  | ns (fs : List (Str × V))
  | dic
  deriving Inhabited
noncomputable instance : DecidableEq O := fun a b => Classical.propDecidable (a = b)

noncomputable abbrev Mem := List O
noncomputable abbrev Fr := Nat → Option V
noncomputable def Fr.set (ρ : Fr) (i : Nat) (v : V) : Fr := fun j => bif Nat.beq j i then some v else ρ j
noncomputable def Fr.nil : Fr := fun _ => Option.none
theorem Fr.set_self (ρ : Fr) (i : Nat) (v : V) : ρ.set i v i = some v := by simp [Fr.set]
theorem Fr.set_ne (ρ : Fr) {i j : Nat} (v : V) (h : j ≠ i) : ρ.set i v j = ρ j := by
  have : Nat.beq j i = false := by cases e : Nat.beq j i with
    | false => rfl
    | true => exact absurd (Nat.eq_of_beq_eq_true e) h
  simp [Fr.set, this]

inductive R (α : Type) where
  | ok (a : α) (μ : Mem)
  | exc (c : Nat) (μ : Mem)
  | bad
noncomputable def R.bind {α β : Type} : R α → (α → Mem → R β) → R β
  | .ok a μ, f => f a μ
  | .exc c μ, _ => .exc c μ
  | .bad, _ => .bad
theorem R.bind_ok {α β : Type} {a : α} {μ : Mem} {f : α → Mem → R β} : (R.ok a μ).bind f = f a μ := rfl
noncomputable def R.opt {α : Type} (μ : Mem) : Option α → R α
  | some a => .ok a μ
  | none => .bad
inductive RS where
  | next (ρ : Fr) (μ : Mem)
  | ret (v : V) (μ : Mem)
  | exc (c : Nat) (ρ : Fr) (μ : Mem)
  | bad
noncomputable def R.thenS {α : Type} (ρ : Fr) : R α → (α → Mem → RS) → RS
  | .ok a μ, f => f a μ
  | .exc c μ, _ => .exc c ρ μ
  | .bad, _ => .bad

structure Cx where
  call : Nat → List V → Mem → R V
  fuel : Nat
noncomputable abbrev DE := Cx → Fr → Mem → R V
noncomputable abbrev DT := Cx → Fr → Mem → R Bool
noncomputable abbrev DL := Cx → Fr → Mem → R (List V)
noncomputable abbrev DS := Cx → Fr → Mem → RS

noncomputable def lim : Nat := 1000000

noncomputable def allD (f : V → Option PyData) : List V → Option (List PyData)
  | [] => some []
  | x :: r => match f x with
    | Option.none => Option.none
    | some d => (allD f r).map (d :: ·)
noncomputable def toD : Nat → Mem → V → Option PyData
  | _, _, .none => some .none
  | _, _, .bool b => some (.bool b)
  | _, _, .int i => some (.int i)
  | _, _, .str s => some (.str s)
  | n + 1, μ, .tup xs => (allD (toD n μ) xs).map .tuple
  | n + 1, μ, .ref a => match μ[a]? with
    | some (.list xs) => (allD (toD n μ) xs).map .list
    | _ => Option.none
  | _, _, _ => Option.none
noncomputable def deep : Nat := 50
noncomputable def eqV (μ : Mem) (a b : V) : Option Bool := match toD deep μ a, toD deep μ b with
  | some d, some e => some (PyData.eqv d e)
  | _, _ => Option.none
end
end Mine
end
section
set_option autoImplicit false
set_option tactic.hygienic false
set_option backward.eqns.nonrecursive false
namespace Mine
noncomputable section
open PySem

structure Pl where
  prog : Program
  w : World
  h₀ : Heap
  cls : Nat → Addr
noncomputable abbrev Pl.M (P : Pl) : Model := model P.prog P.w

noncomputable abbrev Bk := List Addr

mutual
inductive Rel (P : Pl) (β : Bk) (h : Heap) : V → Value → Prop
  | none : Rel P β h .none .none
  | bool (b) : Rel P β h (.bool b) (.bool b)
  | int (i t) : Rel P β h (.int i) (.int i t)
  | str {x t} : PyData.strOk x = true → x.length ≤ lim → Rel P β h (.str x) (.str x t)
  | tup {a vs n xs} : h.get? a = some ⟨.type "tuple", Option.none, .seq vs n, #[]⟩ → RelL P β h xs vs.toList → xs.length ≤ lim → Rel P β h (.tup xs) (.ref a)
  | ref {i a} : β[i]? = some a → Rel P β h (.ref i) (.ref a)
  | scr {a items ns} : P.h₀.IsList a items → items.size ≤ lim → RelL P β h (ns.map V.int) items.toList → Rel P β h (.scr ns) (.ref a)
inductive RelL (P : Pl) (β : Bk) (h : Heap) : List V → List Value → Prop
  | nil : RelL P β h [] []
  | cons {v vs x xs} : Rel P β h v x → RelL P β h vs xs → RelL P β h (v :: vs) (x :: xs)
end

section
variable {P : Pl} {β : Bk} {h : Heap} {x : Value}
theorem Rel.none' (r : Rel P β h .none x) : x = .none := by cases r; rfl
theorem Rel.bool' {b : Bool} (r : Rel P β h (.bool b) x) : x = .bool b := by cases r; rfl
theorem Rel.int' {i : Int} (r : Rel P β h (.int i) x) : ∃ t, x = .int i t := by cases r; exact ⟨_, rfl⟩
theorem Rel.str' {y : Str} (r : Rel P β h (.str y) x) : ∃ t, x = .str y t ∧ PyData.strOk y = true ∧ y.length ≤ lim := by cases r; exact ⟨_, rfl, by assumption, by assumption⟩
theorem Rel.ref' {i : Nat} (r : Rel P β h (.ref i) x) : ∃ a, x = .ref a ∧ β[i]? = some a := by cases r; exact ⟨_, rfl, by assumption⟩
theorem Rel.scr' {ns : List Int} (r : Rel P β h (.scr ns) x) : ∃ a items, x = .ref a ∧ P.h₀.IsList a items ∧ RelL P β h (ns.map V.int) items.toList := by cases r; exact ⟨_, _, rfl, by assumption, by assumption⟩
inductive TupAt (P : Pl) (β : Bk) (h : Heap) (xs : List V) (x : Value) : Prop
  | mk (a : Addr) (vs : Array Value) (n : Nat) (e : x = .ref a) (g : h.get? a = some ⟨.type "tuple", Option.none, .seq vs n, #[]⟩) (r : RelL P β h xs vs.toList) (l : xs.length ≤ lim)
theorem Rel.tup' {xs : List V} (r : Rel P β h (.tup xs) x) : TupAt P β h xs x := by cases r; exact ⟨_, _, _, rfl, by assumption, by assumption, by assumption⟩
end


structure InstO (P : Pl) (c : Nat) (dx : Addr) (o : Obj) : Prop where
  cls : o.cls = .ref (P.cls c)
  dict : o.dict = some dx
  no : ∀ k, o.data ≠ .cls k
noncomputable def FldRel (P : Pl) (β : Bk) (h : Heap) (fs : List (Str × V)) (m : Str → Option Value) : Prop :=
  (∀ x, fs.lookup x = none → m x = none) ∧ ∀ x v, fs.lookup x = some v → ∃ u, m x = some u ∧ Rel P β h v u
theorem FldRel.map {P : Pl} {β β' : Bk} {h h' : Heap} {fs : List (Str × V)} {m : Str → Option Value} (f : FldRel P β h fs m) (k : ∀ v u, Rel P β h v u → Rel P β' h' v u) : FldRel P β' h' fs m :=
  ⟨f.1, fun x v e => let ⟨u, e1, r⟩ := f.2 x v e; ⟨u, e1, k v u r⟩⟩

inductive ObjRel (P : Pl) (β : Bk) (h : Heap) : O → Addr → Prop
  | list {a vs n xs} : h.get? a = some ⟨.type "list", Option.none, .seq vs n, #[]⟩ → RelL P β h xs vs.toList → xs.length ≤ lim → ObjRel P β h (.list xs) a
  | inst {a c d dx o} : h.get? a = some o → InstO P c dx o → β[d]? = some dx → ObjRel P β h (.inst c d) a
  | ns {a fs m} : h.Ns1 a m → FldRel P β h fs m → ObjRel P β h (.ns fs) a
  | dic {a} : h.get? a = some ⟨.type "dict", Option.none, .dict #[] 0, #[]⟩ → ObjRel P β h .dic a

structure Inv (P : Pl) (β : Bk) (μ : Mem) (h : Heap) : Prop where
  len : β.length = μ.length
  nd : β.Nodup
  obj : ∀ (i : Nat) (o : O) (a : Addr), μ[i]? = some o → β[i]? = some a → ObjRel P β h o a
  base : ∀ (a : Addr) (o : Obj), P.h₀.get? a = some o → h.get? a = some o
  new : ∀ a ∈ β, P.h₀.get? a = none

noncomputable def Same (o o' : Obj) : Prop := o' = o ∨ ((∃ es n, o.data = .dict es n) ∧ ∃ sl, o' = { o with slots := sl })
noncomputable def Keep (β : Bk) (h h' : Heap) : Prop := ∀ a o, h.get? a = some o → a ∉ β → ∃ o', h'.get? a = some o' ∧ Same o o'

theorem Same.refl (o : Obj) : Same o o := .inl rfl
theorem Same.trans {a b c : Obj} (x : Same a b) (y : Same b c) : Same a c := by
  rcases x with rfl | ⟨hc, sl, rfl⟩
  · exact y
  · rcases y with rfl | ⟨_, sl', rfl⟩
    · exact .inr ⟨hc, sl, rfl⟩
    · exact .inr ⟨hc, sl', rfl⟩
theorem Same.data {a b : Obj} (x : Same a b) : b.data = a.data := by rcases x with rfl | ⟨_, _, rfl⟩ <;> rfl
theorem Same.eq {a b : Obj} (x : Same a b) (h : ∀ es n, a.data ≠ .dict es n) : b = a := by
  rcases x with rfl | ⟨⟨es, n, hc⟩, _⟩
  · rfl
  · exact absurd hc (h es n)
theorem Same.cls {a b : Obj} (x : Same a b) : b.cls = a.cls := by rcases x with rfl | ⟨_, _, rfl⟩ <;> rfl

theorem Keep.refl (β : Bk) (h : Heap) : Keep β h h := fun _ o e _ => ⟨o, e, .refl o⟩
theorem Keep.get {β : Bk} {h h' : Heap} (k : Keep β h h') {a : Addr} {o : Obj} (e : h.get? a = some o) (n : a ∉ β) (hc : ∀ es n, o.data ≠ .dict es n) : h'.get? a = some o := by
  obtain ⟨o', e', s⟩ := k a o e n
  rw [s.eq hc] at e'; exact e'
theorem Keep.of {β : Bk} {h h' : Heap} (k : ∀ a o, h.get? a = some o → h'.get? a = some o) : Keep β h h' := fun a o e _ => ⟨o, k a o e, .refl o⟩
theorem Keep.ns {β : Bk} {h h' : Heap} (k : Keep β h h') {L : Addr} {m} (n : h.Ns L m) (hL : L ∉ β) : h'.Ns L m := by
  obtain ⟨o, es, ep, e, d, r⟩ := n
  obtain ⟨o', e', s⟩ := k L o e hL
  exact ⟨o', es, ep, e', s.data.trans d, r⟩
theorem Keep.cell {β : Bk} {h h' : Heap} (k : Keep β h h') {c : Addr} {v} (n : h.IsCell c v) (hc : c ∉ β) : h'.IsCell c v := by
  obtain ⟨o, e, d⟩ := n
  obtain ⟨o', e', s⟩ := k c o e hc
  exact ⟨o', e', s.data.trans d⟩

structure Post (P : Pl) (β β' : Bk) (μ' : Mem) (s s' : Shared) : Prop where
  st : ∃ h' tk, s' = { s with heap := h', toks := tk }
  inv : Inv P β' μ' s'.heap
  pre : β <+: β'
  keep : Keep β s.heap s'.heap
  fresh : ∀ a ∈ β', a ∉ β → s.heap.get? a = none

theorem Post.refl {P : Pl} {β : Bk} {μ : Mem} {s : Shared} (I : Inv P β μ s.heap) : Post P β β μ s s :=
  ⟨⟨s.heap, s.toks, rfl⟩, I, List.prefix_refl _, .refl _ _, fun _ h n => absurd h n⟩

theorem Post.trans {P : Pl} {β β₁ β₂ : Bk} {μ₁ μ₂ : Mem} {s s₁ s₂ : Shared} (p : Post P β β₁ μ₁ s s₁) (q : Post P β₁ β₂ μ₂ s₁ s₂) : Post P β β₂ μ₂ s s₂ := by
  refine ⟨?_, q.inv, p.pre.trans q.pre, fun a o e n => ?_, fun a h n => ?_⟩
  · obtain ⟨h, t, rfl⟩ := p.st
    obtain ⟨h', t', rfl⟩ := q.st
    exact ⟨h', t', rfl⟩
  · obtain ⟨o₁, e₁, s₁⟩ := p.keep a o e n
    have n₁ : a ∉ β₁ := fun h => by rw [p.fresh a h n] at e; cases e
    obtain ⟨o₂, e₂, s₂⟩ := q.keep a o₁ e₁ n₁
    exact ⟨o₂, e₂, s₁.trans s₂⟩
  · by_cases h₁ : a ∈ β₁
    · exact p.fresh a h₁ n
    · cases e : s.heap.get? a with
      | none => rfl
      | some o =>
        obtain ⟨o₁, e₁, _⟩ := p.keep a o e n
        rw [q.fresh a h h₁] at e₁; cases e₁

theorem Post.toks {P : Pl} {β : Bk} {μ : Mem} {s : Shared} (I : Inv P β μ s.heap) (t : Nat) : Post P β β μ s { s with toks := t } :=
  ⟨⟨s.heap, t, rfl⟩, I, List.prefix_refl _, .refl _ _, fun _ h n => absurd h n⟩

section
variable {P : Pl} {β β' : Bk} {μ μ' : Mem} {h h' : Heap}

inductive LstAt (P : Pl) (β : Bk) (h : Heap) (xs : List V) (x : Value) : Prop
  | mk (a : Addr) (vs : Array Value) (n : Nat) (e : x = .ref a) (g : h.get? a = some ⟨.type "list", Option.none, .seq vs n, #[]⟩) (r : RelL P β h xs vs.toList) (l : xs.length ≤ lim)
theorem ObjRel.lst {xs : List V} {a : Addr} (r : ObjRel P β h (.list xs) a) : LstAt P β h xs (.ref a) := by
  cases r with
  | list e r l => exact ⟨_, _, _, rfl, e, r, l⟩
theorem Inv.lst {i : Nat} {xs : List V} {x : Value} (I : Inv P β μ h) (r : Rel P β h (.ref i) x) (hm : μ[i]? = some (.list xs)) : LstAt P β h xs x := by
  obtain ⟨a, rfl, e⟩ := r.ref'
  exact (I.obj i _ a hm e).lst
theorem ObjRel.at {o : O} {a : Addr} (r : ObjRel P β h o a) : ∃ ob, h.get? a = some ob ∧ ¬ (ob.cls = .type "tuple" ∧ ∃ vs n, ob.data = .seq vs n) := by
  cases r with
  | list e _ _ => exact ⟨_, e, by simp⟩
  | inst e q _ => exact ⟨_, e, by rw [q.cls]; rintro ⟨h, _⟩; cases h⟩
  | ns n _ =>
    obtain ⟨o, es, ep, e, d, _⟩ := n
    exact ⟨o, e, by rw [d]; rintro ⟨_, _, _, h⟩; cases h⟩
  | dic e => exact ⟨_, e, by rintro ⟨_, _, _, h⟩; cases h⟩

theorem Inv.there (I : Inv P β μ h) {a : Addr} (ha : a ∈ β) : ∃ ob, h.get? a = some ob ∧ ¬ (ob.cls = .type "tuple" ∧ ∃ vs n, ob.data = .seq vs n) := by
  obtain ⟨i, hi⟩ := List.getElem?_of_mem ha
  have hl : i < μ.length := by rw [← I.len]; exact (List.getElem?_eq_some_iff.mp hi).1
  exact (I.obj i μ[i] a (List.getElem?_eq_getElem hl) hi).at

theorem prefix_get {β β' : Bk} (p : β <+: β') {i : Nat} {a : Addr} (h : β[i]? = some a) : β'[i]? = some a := by
  obtain ⟨t, rfl⟩ := p
  rw [List.getElem?_append_left (List.getElem?_eq_some_iff.mp h).1]; exact h

mutual
theorem Rel.mono (I : Inv P β μ h) (p : β <+: β') (k : Keep β h h') (hf : ∀ a ∈ β', a ∉ β → h.get? a = none) : ∀ {v : V} {x : Value}, Rel P β h v x → Rel P β' h' v x
  | _, _, .none => .none
  | _, _, .bool b => .bool b
  | _, _, .int i t => .int i t
  | _, _, .str a b => .str a b
  | _, _, .tup e r l => .tup (k.get e (fun q => by
      obtain ⟨ob, e', n⟩ := I.there q
      rw [e] at e'; cases e'; exact n ⟨rfl, _, _, rfl⟩) (by simp)) (RelL.mono I p k hf r) l
  | _, _, .ref e => .ref (prefix_get p e)
  | _, _, .scr a b r => .scr a b (RelL.mono I p k hf r)
theorem RelL.mono (I : Inv P β μ h) (p : β <+: β') (k : Keep β h h') (hf : ∀ a ∈ β', a ∉ β → h.get? a = none) : ∀ {v : List V} {x : List Value}, RelL P β h v x → RelL P β' h' v x
  | _, _, .nil => .nil
  | _, _, .cons a b => .cons (Rel.mono I p k hf a) (RelL.mono I p k hf b)
end
end

theorem Rel.post {P : Pl} {β β' : Bk} {μ μ' : Mem} {s s' : Shared} (I : Inv P β μ s.heap) (p : Post P β β' μ' s s') {v : V} {x : Value} (r : Rel P β s.heap v x) : Rel P β' s'.heap v x :=
  r.mono I p.pre p.keep p.fresh
theorem RelL.post {P : Pl} {β β' : Bk} {μ μ' : Mem} {s s' : Shared} (I : Inv P β μ s.heap) (p : Post P β β' μ' s s') {v : List V} {x : List Value} (r : RelL P β s.heap v x) : RelL P β' s'.heap v x :=
  r.mono I p.pre p.keep p.fresh

structure PostS (P : Pl) (W : List Addr) (β β' : Bk) (μ' : Mem) (s s' : Shared) : Prop where
  st : ∃ h' tk, s' = { s with heap := h', toks := tk }
  inv : Inv P β' μ' s'.heap
  pre : β <+: β'
  keep : ∀ a o, s.heap.get? a = some o → a ∉ β → a ∉ W → ∃ o', s'.heap.get? a = some o' ∧ Same o o'
  fresh : ∀ a ∈ β', a ∉ β → s.heap.get? a = none ∧ a ∉ W
theorem Post.own {P : Pl} {W : List Addr} {β β' : Bk} {μ' : Mem} {s s' : Shared} (p : Post P β β' μ' s s') (hW : ∀ a ∈ W, s.heap.get? a ≠ none) : PostS P W β β' μ' s s' :=
  ⟨p.st, p.inv, p.pre, fun a o e n _ => p.keep a o e n, fun a h n => ⟨p.fresh a h n, fun w => hW a w (p.fresh a h n)⟩⟩
theorem PostS.trans {P : Pl} {W : List Addr} {β β₁ β₂ : Bk} {μ₁ μ₂ : Mem} {s s₁ s₂ : Shared} (p : PostS P W β β₁ μ₁ s s₁) (q : PostS P W β₁ β₂ μ₂ s₁ s₂) : PostS P W β β₂ μ₂ s s₂ := by
  refine ⟨?_, q.inv, p.pre.trans q.pre, fun a o e n w => ?_, fun a h n => ?_⟩
  · obtain ⟨h, t, rfl⟩ := p.st
    obtain ⟨h', t', rfl⟩ := q.st
    exact ⟨h', t', rfl⟩
  · obtain ⟨o₁, e₁, s₁⟩ := p.keep a o e n w
    have n₁ : a ∉ β₁ := fun h => by rw [(p.fresh a h n).1] at e; cases e
    obtain ⟨o₂, e₂, s₂⟩ := q.keep a o₁ e₁ n₁ w
    exact ⟨o₂, e₂, s₁.trans s₂⟩
  · by_cases h₁ : a ∈ β₁
    · exact p.fresh a h₁ n
    · obtain ⟨f1, f2⟩ := q.fresh a h h₁
      refine ⟨?_, f2⟩
      cases e : s.heap.get? a with
      | none => rfl
      | some o =>
        obtain ⟨o₁, e₁, _⟩ := p.keep a o e n f2
        rw [f1] at e₁; cases e₁
theorem PostS.notIn {P : Pl} {W : List Addr} {β β' : Bk} {μ' : Mem} {s s' : Shared} (p : PostS P W β β' μ' s s') {a : Addr} {o : Obj} (h : a ∉ β) (e : s.heap.get? a = some o) : a ∉ β' :=
  fun q => by rw [(p.fresh a q h).1] at e; cases e
noncomputable def OwnOk (W : List Addr) (h : Heap) : Prop := ∀ a ∈ W, ∀ o, h.get? a = some o → (∃ es n, o.data = .dict es n) ∨ (∃ v, o.data = .cell v) ∨ ((∃ vs, o.data = .fields vs) ∧ ∃ T, o.cls = .type T) ∨ (o.cls = .type "list" ∧ ∃ vs n, o.data = .seq vs n)
mutual
theorem Rel.monoS {P : Pl} {W : List Addr} {β β' : Bk} {μ μ' : Mem} {s s' : Shared} (I : Inv P β μ s.heap) (hW : OwnOk W s.heap) (p : PostS P W β β' μ' s s') : ∀ {v : V} {x : Value}, Rel P β s.heap v x → Rel P β' s'.heap v x
  | _, _, .none => .none
  | _, _, .bool b => .bool b
  | _, _, .int i t => .int i t
  | _, _, .str a b => .str a b
  | _, _, .tup (a := a) e r l => by
      obtain ⟨o', e', hs⟩ := p.keep a _ e (fun q => by
        obtain ⟨ob, e', n⟩ := I.there q
        rw [e] at e'; cases e'; exact n ⟨rfl, _, _, rfl⟩) fun q => by
        rcases hW a q _ e with ⟨_, _, h⟩ | ⟨_, h⟩ | ⟨⟨_, h⟩, _⟩ | ⟨h, _⟩ <;> simp at h
      rw [hs.eq (by simp)] at e'
      exact .tup e' (RelL.monoS I hW p r) l
  | _, _, .ref e => .ref (prefix_get p.pre e)
  | _, _, .scr a b r => .scr a b (RelL.monoS I hW p r)
theorem RelL.monoS {P : Pl} {W : List Addr} {β β' : Bk} {μ μ' : Mem} {s s' : Shared} (I : Inv P β μ s.heap) (hW : OwnOk W s.heap) (p : PostS P W β β' μ' s s') : ∀ {v : List V} {x : List Value}, RelL P β s.heap v x → RelL P β' s'.heap v x
  | _, _, .nil => .nil
  | _, _, .cons a b => .cons (Rel.monoS I hW p a) (RelL.monoS I hW p b)
end

mutual
theorem Rel.but {P : Pl} {β : Bk} {μ : Mem} {h h' : Heap} {W : Addr} (I : Inv P β μ h) (k : ∀ a o, h.get? a = some o → a ≠ W → h'.get? a = some o) (hWb : W ∉ β)
    (hW : ∀ o, h.get? W = some o → (∃ es n, o.data = .dict es n) ∨ ∃ v, o.data = .cell v) : ∀ {v : V} {x : Value}, Rel P β h v x → Rel P β h' v x
  | _, _, .none => .none
  | _, _, .bool b => .bool b
  | _, _, .int i t => .int i t
  | _, _, .str a b => .str a b
  | _, _, .tup (a := a) e r l => .tup (k a _ e fun q => by
      rcases hW _ (q ▸ e) with ⟨_, _, h⟩ | ⟨_, h⟩ <;> cases h) (RelL.but I k hWb hW r) l
  | _, _, .ref e => .ref e
  | _, _, .scr a b r => .scr a b (RelL.but I k hWb hW r)
theorem RelL.but {P : Pl} {β : Bk} {μ : Mem} {h h' : Heap} {W : Addr} (I : Inv P β μ h) (k : ∀ a o, h.get? a = some o → a ≠ W → h'.get? a = some o) (hWb : W ∉ β)
    (hW : ∀ o, h.get? W = some o → (∃ es n, o.data = .dict es n) ∨ ∃ v, o.data = .cell v) : ∀ {v : List V} {x : List Value}, RelL P β h v x → RelL P β h' v x
  | _, _, .nil => .nil
  | _, _, .cons a b => .cons (Rel.but I k hWb hW a) (RelL.but I k hWb hW b)
end
theorem ObjRel.but {P : Pl} {β : Bk} {μ : Mem} {h h' : Heap} {W : Addr} (I : Inv P β μ h) (k : ∀ a o, h.get? a = some o → a ≠ W → h'.get? a = some o) (hWb : W ∉ β)
    (hW : ∀ o, h.get? W = some o → (∃ es n, o.data = .dict es n) ∨ ∃ v, o.data = .cell v) {o : O} {a : Addr} (r : ObjRel P β h o a) (ha : a ≠ W) : ObjRel P β h' o a := by
  cases r with
  | list e r l => exact .list (k _ _ e ha) (r.but I k hWb hW) l
  | inst e q d => exact .inst (k _ _ e ha) q d
  | dic e => exact .dic (k _ _ e ha)
  | ns n f => exact .ns (n.at fun o e => k _ _ e ha) (f.map fun _ _ r => r.but I k hWb hW)

mutual
theorem Rel.keepBut {P : Pl} {β : Bk} {h h' : Heap} (k : ∀ a o, h.get? a = some o → (∀ vs, o.data ≠ .fields vs) ∨ (∃ C, o.cls = .ref C) → h'.get? a = some o) : ∀ {v : V} {x : Value}, Rel P β h v x → Rel P β h' v x
  | _, _, .none => .none
  | _, _, .bool b => .bool b
  | _, _, .int i t => .int i t
  | _, _, .str a b => .str a b
  | _, _, .tup e r l => .tup (k _ _ e (.inl fun _ q => by cases q)) (RelL.keepBut k r) l
  | _, _, .ref e => .ref e
  | _, _, .scr a b r => .scr a b (RelL.keepBut k r)
theorem RelL.keepBut {P : Pl} {β : Bk} {h h' : Heap} (k : ∀ a o, h.get? a = some o → (∀ vs, o.data ≠ .fields vs) ∨ (∃ C, o.cls = .ref C) → h'.get? a = some o) : ∀ {v : List V} {x : List Value}, RelL P β h v x → RelL P β h' v x
  | _, _, .nil => .nil
  | _, _, .cons a b => .cons (Rel.keepBut k a) (RelL.keepBut k b)
end

mutual
theorem Rel.keepF {P : Pl} {β : Bk} {h h' : Heap} (k : ∀ a o, h.get? a = some o → (o.cls = .type "tuple") ∨ (∃ vs, o.data = .fields vs) → h'.get? a = some o) : ∀ {v : V} {x : Value}, Rel P β h v x → Rel P β h' v x
  | _, _, .none => .none
  | _, _, .bool b => .bool b
  | _, _, .int i t => .int i t
  | _, _, .str a b => .str a b
  | _, _, .tup e r l => .tup (k _ _ e (.inl rfl)) (RelL.keepF k r) l
  | _, _, .ref e => .ref e
  | _, _, .scr a b r => .scr a b (RelL.keepF k r)
theorem RelL.keepF {P : Pl} {β : Bk} {h h' : Heap} (k : ∀ a o, h.get? a = some o → (o.cls = .type "tuple") ∨ (∃ vs, o.data = .fields vs) → h'.get? a = some o) : ∀ {v : List V} {x : List Value}, RelL P β h v x → RelL P β h' v x
  | _, _, .nil => .nil
  | _, _, .cons a b => .cons (Rel.keepF k a) (RelL.keepF k b)
end

theorem ObjRel.mono {P : Pl} {β β' : Bk} {μ : Mem} {h h' : Heap} (I : Inv P β μ h) (p : β <+: β') (k : Keep β h h') (hf : ∀ a ∈ β', a ∉ β → h.get? a = none) {o : O} {a : Addr} (r : ObjRel P β h o a) (ha : h'.get? a = h.get? a) : ObjRel P β' h' o a := by
  cases r with
  | list e r l => exact .list (ha.trans e) (r.mono I p k hf) l
  | inst e q d => exact .inst (ha.trans e) q (prefix_get p d)
  | dic e => exact .dic (ha.trans e)
  | ns n f => exact .ns (n.at fun o e => ha.trans e) (f.map fun _ _ r => r.mono I p k hf)
theorem Inv.keep {P : Pl} {β : Bk} {μ : Mem} {h h' : Heap} (I : Inv P β μ h) (k : Keep β h h') (ha : ∀ a o, h.get? a = some o → h'.get? a = some o) : Inv P β μ h' :=
  ⟨I.len, I.nd, fun i o a h1 h2 => by
    have r := I.obj i o a h1 h2
    obtain ⟨ob, e, _⟩ := r.at
    exact r.mono I (List.prefix_refl _) k (fun _ h n => absurd h n) (by rw [e]; exact ha a ob e), fun a o e => ha a o (I.base a o e), I.new⟩
theorem get_size (h : Heap) : h.get? h.objs.size = none := by
  cases e : h.get? h.objs.size with
  | none => rfl
  | some o => exact absurd (Heap.lt_size e) (Nat.lt_irrefl _)
theorem Inv.push {P : Pl} {β : Bk} {μ : Mem} {h : Heap} (I : Inv P β μ h) (ob : Obj) (o : O) (hr : ObjRel P (β ++ [h.objs.size]) (h.push ob) o h.objs.size) : Inv P (β ++ [h.objs.size]) (μ ++ [o]) (h.push ob) := by
  have lt : ∀ a ∈ β, a < h.objs.size := fun a ha => let ⟨_, e, _⟩ := I.there ha; Heap.lt_size e
  have hk : ∀ a o, h.get? a = some o → (h.push ob).get? a = some o := fun a o e => Heap.get?_push_of_some _ e
  have hs0 : h.get? h.objs.size = none := by
    cases e : h.get? h.objs.size with
    | none => rfl
    | some o => exact absurd (Heap.lt_size e) (Nat.lt_irrefl _)
  have hf : ∀ a ∈ β ++ [h.objs.size], a ∉ β → h.get? a = none := fun a ha hn => by
    rcases List.mem_append.mp ha with q | q
    · exact absurd q hn
    · rw [List.mem_singleton.mp q]; exact hs0
  refine ⟨by simp [I.len], ?_, fun i o' a h1 h2 => ?_, fun a o e => hk a o (I.base a o e), fun a ha => ?_⟩
  · rw [List.nodup_append]
    refine ⟨I.nd, by simp, fun a ha b hb e => ?_⟩
    rw [List.mem_singleton.mp hb] at e
    exact absurd (lt a ha) (by rw [e]; exact Nat.lt_irrefl _)
  · by_cases hi : i < μ.length
    · rw [List.getElem?_append_left hi] at h1
      rw [List.getElem?_append_left (by rw [I.len]; exact hi)] at h2
      have r := I.obj i o' a h1 h2
      obtain ⟨ob', e, _⟩ := r.at
      exact r.mono I (List.prefix_append _ _) (.of hk) hf (by rw [e]; exact hk a ob' e)
    · have hi' : i = μ.length := by
        have := (List.getElem?_eq_some_iff.mp h1).1
        simp at this; omega
      subst hi'
      rw [List.getElem?_append_right (Nat.le_refl _)] at h1
      rw [← I.len, List.getElem?_append_right (Nat.le_refl _)] at h2
      simp at h1 h2
      rw [← h1, ← h2]; exact hr
  · rcases List.mem_append.mp ha with q | q
    · exact I.new a q
    · rw [List.mem_singleton.mp q]
      cases e : P.h₀.get? h.objs.size with
      | none => rfl
      | some o => rw [I.base _ _ e] at hs0; cases hs0

theorem nodup_inj {α : Type} : ∀ {l : List α}, l.Nodup → ∀ {i j : Nat} (hi : i < l.length) (hj : j < l.length), l[i] = l[j] → i = j
  | _ :: _, _, 0, 0, _, _, _ => rfl
  | _ :: l, h, 0, j + 1, _, hj, e => by
    have := (List.nodup_cons.mp h).1
    simp at e
    exact absurd (e ▸ List.getElem_mem (by simpa using hj)) this
  | _ :: l, h, i + 1, 0, hi, _, e => by
    have := (List.nodup_cons.mp h).1
    simp at e
    exact absurd (e ▸ List.getElem_mem (by simpa using hi)) this
  | _ :: l, h, i + 1, j + 1, hi, hj, e => by
    simp at e
    rw [nodup_inj (List.nodup_cons.mp h).2 (by simpa using hi) (by simpa using hj) e]
theorem Inv.upd {P : Pl} {β : Bk} {μ : Mem} {h h' : Heap} (I : Inv P β μ h) {i : Nat} {a : Addr} {o : O} (ha : β[i]? = some a) (hs : Heap.SameBut a h h') (hr : ObjRel P β h' o a) : Inv P β (μ.set i o) h' := by
  have hk : Keep β h h' := fun b ob e hb => ⟨ob, (hs.2 b fun q => hb (q ▸ List.mem_of_getElem? ha)).trans e, .refl _⟩
  refine ⟨by simp [I.len], I.nd, fun j oj b h1 h2 => ?_, fun b ob e => (hs.2 b fun q => ?_).trans (I.base b ob e), I.new⟩
  · by_cases hj : j = i
    · subst hj
      rw [ha] at h2; injection h2 with h2; subst h2
      rw [List.getElem?_set] at h1
      split at h1
      · split at h1
        · injection h1 with h1; rw [← h1]; exact hr
        · cases h1
      · exact absurd rfl ‹_›
    · rw [List.getElem?_set_ne (Ne.symm hj)] at h1
      refine (I.obj j oj b h1 h2).mono I (List.prefix_refl _) hk (fun _ h n => absurd h n) (hs.2 b fun q => hj ?_)
      subst q
      have e1 := List.getElem?_eq_some_iff.mp ha
      have e2 := List.getElem?_eq_some_iff.mp h2
      obtain ⟨l1, q1⟩ := e1
      obtain ⟨l2, q2⟩ := e2
      exact nodup_inj I.nd l2 l1 (q2.trans q1.symm)
  · subst q
    rw [I.new b (List.mem_of_getElem? ha)] at e; cases e
theorem Post.upd {P : Pl} {β : Bk} {μ : Mem} {s : Shared} {h' : Heap} (I : Inv P β μ s.heap) {i : Nat} {a : Addr} {o : O} (t : Nat) (ha : β[i]? = some a) (hs : Heap.SameBut a s.heap h') (hr : ObjRel P β h' o a) :
    Post P β β (μ.set i o) s { s with heap := h', toks := t } :=
  ⟨⟨h', t, rfl⟩, I.upd ha hs hr, List.prefix_refl _, fun b ob e hb => ⟨ob, (hs.2 b fun q => hb (q ▸ List.mem_of_getElem? ha)).trans e, .refl _⟩, fun _ h n => absurd h n⟩
theorem Post.push {P : Pl} {β : Bk} {μ : Mem} {s : Shared} (I : Inv P β μ s.heap) (ob : Obj) (o : O) (t : Nat) (hr : ObjRel P (β ++ [s.heap.objs.size]) (s.heap.push ob) o s.heap.objs.size) :
    Post P β (β ++ [s.heap.objs.size]) (μ ++ [o]) s { s with heap := s.heap.push ob, toks := t } :=
  ⟨⟨_, t, rfl⟩, I.push ob o hr, List.prefix_append _ _, .of fun a o e => Heap.get?_push_of_some _ e, fun a ha hn => by
    rcases List.mem_append.mp ha with q | q
    · exact absurd q hn
    · rw [List.mem_singleton.mp q]; exact get_size _⟩
theorem Post.other {P : Pl} {β : Bk} {μ : Mem} {s : Shared} {h' : Heap} (I : Inv P β μ s.heap) (t : Nat) (ha : ∀ a o, s.heap.get? a = some o → h'.get? a = some o) : Post P β β μ s { s with heap := h', toks := t } :=
  ⟨⟨h', t, rfl⟩, I.keep (.of ha) ha, List.prefix_refl _, .of ha, fun _ h n => absurd h n⟩
theorem RelL.pushed {P : Pl} {β : Bk} {μ : Mem} {h : Heap} (I : Inv P β μ h) (ob : Obj) {vs : List V} {xs : List Value} (r : RelL P β h vs xs) : RelL P (β ++ [h.objs.size]) (h.push ob) vs xs :=
  r.mono I (List.prefix_append _ _) (.of fun a o e => Heap.get?_push_of_some _ e) fun a ha hn => by
    rcases List.mem_append.mp ha with q | q
    · exact absurd q hn
    · rw [List.mem_singleton.mp q]; exact get_size _

theorem RelL.length {P : Pl} {β : Bk} {h : Heap} : ∀ {vs : List V} {xs : List Value}, RelL P β h vs xs → vs.length = xs.length
  | _, _, .nil => rfl
  | _, _, .cons _ r => by simp [r.length]
theorem RelL.get {P : Pl} {β : Bk} {h : Heap} : ∀ {vs : List V} {xs : List Value}, RelL P β h vs xs → ∀ {i : Nat} {v : V}, vs[i]? = some v → ∃ x, xs[i]? = some x ∧ Rel P β h v x
  | _, _, .cons r _, 0, _, e => ⟨_, rfl, by cases e; exact r⟩
  | _, _, .cons _ r, i + 1, v, e => by
    obtain ⟨x, h1, h2⟩ := r.get (i := i) (v := v) (by simpa using e)
    exact ⟨x, by simpa using h1, h2⟩
theorem RelL.append {P : Pl} {β : Bk} {h : Heap} : ∀ {vs ws : List V} {xs ys : List Value}, RelL P β h vs xs → RelL P β h ws ys → RelL P β h (vs ++ ws) (xs ++ ys)
  | _, _, _, _, .nil, b => b
  | _, _, _, _, .cons r a, b => .cons r (a.append b)
theorem RelL.drop {P : Pl} {β : Bk} {h : Heap} : ∀ (n : Nat) {vs : List V} {xs : List Value}, RelL P β h vs xs → RelL P β h (vs.drop n) (xs.drop n)
  | 0, _, _, r => r
  | _ + 1, _, _, .nil => .nil
  | n + 1, _, _, .cons _ r => r.drop n
theorem RelL.take {P : Pl} {β : Bk} {h : Heap} : ∀ (n : Nat) {vs : List V} {xs : List Value}, RelL P β h vs xs → RelL P β h (vs.take n) (xs.take n)
  | 0, _, _, _ => .nil
  | _ + 1, _, _, .nil => .nil
  | n + 1, _, _, .cons a r => .cons a (r.take n)
theorem RelL.set {P : Pl} {β : Bk} {h : Heap} {v : V} {x : Value} (r₀ : Rel P β h v x) : ∀ (n : Nat) {vs : List V} {xs : List Value}, RelL P β h vs xs → RelL P β h (vs.set n v) (xs.set n x)
  | _, _, _, .nil => .nil
  | 0, _, _, .cons _ r => .cons r₀ r
  | n + 1, _, _, .cons a r => .cons a (r.set r₀ n)
end
end Mine
end
section
set_option autoImplicit false
set_option backward.eqns.nonrecursive false
namespace Mine
noncomputable section
open PySem

noncomputable def newL (μ : Mem) (xs : List V) : R V := if xs.length ≤ lim then .ok (.ref μ.length) (μ ++ [.list xs]) else .bad
noncomputable def newT (μ : Mem) (xs : List V) : R V := if xs.length ≤ lim then .ok (.tup xs) μ else .bad
noncomputable def newS (μ : Mem) (x : Str) : R V := if x.length ≤ lim then .ok (.str x) μ else .bad

noncomputable def dV (i : Nat) : DE := fun _ ρ μ => R.opt μ (ρ i)
noncomputable def dC (v : V) : DE := fun _ _ μ => .ok v μ
noncomputable def dBin (f : V → V → Mem → R V) (l r : DE) : DE := fun c ρ μ => (l c ρ μ).bind fun a μ => (r c ρ μ).bind fun b μ => f a b μ
noncomputable def dUn (f : V → Mem → R V) (l : DE) : DE := fun c ρ μ => (l c ρ μ).bind fun a μ => f a μ
noncomputable def dCmp (f : Mem → V → V → Option Bool) (l r : DE) : DE := fun c ρ μ => (l c ρ μ).bind fun a μ => (r c ρ μ).bind fun b μ => (R.opt μ (f μ a b)).bind fun t μ => .ok (.bool t) μ
noncomputable def tCmp (f : Mem → V → V → Option Bool) (l r : DE) : DT := fun c ρ μ => (l c ρ μ).bind fun a μ => (r c ρ μ).bind fun b μ => R.opt μ (f μ a b)
noncomputable def dCmp2 (f g : Mem → V → V → Option Bool) (l m r : DE) : DE := fun c ρ μ => (l c ρ μ).bind fun a μ => (m c ρ μ).bind fun b μ => (R.opt μ (f μ a b)).bind fun t μ =>
  if t then (r c ρ μ).bind fun x μ => (R.opt μ (g μ b x)).bind fun t μ => .ok (.bool t) μ else .ok (.bool false) μ
noncomputable def tCmp2 (f g : Mem → V → V → Option Bool) (l m r : DE) : DT := fun c ρ μ => (l c ρ μ).bind fun a μ => (m c ρ μ).bind fun b μ => (R.opt μ (f μ a b)).bind fun t μ =>
  if t then (r c ρ μ).bind fun x μ => R.opt μ (g μ b x) else .ok false μ

noncomputable def dNil : DL := fun _ _ μ => .ok [] μ
noncomputable def dCons (d : DE) (r : DL) : DL := fun c ρ μ => (d c ρ μ).bind fun v μ => (r c ρ μ).bind fun vs μ => .ok (v :: vs) μ
noncomputable def dTup (r : DL) : DE := fun c ρ μ => (r c ρ μ).bind fun vs μ => newT μ vs
noncomputable def dLst (r : DL) : DE := fun c ρ μ => (r c ρ μ).bind fun vs μ => newL μ vs

noncomputable def truth (_ : Mem) : V → Option Bool
  | .none => some false
  | .bool b => some b
  | .int i => some (i != 0)
  | _ => Option.none
noncomputable def tE (d : DE) : DT := fun c ρ μ => (d c ρ μ).bind fun v μ => R.opt μ (truth μ v)
noncomputable def tNot (t : DT) : DT := fun c ρ μ => (t c ρ μ).bind fun b μ => .ok (!b) μ
noncomputable def tAnd (t u : DT) : DT := fun c ρ μ => (t c ρ μ).bind fun b μ => if b then u c ρ μ else .ok false μ
noncomputable def tOr (t u : DT) : DT := fun c ρ μ => (t c ρ μ).bind fun b μ => if b then .ok true μ else u c ρ μ
noncomputable def tTrue : DT := fun _ _ μ => .ok true μ
noncomputable def tFalse : DT := fun _ _ μ => .ok false μ
noncomputable def dNot (d : DE) : DE := fun c ρ μ => (d c ρ μ).bind fun v μ => (R.opt μ (truth μ v)).bind fun b μ => .ok (.bool (!b)) μ
noncomputable def dAnd (d e : DE) : DE := fun c ρ μ => (d c ρ μ).bind fun v μ => (R.opt μ (truth μ v)).bind fun b μ => if b then e c ρ μ else .ok v μ
noncomputable def dOr (d e : DE) : DE := fun c ρ μ => (d c ρ μ).bind fun v μ => (R.opt μ (truth μ v)).bind fun b μ => if b then .ok v μ else e c ρ μ
noncomputable def dIf (t : DT) (d e : DE) : DE := fun c ρ μ => (t c ρ μ).bind fun b μ => if b then d c ρ μ else e c ρ μ

/- operators -/
noncomputable def small (i : Int) : Bool := decide (-9223372036854775808 ≤ i) && decide (i < 9223372036854775808)
noncomputable def opAdd : V → V → Mem → R V
  | .int a, .int b, μ => .ok (.int (a + b)) μ
  | .str a, .str b, μ => newS μ (a ++ b)
  | .tup a, .tup b, μ => newT μ (a ++ b)
  | .ref a, .ref b, μ => match μ[a]?, μ[b]? with
    | some (.list xs), some (.list ys) => newL μ (xs ++ ys)
    | _, _ => .bad
  | _, _, _ => .bad
noncomputable def opInt (f : Int → Int → R V) (a : V) : V → R V
  | .int j => match a with
    | .int i => f i j
    | _ => .bad
  | _ => .bad
noncomputable def opSub (a b : V) (μ : Mem) : R V := opInt (fun i j => .ok (.int (i - j)) μ) a b
noncomputable def opMul (a b : V) (μ : Mem) : R V := opInt (fun i j => if small i || small j then .ok (.int (i * j)) μ else .bad) a b
noncomputable def opDiv (a b : V) (μ : Mem) : R V := opInt (fun i j => if j = 0 ∨ 1073741824 ≤ j.natAbs then .bad else .ok (.int (i.fdiv j)) μ) a b
noncomputable def opMod (a b : V) (μ : Mem) : R V := opInt (fun i j => if j = 0 then .bad else .ok (.int (i.fmod j)) μ) a b
noncomputable def opNeg : V → Mem → R V
  | .int a, μ => .ok (.int (-a)) μ
  | _, _ => .bad
noncomputable def cInt (f : Int → Int → Bool) (a : V) : V → Option Bool
  | .int j => match a with
    | .int i => some (f i j)
    | _ => Option.none
  | _ => Option.none
noncomputable def cLt (_ : Mem) (a b : V) : Option Bool := cInt (fun i j => decide (i < j)) a b
noncomputable def cLe (_ : Mem) (a b : V) : Option Bool := cInt (fun i j => decide (i ≤ j)) a b
noncomputable def cGt (_ : Mem) (a b : V) : Option Bool := cInt (fun i j => decide (i > j)) a b
noncomputable def cGe (_ : Mem) (a b : V) : Option Bool := cInt (fun i j => decide (i ≥ j)) a b
noncomputable def cEq (μ : Mem) (a b : V) : Option Bool := eqV μ a b
noncomputable def cNe (μ : Mem) (a b : V) : Option Bool := (eqV μ a b).map (!·)
noncomputable def cIn (μ : Mem) (a : V) : V → Option Bool
  | .tup xs => match toD deep μ a, allD (toD deep μ) xs with
    | some d, some es => some (es.any fun y => PyData.eqv y d)
    | _, _ => Option.none
  | .ref l => match μ[l]? with
    | some (.list xs) => match toD deep μ a, allD (toD deep μ) xs with
      | some d, some es => some (es.any fun y => PyData.eqv y d)
      | _, _ => Option.none
    | _ => Option.none
  | _ => Option.none
noncomputable def cNotIn (μ : Mem) (a b : V) : Option Bool := (cIn μ a b).map (!·)

/- items and slices -/
noncomputable def at? (i : Int) (xs : List V) : Option V := if small i then (seqIndex? i xs.length).bind (xs[·]?) else Option.none
noncomputable def item (μ : Mem) (a : V) : V → R V
  | .int i => match a with
    | .tup xs => R.opt μ (at? i xs)
    | .ref l => match μ[l]? with
      | some (.list xs) => R.opt μ (at? i xs)
      | _ => .bad
    | .scr ns => R.opt μ (at? i (ns.map V.int))
    | .str x => if small i then R.opt μ (((seqIndex? i x.length).bind (x.cps[·]?)).map fun c => V.str ⟨#[c]⟩) else .bad
    | _ => .bad
  | _ => .bad
noncomputable def dIdx (a i : DE) : DE := fun c ρ μ => (a c ρ μ).bind fun v μ => (i c ρ μ).bind fun k μ => item μ v k
noncomputable def cut {α : Type} (lo hi : Option Int) (xs : List α) : List α :=
  (xs.drop (lo.elim 0 (clipAt xs.length))).take (hi.elim xs.length (clipAt xs.length) - lo.elim 0 (clipAt xs.length))
noncomputable def cutS (lo hi : Option Int) (x : Str) : Str := ⟨(cut lo hi x.cps.toList).toArray⟩
noncomputable def slc (μ : Mem) (lo hi : Option Int) : V → R V
  | .tup xs => newT μ (cut lo hi xs)
  | .ref l => match μ[l]? with
    | some (.list xs) => newL μ (cut lo hi xs)
    | _ => .bad
  | .str x => newS μ (cutS lo hi x)
  | _ => .bad
noncomputable abbrev DO := Cx → Fr → Mem → R (Option Int)
noncomputable def oNone : DO := fun _ _ μ => .ok Option.none μ
noncomputable def oSome (d : DE) : DO := fun c ρ μ => (d c ρ μ).bind fun v μ => match v with
  | .int i => .ok (some i) μ
  | _ => .bad
noncomputable def dSlc (a : DE) (lo hi : DO) : DE := fun c ρ μ => (a c ρ μ).bind fun v μ => (lo c ρ μ).bind fun l μ => (hi c ρ μ).bind fun h μ => slc μ l h v

noncomputable def dCall (f : Nat) (args : DL) : DE := fun c ρ μ => (args c ρ μ).bind fun vs μ => c.call f vs μ
noncomputable def dB1 (f : Mem → V → R V) (d : DE) : DE := fun c ρ μ => (d c ρ μ).bind fun v μ => f μ v
noncomputable def dB2 (f : Mem → V → V → R V) (d e : DE) : DE := fun c ρ μ => (d c ρ μ).bind fun v μ => (e c ρ μ).bind fun u μ => f μ v u
noncomputable def bLen (μ : Mem) : V → R V
  | .tup xs => .ok (.int xs.length) μ
  | .str x => .ok (.int x.length) μ
  | .scr ns => .ok (.int ns.length) μ
  | .ref a => match μ[a]? with
    | some (.list xs) => .ok (.int xs.length) μ
    | _ => .bad
  | _ => .bad

/- statements -/
noncomputable def sNil : DS := fun _ ρ μ => .next ρ μ
noncomputable def sSeq (a b : DS) : DS := fun c ρ μ => match a c ρ μ with
  | .next ρ μ => b c ρ μ
  | .ret v μ => .ret v μ
  | .exc x ρ μ => .exc x ρ μ
  | .bad => .bad
noncomputable def sSet (i : Nat) (d : DE) : DS := fun c ρ μ => (d c ρ μ).thenS ρ fun v μ => .next (ρ.set i v) μ
noncomputable def sIf (t : DT) (a b : DS) : DS := fun c ρ μ => (t c ρ μ).thenS ρ fun q μ => if q then a c ρ μ else b c ρ μ
noncomputable def sRet (d : DE) : DS := fun c ρ μ => (d c ρ μ).thenS ρ fun v μ => .ret v μ
noncomputable def sRetN : DS := fun _ _ μ => .ret .none μ
noncomputable def sExpr (d : DE) : DS := fun c ρ μ => (d c ρ μ).thenS ρ fun _ μ => .next ρ μ

/- loops -/
structure It where
  items : List V
  chk : Mem → Bool
noncomputable abbrev DI := Cx → Fr → Mem → R It
noncomputable abbrev Bd := V → Fr → Option Fr
noncomputable def bd1 (i : Nat) : Bd := fun v ρ => some (ρ.set i v)
noncomputable def bd2 (i j : Nat) : Bd := fun v ρ => match v with
  | .tup [a, b] => some ((ρ.set i a).set j b)
  | _ => none
noncomputable def cb1 (i : Nat) : Bd := fun v ρ => match ρ i with
  | none => some (ρ.set i v)
  | some _ => none
noncomputable def cb2 (i j : Nat) : Bd := fun v ρ => match ρ i, ρ j, v with
  | none, none, .tup [a, b] => some ((ρ.set i a).set j b)
  | _, _, _ => none
noncomputable def forS (chk : Mem → Bool) (bd : Bd) (body : DS) (c : Cx) : List V → Fr → Mem → RS
  | [], ρ, μ => if chk μ then .next ρ μ else .bad
  | v :: r, ρ, μ => if chk μ then match bd v ρ with
      | none => .bad
      | some ρ' => match body c ρ' μ with
        | .next ρ'' μ' => forS chk bd body c r ρ'' μ'
        | .ret v μ' => .ret v μ'
        | .exc x ρ'' μ' => .exc x ρ'' μ'
        | .bad => .bad
    else .bad
noncomputable def sFor (it : DI) (bd : Bd) (body : DS) : DS := fun c ρ μ => (it c ρ μ).thenS ρ fun t μ => forS t.chk bd body c t.items ρ μ
noncomputable def R.quiet {α β : Type} : R α → (α → Mem → R β) → R β
  | .ok a μ, f => f a μ
  | _, _ => .bad
noncomputable def compS (chk : Mem → Bool) (bd : Bd) (cond : DT) (elt : DE) (c : Cx) (ρ : Fr) : List V → Mem → List V → R (List V)
  | [], μ, acc => if chk μ then .ok acc μ else .bad
  | v :: r, μ, acc => if chk μ then match bd v ρ with
      | none => .bad
      | some ρ' => (cond c ρ' μ).quiet fun t μ => if t then (elt c ρ' μ).quiet fun x μ => if acc.length < lim then compS chk bd cond elt c ρ r μ (acc ++ [x]) else .bad
        else compS chk bd cond elt c ρ r μ acc
    else .bad
noncomputable def dComp (locs : List Nat) (it : DI) (bd : Bd) (cond : DT) (elt : DE) : DE := fun c ρ μ => (it c ρ μ).bind fun t μ => if locs.all (fun i => (ρ i).isNone) then (compS t.chk bd cond elt c ρ t.items μ []).bind fun xs μ => newL μ xs else .bad
noncomputable def iSeq (d : DE) : DI := fun c ρ μ => (d c ρ μ).bind fun v μ => match v with
  | .tup xs => .ok ⟨xs, fun _ => true⟩ μ
  | .ref a => match μ[a]? with
    | some (.list xs) => .ok ⟨xs, fun μ => decide (μ[a]? = some (.list xs))⟩ μ
    | _ => .bad
  | _ => .bad
noncomputable def tiny (i : Int) : Bool := decide (-1073741824 ≤ i) && decide (i < 1073741824)
noncomputable def rangeL (a b c : Int) : List V := (List.range (Builtin.Range.rangeSize a b c).toNat).map fun k => V.int (a + (k : Nat) * c)
noncomputable def rangeOf (μ : Mem) (a b : Int) : R It := if tiny a && tiny b then .ok ⟨rangeL a b 1, fun _ => true⟩ μ else .bad
noncomputable def range1V (μ : Mem) : V → R It
  | .int n => rangeOf μ 0 n
  | _ => .bad
noncomputable def range2V (μ : Mem) (a : V) : V → R It
  | .int j => match a with
    | .int i => rangeOf μ i j
    | _ => .bad
  | _ => .bad
noncomputable def rangeArgs (μ : Mem) : List V → R It
  | [a] => range1V μ a
  | [a, b] => range2V μ a b
  | _ => .bad
noncomputable def iRange (ds : DL) : DI := fun c ρ μ => (ds c ρ μ).bind fun vs μ => rangeArgs μ vs
end
end Mine
end
section
set_option autoImplicit false
set_option tactic.hygienic false
set_option backward.eqns.nonrecursive false
namespace Mine
noncomputable section
open PySem

structure Fn where
  np : Nat
  body : DS

noncomputable def callF (Φ : Nat → Option Fn) (fuel : Nat) : Nat → Nat → List V → Mem → R V
  | 0, _, _, _ => .bad
  | n + 1, f, args, μ => match Φ f with
    | none => .bad
    | some F => if args.length = F.np then
        match F.body ⟨callF Φ fuel n, fuel⟩ (fun i => args[i]?) μ with
        | .next _ μ' => .ok .none μ'
        | .ret v μ' => .ok v μ'
        | .exc c _ μ' => .exc c μ'
        | .bad => .bad
      else .bad

structure Pg extends Pl where
  Φ : Nat → Option Fn
  fuel : Nat
  fnA : Nat → Addr
  fd : Nat → FuncData
  gl : Nat → Bool
  mg : Str → Option Value
  mb : Str → Option Value
noncomputable def Pg.call (P : Pg) (n : Nat) : Nat → List V → Mem → R V := callF P.Φ P.fuel n
noncomputable def Pg.cx (P : Pg) (n : Nat) : Cx := ⟨P.call n, P.fuel⟩

noncomputable def bnames : List Str := ["len", "isinstance", "list", "tuple", "str", "int", "bool", "range", "zip", "enumerate", "any", "all", "max", "sorted", "dict", "set", "ValueError"]

structure Good (P : Pg) : Prop where
  g : P.h₀.Ns mainGlobals P.mg
  b : P.h₀.Ns builtinsNs P.mb
  nolimit : P.h₀.NoLimit
  fn : ∀ f F, P.Φ f = some F → ∃ o, P.h₀.get? (P.fnA f) = some o ∧ o.data = .func (P.fd f) ∧ (P.gl f = true → P.mg (P.fd f).name = some (.ref (P.fnA f))) ∧ P.h₀.CodeRec (P.fd f).code (P.fd f).qualname ∧
    (P.fd f).closure = [] ∧ (P.fd f).globals = mainGlobals ∧ (P.fd f).builtins = builtinsNs
  blt : ∀ x ∈ bnames, P.mg x = none ∧ P.mb x = bootBuiltins x

structure Blk where
  sc : Scope
  tab : List (Option (Str × NameKind))
noncomputable def Blk.ok (B : Blk) : Bool := B.sc.kind == .function && (B.tab.all fun
    | some (x, k) => B.sc.names.lookup x == some k && (k == .local || k == .cell || k == .free) && !(x == ("__debug__" : Str)) && !(x == ("__classdict__" : Str))
    | none => true) && decide ((B.tab.filterMap (·.map (·.1))).Nodup)

inductive FrameAt (P : Pg) (β : Bk) (h : Heap) (e : Env) : Prop
  | mk (k : e.scope.kind ≠ .module) (L : Addr) (o : Obj) (f : e.frame = some L) (n : L ∉ β) (b : P.h₀.get? L = none) (g : h.get? L = some o) (es : Array DictEntry) (m : Nat) (d : o.data = .dict es m)
noncomputable def Frames (P : Pg) (β : Bk) (h : Heap) (l : List Env) : Prop := ∀ e ∈ l, FrameAt P β h e

inductive Bd1 (P : Pl) (β : Bk) (h : Heap) (v : V) (o : Option Value) : Prop
  | mk (u : Value) (e : o = some u) (r : Rel P β h v u)
inductive NsOk (P : Pg) (B : Blk) (env : Env) (β : Bk) (ρ : Fr) (h : Heap) : Prop
  | mk (m : Str → Option Value) (n : h.Ns env.locals m) (b : ∀ i x v, B.tab[i]? = some (some (x, .local)) → ρ i = some v → Bd1 P.toPl β h v (m x))
inductive CellAt (P : Pg) (env : Env) (β : Bk) (ρ : Fr) (h : Heap) (i : Nat) (x : Str) : Prop
  | mk (c : Addr) (u : Option Value) (l : env.cells.lookup x = some c) (n : c ∉ β) (b : P.h₀.get? c = none) (g : h.IsCell c u) (r : ∀ v, ρ i = some v → Bd1 P.toPl β h v u)
inductive FrOk (P : Pg) (A : Around) (env : Env) (β : Bk) (h : Heap) : Prop
  | mk (fe : Env) (outer : List Env) (a : A.frames = some (fe :: outer)) (e : fe.frame = env.frame) (f : Frames P β h (fe :: outer))
inductive OwnAt (P : Pg) (β : Bk) (h : Heap) (a : Addr) : Prop
  | mk (n : a ∉ β) (b : P.h₀.get? a = none) (o : Obj) (g : h.get? a = some o) (d : (∃ es n, o.data = .dict es n) ∨ ∃ v, o.data = .cell v)

noncomputable def own (env : Env) : List Addr := env.locals :: env.cells.map (·.2)
structure EnvOk (P : Pg) (B : Blk) (A : Around) (env : Env) (β : Bk) (ρ : Fr) (h : Heap) : Prop where
  ok : B.ok = true
  sc : env.scope = B.sc
  glob : env.globals = mainGlobals
  blt : env.builtins = builtinsNs
  ns : NsOk P B env β ρ h
  loc : env.locals ∉ β ∧ P.h₀.get? env.locals = none
  cell : ∀ i x k, B.tab[i]? = some (some (x, k)) → k = .cell ∨ k = .free → CellAt P env β ρ h i x
  apart : ∀ x y c, env.cells.lookup x = some c → env.cells.lookup y = some c → x = y
  fr : FrOk P A env β h
  own : ∀ a ∈ own env, OwnAt P β h a

noncomputable def Room (A : Around) (n : Nat) : Prop := A.depth + 2 * n + 10 < recursionLimit ∧ A.units + 20 * n + 200 < cLine ∧ A.handled = none

noncomputable def RoomC (A : Around) (n : Nat) : Prop := A.depth + 2 * n + 9 < recursionLimit ∧ A.units + 20 * n + 190 < cLine ∧ A.handled = none
theorem Room.c {A : Around} {n : Nat} (h : Room A n) : RoomC A n := ⟨by have := h.1; omega, by have := h.2.1; omega, h.2.2⟩
inductive FlyT (P : Pl) (β : Bk) (L : Option Addr) (h₁ h : Heap) (a : Addr) (vs : Array Value) : Prop
  | mk (T : Addr) (oT : Obj) (ts : Array Value) (k1 : vs[1]? = some (.ref T)) (k2 : h₁.get? T = none) (k3 : T ≠ a) (k4 : T ∉ β) (k5 : P.h₀.get? T = none) (k6 : h.get? T = some oT) (k7 : oT.data = .fields ts) (k8 : ts[3]? = some .none ∨ ∃ l, L = some l ∧ ts[3]? = some (rawInt l))
inductive Fly (P : Pl) (β : Bk) (L : Option Addr) (h₁ h : Heap) (x : Value) (c : Nat) : Prop
  | mk (a : Addr) (oe : Obj) (vs : Array Value) (e : x = .ref a) (k1 : h₁.get? a = none) (k2 : h.get? a = some oe) (k3 : oe.cls = .ref (P.cls c) ∧ oe.dict = none) (k4 : oe.data = .fields vs) (k5 : a ∉ β) (k6 : P.h₀.get? a = none) (k7 : vs[1]? = some .none ∨ FlyT P β L h₁ h a vs)
theorem Fly.lower {P : Pl} {β : Bk} {L : Option Addr} {h₁ h₂ : Heap} {h : Heap} {x : Value} {c : Nat} (f : Fly P β L h₁ h x c) (hl : ∀ a, h₁.get? a = none → h₂.get? a = none) : Fly P β L h₂ h x c := by
  obtain ⟨a, oe, vs, h0, h1, h2, h3, h4, h5, h6, h7⟩ := f
  refine ⟨a, oe, vs, h0, hl _ h1, h2, h3, h4, h5, h6, ?_⟩
  rcases h7 with h7 | ⟨T, oT, ts, k1, k2, k3, k4, k5, k6, k7, k8⟩
  · exact .inl h7
  · exact .inr ⟨T, oT, ts, k1, hl _ k2, k3, k4, k5, k6, k7, k8⟩
theorem Fly.up {P : Pl} {β : Bk} {L : Option Addr} {h₁ h : Heap} {x : Value} {c : Nat} (f : Fly P β none h₁ h x c) : Fly P β L h₁ h x c := by
  obtain ⟨a, oe, vs, h0, h1, h2, h3, h4, h5, h6, h7⟩ := f
  refine ⟨a, oe, vs, h0, h1, h2, h3, h4, h5, h6, ?_⟩
  rcases h7 with h7 | ⟨T, oT, ts, k1, k2, k3, k4, k5, k6, k7, k8⟩
  · exact .inl h7
  · rcases k8 with k8 | ⟨l, hl, _⟩
    · exact .inr ⟨T, oT, ts, k1, k2, k3, k4, k5, k6, k7, .inl k8⟩
    · cases hl
theorem Post.back {P : Pl} {β β' : Bk} {μ' : Mem} {s s' : Shared} (p : Post P β β' μ' s s') {a : Addr} (h : s'.heap.get? a = none) : s.heap.get? a = none := by
  cases e : s.heap.get? a with
  | none => rfl
  | some o =>
    by_cases q : a ∈ β
    · obtain ⟨ob, e', _⟩ := p.inv.there (p.pre.subset q)
      rw [h] at e'; cases e'
    · obtain ⟨o', e', _⟩ := p.keep a o e q
      rw [h] at e'; cases e'
theorem PostS.back {P : Pl} {W : List Addr} {β β' : Bk} {μ' : Mem} {s s' : Shared} (p : PostS P W β β' μ' s s') (hW : ∀ a ∈ W, s'.heap.get? a ≠ none) {a : Addr} (h : s'.heap.get? a = none) : s.heap.get? a = none := by
  cases e : s.heap.get? a with
  | none => rfl
  | some o =>
    by_cases q : a ∈ β
    · obtain ⟨ob, e', _⟩ := p.inv.there (p.pre.subset q)
      rw [h] at e'; cases e'
    · by_cases w : a ∈ W
      · exact absurd h (hW a w)
      · obtain ⟨o', e', _⟩ := p.keep a o e q w
        rw [h] at e'; cases e'

inductive OkE (P : Pl) (β : Bk) (s : Shared) (r : R V) (x : Value) (s' : Shared) : Prop
  | mk (v : V) (μ' : Mem) (β' : Bk) (e : r = .ok v μ') (p : Post P β β' μ' s s') (k : Rel P β' s'.heap v x)
inductive ExE {α : Type} (P : Pl) (L : Option Addr) (β : Bk) (s : Shared) (r : R α) (x : Value) (s' : Shared) : Prop
  | mk (c : Nat) (μ' : Mem) (β' : Bk) (e : r = .exc c μ') (p : Post P β β' μ' s s') (k : Fly P β' L s.heap s'.heap x c)
inductive OkT (P : Pl) (β : Bk) (s : Shared) (r : R Bool) (x : Bool) (s' : Shared) : Prop
  | mk (μ' : Mem) (β' : Bk) (e : r = .ok x μ') (p : Post P β β' μ' s s')
inductive OkL (P : Pl) (β : Bk) (s : Shared) (r : R (List V)) (x : List Value) (s' : Shared) : Prop
  | mk (v : List V) (μ' : Mem) (β' : Bk) (e : r = .ok v μ') (p : Post P β β' μ' s s') (k : RelL P β' s'.heap v x)

noncomputable def CallOk (P : Pg) (n : Nat) : Prop :=
  ∀ f A args vals β μ s, RoomC A n → (∃ l, A.frames = some l ∧ Frames P β s.heap l) → Inv P.toPl β μ s.heap → RelL P.toPl β s.heap args vals → P.call n f args μ ≠ .bad →
    codeAny P.M A (.call (.ref (P.fnA f)) ⟨vals, []⟩) (fun r s' => match r with
      | .ok (.ret x) => OkE P.toPl β s (P.call n f args μ) x s'
      | .ok _ => False
      | .error x => ExE P.toPl none β s (P.call n f args μ) x s') s

structure At (P : Pg) (B : Blk) (n : Nat) (A : Around) (env : Env) (β : Bk) (ρ : Fr) (μ : Mem) (s : Shared) : Prop where
  good : Good P
  call : ∀ k, k ≤ n → CallOk P k
  room : Room A n
  env : EnvOk P B A env β ρ s.heap
  inv : Inv P.toPl β μ s.heap

noncomputable def SimE (P : Pg) (B : Blk) (e : Expr) (d : DE) : Prop :=
  ∀ n A env β ρ μ s, At P B n A env β ρ μ s → d (P.cx n) ρ μ ≠ .bad →
    wpAny P.M A (eval e env) (OkE P.toPl β s (d (P.cx n) ρ μ)) (ExE P.toPl env.frame β s (d (P.cx n) ρ μ)) s
noncomputable def SimT (P : Pg) (B : Blk) (e : Expr) (d : DT) : Prop :=
  ∀ n A env β ρ μ s, At P B n A env β ρ μ s → d (P.cx n) ρ μ ≠ .bad →
    wpAny P.M A (isTrue e env (eval e env)) (OkT P.toPl β s (d (P.cx n) ρ μ)) (ExE P.toPl env.frame β s (d (P.cx n) ρ μ)) s
noncomputable def SimL (P : Pg) (B : Blk) (es : List Expr) (d : DL) : Prop :=
  ∀ n A env β ρ μ s pos, At P B n A env β ρ μ s → d (P.cx n) ρ μ ≠ .bad →
    wpAny P.M A (spliced (backTo pos (starEach es env))) (OkL P.toPl β s (d (P.cx n) ρ μ)) (ExE P.toPl env.frame β s (d (P.cx n) ρ μ)) s

section
variable {P : Pg} {β β' : Bk} {μ μ' : Mem} {s s' : Shared} {B : Blk} {n : Nat} {A : Around} {env : Env} {ρ : Fr}

theorem Post.notIn {P : Pl} {β β' : Bk} {μ' : Mem} {s s' : Shared} (p : Post P β β' μ' s s') {a : Addr} {o : Obj} (h : a ∉ β) (e : s.heap.get? a = some o) : a ∉ β' :=
  fun q => by rw [p.fresh a q h] at e; cases e

theorem Frames.post {l : List Env} (f : Frames P β s.heap l) (p : Post P.toPl β β' μ' s s') : Frames P β' s'.heap l := fun e he => by
  obtain ⟨k, L, o, hf, hn, hb, ho, es, m, hd⟩ := f e he
  obtain ⟨o', ho', hs⟩ := p.keep L o ho hn
  exact ⟨k, L, o', hf, p.notIn hn ho, hb, ho', es, m, hs.data.trans hd⟩

theorem EnvOk.live {h : Heap} (x : EnvOk P B A env β ρ h) : ∀ a ∈ Mine.own env, h.get? a ≠ none := fun a ha q => by
  obtain ⟨_, _, o, e, _⟩ := x.own a ha
  rw [q] at e; cases e
theorem EnvOk.post (x : EnvOk P B A env β ρ s.heap) (I : Inv P.toPl β μ s.heap) (p : Post P.toPl β β' μ' s s') : EnvOk P B A env β' ρ s'.heap where
  ok := x.ok
  sc := x.sc
  glob := x.glob
  blt := x.blt
  ns := by
    obtain ⟨m, hn, hm⟩ := x.ns
    refine ⟨m, p.keep.ns hn x.loc.1, fun i y v ht hv => ?_⟩
    obtain ⟨u, h1, h2⟩ := hm i y v ht hv
    exact ⟨u, h1, h2.post I p⟩
  loc := by
    obtain ⟨m, ⟨o, _, _, e, _⟩, _⟩ := x.ns
    exact ⟨p.notIn x.loc.1 e, x.loc.2⟩
  cell := fun i y k ht hk => by
    obtain ⟨c, u, h1, h2, h3, h4, h5⟩ := x.cell i y k ht hk
    obtain ⟨oc, e, _⟩ := id h4
    refine ⟨c, u, h1, p.notIn h2 e, h3, p.keep.cell h4 h2, fun v hv => ?_⟩
    obtain ⟨z, e1, e2⟩ := h5 v hv
    exact ⟨z, e1, e2.post I p⟩
  apart := x.apart
  fr := by
    obtain ⟨fe, outer, h1, h2, h3⟩ := x.fr
    exact ⟨fe, outer, h1, h2, h3.post p⟩
  own := fun a ha => by
    obtain ⟨h1, h2, o, h3, h4⟩ := x.own a ha
    obtain ⟨o', e, hs⟩ := p.keep a o h3 h1
    exact ⟨p.notIn h1 h3, h2, o', e, by rw [hs.data]; exact h4⟩

theorem At.post (x : At P B n A env β ρ μ s) (p : Post P.toPl β β' μ' s s') : At P B n A env β' ρ μ' s' :=
  ⟨x.good, x.call, x.room, x.env.post x.inv p, p.inv⟩

theorem At.units (x : At P B n A env β ρ μ s) : A.units + 200 < cLine := by have := x.room.2.1; omega
theorem At.depth (x : At P B n A env β ρ μ s) : A.depth < recursionLimit := by have := x.room.1; omega

theorem useE {γ : Type} {e : Expr} {d : DE} {f : V → Mem → R γ} {Q : Value → Shared → Prop} {E : Value → Shared → Prop} (h : SimE P B e d) (x : At P B n A env β ρ μ s) (hb : (d (P.cx n) ρ μ).bind f ≠ .bad)
    (ok : ∀ v μ₁ β₁ u s₁, d (P.cx n) ρ μ = .ok v μ₁ → Post P.toPl β β₁ μ₁ s s₁ → Rel P.toPl β₁ s₁.heap v u → f v μ₁ ≠ .bad → At P B n A env β₁ ρ μ₁ s₁ → Q u s₁)
    (ex : ∀ u s₁, ExE P.toPl env.frame β s ((d (P.cx n) ρ μ).bind f) u s₁ → E u s₁) : wpAny P.M A (eval e env) Q E s := by
  refine wpAny_mono (h n A env β ρ μ s x (fun q => hb (by rw [q]; rfl))) (fun u s₁ q => ?_) fun u s₁ q => ?_
  · obtain ⟨v, μ₁, β₁, e1, p, r⟩ := q
    exact ok v μ₁ β₁ u s₁ e1 p r (by rw [e1] at hb; exact hb) (x.post p)
  · obtain ⟨c, μ₁, β₁, e1, p, r⟩ := q
    exact ex u s₁ ⟨c, μ₁, β₁, by rw [e1]; rfl, p, r⟩

inductive OkN (P : Pg) (B : Blk) (A : Around) (env : Env) (W : List Addr) (β : Bk) (s : Shared) (r : RS) (fl : Flow) (s' : Shared) : Prop
  | mk (ρ' : Fr) (μ' : Mem) (β' : Bk) (e : r = .next ρ' μ') (f : fl = .next) (p : PostS P.toPl W β β' μ' s s') (k : EnvOk P B A env β' ρ' s'.heap)
inductive OkR (P : Pg) (B : Blk) (A : Around) (env : Env) (W : List Addr) (β : Bk) (s : Shared) (r : RS) (fl : Flow) (s' : Shared) : Prop
  | mk (v : V) (x : Value) (μ' : Mem) (β' : Bk) (e : r = .ret v μ') (f : fl = .ret x) (p : PostS P.toPl W β β' μ' s s') (q : Rel P.toPl β' s'.heap v x) (k : EnvOk P B A env β' (fun _ => none) s'.heap)
noncomputable def OkS (P : Pg) (B : Blk) (A : Around) (env : Env) (β : Bk) (s : Shared) (r : RS) (fl : Flow) (s' : Shared) : Prop := OkN P B A env (own env) β s r fl s' ∨ OkR P B A env (own env) β s r fl s'
inductive ExS (P : Pg) (B : Blk) (A : Around) (env : Env) (β : Bk) (s : Shared) (r : RS) (x : Value) (s' : Shared) : Prop
  | mk (c : Nat) (ρ' : Fr) (μ' : Mem) (β' : Bk) (e : r = .exc c ρ' μ') (p : PostS P.toPl (own env) β β' μ' s s') (f : Fly P.toPl β' env.frame s.heap s'.heap x c) (k : EnvOk P B A env β' ρ' s'.heap)
noncomputable def SimS (P : Pg) (B : Blk) (ss : List Stmt) (d : DS) : Prop :=
  ∀ n A env β ρ μ s, At P B n A env β ρ μ s → d (P.cx n) ρ μ ≠ .bad →
    wpAny P.M A (execs ss env) (OkS P B A env β s (d (P.cx n) ρ μ)) (ExS P B A env β s (d (P.cx n) ρ μ)) s
noncomputable def SimX (P : Pg) (B : Blk) (st : Stmt) (d : DS) : Prop :=
  ∀ n A env β ρ μ s, At P B n A env β ρ μ s → d (P.cx n) ρ μ ≠ .bad →
    wpAny P.M A (exec st env) (OkS P B A env β s (d (P.cx n) ρ μ)) (ExS P B A env β s (d (P.cx n) ρ μ)) s

theorem OkS.after {β₁ : Bk} {μ₁ : Mem} {s₁ : Shared} {r : RS} {fl : Flow} (p : PostS P.toPl (own env) β β₁ μ₁ s s₁) (o : OkS P B A env β₁ s₁ r fl s') : OkS P B A env β s r fl s' := by
  rcases o with ⟨ρ, μ, β', e, f, q, h⟩ | ⟨v, x, μ, β', e, f, q, h, h'⟩
  · exact .inl ⟨ρ, μ, β', e, f, p.trans q, h⟩
  · exact .inr ⟨v, x, μ, β', e, f, p.trans q, h, h'⟩
theorem ExS.after {β₁ : Bk} {μ₁ : Mem} {s₁ : Shared} {r : RS} {x : Value} (p : PostS P.toPl (own env) β β₁ μ₁ s s₁) (hl : ∀ a ∈ own env, s₁.heap.get? a ≠ none) (o : ExS P B A env β₁ s₁ r x s') : ExS P B A env β s r x s' :=
  let ⟨c, ρ, μ, β', e, q, f, h⟩ := o; ⟨c, ρ, μ, β', e, p.trans q, f.lower fun _ => p.back hl, h⟩
theorem EnvOk.forget {h : Heap} (x : EnvOk P B A env β ρ h) : EnvOk P B A env β (fun _ => none) h :=
  { x with
    ns := let ⟨m, a, _⟩ := x.ns; ⟨m, a, fun _ _ _ _ e => by cases e⟩
    cell := fun i y k ht hk => let ⟨c, u, h1, h2, h3, h4, _⟩ := x.cell i y k ht hk; ⟨c, u, h1, h2, h3, h4, fun _ e => by cases e⟩ }
theorem At.next {β₁ : Bk} {ρ₁ : Fr} {μ₁ : Mem} {s₁ : Shared} (x : At P B n A env β ρ μ s) (p : PostS P.toPl (own env) β β₁ μ₁ s s₁) (e : EnvOk P B A env β₁ ρ₁ s₁.heap) : At P B n A env β₁ ρ₁ μ₁ s₁ :=
  ⟨x.good, x.call, x.room, e, p.inv⟩

theorem useES {e : Expr} {d : DE} {f : V → Mem → RS} {Q : Value → Shared → Prop} {E : Value → Shared → Prop} (h : SimE P B e d) (x : At P B n A env β ρ μ s) (hb : (d (P.cx n) ρ μ).thenS ρ f ≠ .bad)
    (ok : ∀ v μ₁ β₁ u s₁, d (P.cx n) ρ μ = .ok v μ₁ → Post P.toPl β β₁ μ₁ s s₁ → Rel P.toPl β₁ s₁.heap v u → f v μ₁ ≠ .bad → At P B n A env β₁ ρ μ₁ s₁ → Q u s₁)
    (ex : ∀ u s₁, ExS P B A env β s ((d (P.cx n) ρ μ).thenS ρ f) u s₁ → E u s₁) : wpAny P.M A (eval e env) Q E s := by
  refine wpAny_mono (h n A env β ρ μ s x (fun q => hb (by rw [q]; rfl))) (fun u s₁ q => ?_) fun u s₁ q => ?_
  · obtain ⟨v, μ₁, β₁, e1, p, r⟩ := q
    exact ok v μ₁ β₁ u s₁ e1 p r (by rw [e1] at hb; exact hb) (x.post p)
  · obtain ⟨c, μ₁, β₁, e1, p, r⟩ := q
    exact ex u s₁ ⟨c, ρ, μ₁, β₁, by rw [e1]; rfl, p.own x.env.live, r, x.env.post x.inv p⟩
theorem useTS {e : Expr} {d : DT} {f : Bool → Mem → RS} {Q : Bool → Shared → Prop} {E : Value → Shared → Prop} (h : SimT P B e d) (x : At P B n A env β ρ μ s) (hb : (d (P.cx n) ρ μ).thenS ρ f ≠ .bad)
    (ok : ∀ v μ₁ β₁ s₁, d (P.cx n) ρ μ = .ok v μ₁ → Post P.toPl β β₁ μ₁ s s₁ → f v μ₁ ≠ .bad → At P B n A env β₁ ρ μ₁ s₁ → Q v s₁)
    (ex : ∀ u s₁, ExS P B A env β s ((d (P.cx n) ρ μ).thenS ρ f) u s₁ → E u s₁) : wpAny P.M A (isTrue e env (eval e env)) Q E s := by
  refine wpAny_mono (h n A env β ρ μ s x (fun q => hb (by rw [q]; rfl))) (fun u s₁ q => ?_) fun u s₁ q => ?_
  · obtain ⟨μ₁, β₁, e1, p⟩ := q
    exact ok u μ₁ β₁ s₁ e1 p (by rw [e1] at hb; exact hb) (x.post p)
  · obtain ⟨c, μ₁, β₁, e1, p, r⟩ := q
    exact ex u s₁ ⟨c, ρ, μ₁, β₁, by rw [e1]; rfl, p.own x.env.live, r, x.env.post x.inv p⟩
end
end
end Mine
end
section
set_option autoImplicit false
namespace Mine
noncomputable section
open PySem

noncomputable def Chg (P : Pl) (β : Bk) (h₁ h h' : Heap) : Prop := ∀ a o, h.get? a = some o → h'.get? a = some o ∨
  (h₁.get? a = none ∧ a ∉ β ∧ P.h₀.get? a = none ∧ (∃ vs, o.data = .fields vs) ∧ ∃ o', h'.get? a = some o' ∧ o'.cls = o.cls ∧ ∃ vs, o'.data = .fields vs) ∨
  (a ∉ β ∧ P.h₀.get? a = none ∧ (∃ es n, o.data = .dict es n) ∧ ∃ sl, h'.get? a = some { o with slots := sl })

theorem Chg.refl (P : Pl) (β : Bk) (h₁ h : Heap) : Chg P β h₁ h h := fun _ _ e => .inl e
theorem Chg.trans {P : Pl} {β : Bk} {h₁ h h' h'' : Heap} (x : Chg P β h₁ h h') (y : Chg P β h₁ h' h'') : Chg P β h₁ h h'' := fun a o e => by
  rcases x a o e with e1 | ⟨k1, k2, k3, k4, o', e1, k5, k6⟩ | ⟨k1, k2, ⟨es, n, k3⟩, sl, e1⟩
  · exact y a o e1
  · rcases y a o' e1 with e2 | ⟨_, _, _, _, o'', e2, q5, q6⟩ | ⟨_, _, ⟨es, n, q⟩, _⟩
    · exact .inr (.inl ⟨k1, k2, k3, k4, o', e2, k5, k6⟩)
    · exact .inr (.inl ⟨k1, k2, k3, k4, o'', e2, q5.trans k5, q6⟩)
    · obtain ⟨vs, q'⟩ := k6
      rw [q] at q'; cases q'
  · rcases y a _ e1 with e2 | ⟨_, _, _, ⟨vs, q⟩, _⟩ | ⟨_, _, _, sl', e2⟩
    · exact .inr (.inr ⟨k1, k2, ⟨es, n, k3⟩, sl, e2⟩)
    · rw [show ({ o with slots := sl } : Obj).data = o.data from rfl, k3] at q; cases q
    · exact .inr (.inr ⟨k1, k2, ⟨es, n, k3⟩, sl', e2⟩)
theorem Chg.rec {P : Pl} {β : Bk} {h₁ h : Heap} {a : Addr} {o : Obj} {vs : Array Value} (e : h.get? a = some o) (hd : o.data = .fields vs) (k1 : h₁.get? a = none) (k2 : a ∉ β) (k3 : P.h₀.get? a = none) (f : Array Value → Array Value) : Chg P β h₁ h (h.update a (Obj.mapFields f)) := fun b ob eb => by
  by_cases q : b = a
  · subst q
    rw [e] at eb; cases eb
    exact .inr (.inl ⟨k1, k2, k3, ⟨vs, hd⟩, _, Heap.get?_update_self _ e (Obj.isFreed_of_fields (Obj.data_mapFields hd f)), Obj.cls_mapFields _ _, _, Obj.data_mapFields hd f⟩)
  · exact .inl ((Heap.get?_update_other _ _ (Ne.symm q)).trans eb)
theorem Chg.push {P : Pl} {β : Bk} {h₁ h : Heap} (o : Obj) : Chg P β h₁ h (h.push o) := fun _ _ e => .inl (Heap.get?_push_of_some _ e)

mutual
theorem Rel.chg {P : Pl} {β : Bk} {h₁ h h' : Heap} (k : Chg P β h₁ h h') : ∀ {v : V} {x : Value}, Rel P β h v x → Rel P β h' v x
  | _, _, .none => .none
  | _, _, .bool b => .bool b
  | _, _, .int i t => .int i t
  | _, _, .str a b => .str a b
  | _, _, .tup (a := a) e r l => .tup (by
      rcases k a _ e with h | ⟨_, _, _, ⟨_, h⟩, _⟩ | ⟨_, _, ⟨_, _, h⟩, _⟩
      · exact h
      · cases h
      · cases h) (RelL.chg k r) l
  | _, _, .ref e => .ref e
  | _, _, .scr a b r => .scr a b (RelL.chg k r)
theorem RelL.chg {P : Pl} {β : Bk} {h₁ h h' : Heap} (k : Chg P β h₁ h h') : ∀ {v : List V} {x : List Value}, RelL P β h v x → RelL P β h' v x
  | _, _, .nil => .nil
  | _, _, .cons a b => .cons (Rel.chg k a) (RelL.chg k b)
end
theorem Inv.chg {P : Pl} {β : Bk} {μ : Mem} {h₁ h h' : Heap} (I : Inv P β μ h) (k : Chg P β h₁ h h') : Inv P β μ h' := by
  have own : ∀ a ∈ β, ∀ o, h.get? a = some o → h'.get? a = some o := fun a ha o e => by
    rcases k a o e with h | ⟨_, n, _⟩ | ⟨n, _⟩
    · exact h
    · exact absurd ha n
    · exact absurd ha n
  refine ⟨I.len, I.nd, fun i o a e1 e2 => ?_, fun a o e => ?_, I.new⟩
  · have ha : a ∈ β := List.mem_of_getElem? e2
    cases I.obj i o a e1 e2 with
    | list e r l => exact .list (own a ha _ e) (r.chg k) l
    | inst e q d => exact .inst (own a ha _ e) q d
    | dic e => exact .dic (own a ha _ e)
    | ns n f => exact .ns (n.at fun o e => own a ha o e) (f.map fun _ _ r => r.chg k)
  · rcases k a o (I.base a o e) with h | ⟨_, _, n, _⟩ | ⟨_, n, _⟩
    · exact h
    · rw [n] at e; cases e
    · rw [n] at e; cases e
theorem Chg.same {P : Pl} {β : Bk} {h₁ h h' : Heap} (k : Chg P β h₁ h h') {a : Addr} {o : Obj} (e : h.get? a = some o) (hd : ∀ vs, o.data ≠ .fields vs) : ∃ o', h'.get? a = some o' ∧ Same o o' := by
  rcases k a o e with h | ⟨_, _, _, ⟨vs, n⟩, _⟩ | ⟨_, _, n, sl, h⟩
  · exact ⟨o, h, .refl o⟩
  · exact absurd n (hd vs)
  · exact ⟨_, h, .inr ⟨n, sl, rfl⟩⟩
theorem Post.chg {P : Pl} {β β' : Bk} {μ' : Mem} {s s' : Shared} {h' : Heap} (p : Post P β β' μ' s s') (k : Chg P β' s.heap s'.heap h') : Post P β β' μ' s { s' with heap := h' } := by
  refine ⟨?_, p.inv.chg k, p.pre, fun a o e n => ?_, p.fresh⟩
  · obtain ⟨h, t, rfl⟩ := p.st
    exact ⟨_, _, rfl⟩
  · obtain ⟨o', e', hs⟩ := p.keep a o e n
    rcases k a o' e' with h | ⟨m, _⟩ | ⟨_, _, q, sl, h⟩
    · exact ⟨o', h, hs⟩
    · rw [m] at e; cases e
    · exact ⟨_, h, hs.trans (.inr ⟨q, sl, rfl⟩)⟩
theorem PostS.chg {P : Pl} {W : List Addr} {β β' : Bk} {μ' : Mem} {s s' : Shared} {h' : Heap} (p : PostS P W β β' μ' s s') (k : Chg P β' s.heap s'.heap h') : PostS P W β β' μ' s { s' with heap := h' } := by
  refine ⟨?_, p.inv.chg k, p.pre, fun a o e n w => ?_, p.fresh⟩
  · obtain ⟨h, t, rfl⟩ := p.st
    exact ⟨_, _, rfl⟩
  · obtain ⟨o', e', hs⟩ := p.keep a o e n w
    rcases k a o' e' with h | ⟨m, _⟩ | ⟨_, _, q, sl, h⟩
    · exact ⟨o', h, hs⟩
    · rw [m] at e; cases e
    · exact ⟨_, h, hs.trans (.inr ⟨q, sl, rfl⟩)⟩
theorem Chg.ns {P : Pl} {β : Bk} {h₁ h h' : Heap} (k : Chg P β h₁ h h') {L : Addr} {m} (n : h.Ns L m) : h'.Ns L m := by
  obtain ⟨o, es, ep, e, d, r⟩ := n
  obtain ⟨o', e', s⟩ := k.same e (fun vs q => by rw [d] at q; cases q)
  exact ⟨o', es, ep, e', s.data.trans d, r⟩
theorem Frames.chg {P : Pg} {β : Bk} {h₁ h h' : Heap} {l : List Env} (f : Frames P β h l) (k : Chg P.toPl β h₁ h h') : Frames P β h' l := fun e he => by
  obtain ⟨q, L, o, hf, hn, hb, ho, es, m, hd⟩ := f e he
  obtain ⟨o', ho', hs⟩ := k.same ho (fun vs q => by rw [hd] at q; cases q)
  exact ⟨q, L, o', hf, hn, hb, ho', es, m, hs.data.trans hd⟩
theorem EnvOk.chg {P : Pg} {B : Blk} {A : Around} {env : Env} {β : Bk} {ρ : Fr} {h₁ h h' : Heap} (x : EnvOk P B A env β ρ h) (k : Chg P.toPl β h₁ h h') : EnvOk P B A env β ρ h' where
  ok := x.ok
  sc := x.sc
  glob := x.glob
  blt := x.blt
  ns := by
    obtain ⟨m, hn, hm⟩ := x.ns
    refine ⟨m, k.ns hn, fun i y v ht hv => ?_⟩
    obtain ⟨u, h1, h2⟩ := hm i y v ht hv
    exact ⟨u, h1, h2.chg k⟩
  loc := x.loc
  cell := fun i y q ht hk => by
    obtain ⟨c, u, h1, h2, h3, ⟨oc, e, d⟩, h5⟩ := x.cell i y q ht hk
    obtain ⟨o', e', hs⟩ := k.same e (fun vs q => by rw [d] at q; cases q)
    refine ⟨c, u, h1, h2, h3, ⟨o', e', hs.data.trans d⟩, fun v hv => ?_⟩
    obtain ⟨z, e1, e2⟩ := h5 v hv
    exact ⟨z, e1, e2.chg k⟩
  apart := x.apart
  fr := by
    obtain ⟨fe, outer, h1, h2, h3⟩ := x.fr
    exact ⟨fe, outer, h1, h2, h3.chg k⟩
  own := fun a ha => by
    obtain ⟨h1, h2, o, h3, h4⟩ := x.own a ha
    obtain ⟨o', e, hs⟩ := k.same h3 (fun vs q => by rcases h4 with ⟨_, _, h4⟩ | ⟨_, h4⟩ <;> rw [q] at h4 <;> cases h4)
    exact ⟨h1, h2, o', e, by rw [hs.data]; exact h4⟩

theorem Frames.fun {P : Pg} {β : Bk} {h : Heap} : ∀ {l : List Env}, Frames P β h l → h.FunFrames P.h₀ l
  | [], _ => trivial
  | e :: r, f => by
    obtain ⟨k, L, o, hf, _, hb, ho, es, n, hd⟩ := f e (List.mem_cons_self ..)
    exact ⟨k, ⟨L, o, hf, hb, ho, fun vs q => by rw [hd] at q; cases q⟩, Frames.fun fun x hx => f x (List.mem_cons_of_mem _ hx)⟩
theorem Frames.slots {P : Pg} {β : Bk} {h₁ h h' : Heap} {l : List Env} (f : Frames P β h l) (k : Heap.SlotsOnly (l.filterMap (·.frame)) h h') : Chg P.toPl β h₁ h h' := fun a o e => by
  by_cases q : a ∈ l.filterMap (·.frame)
  · obtain ⟨env, he, hf⟩ := List.mem_filterMap.mp q
    obtain ⟨_, L, o', hf', hn, hb, ho, es, n, hd⟩ := f env he
    rw [hf] at hf'; cases hf'
    rw [e] at ho; cases ho
    obtain ⟨sl, h'⟩ := k.2.2 a o e
    exact .inr (.inr ⟨hn, hb, ⟨es, n, hd⟩, sl, h'⟩)
  · exact .inl ((k.2.1 a q).trans e)
theorem frameOf_fe {M : Model} {A : Around} {E : Value → Shared → Prop} {s : Shared} {base : Heap} {fe env : Env} {outer : List Env} {L : Addr} {Q : Value → Shared → Prop} (hfr : A.frames = some (fe :: outer)) (hfe : fe.frame = env.frame) (hl : s.heap.FunFrames base (fe :: outer))
    (hf : env.frame = some L) (h : ∀ h', Heap.SlotsOnly ((fe :: outer).filterMap (·.frame)) s.heap h' → Q (.ref L) { s with heap := h' }) : wpAny M A (frameOf env) Q E s := by
  unfold frameOf
  refine wpAny_bind (wpAny_frameEnvs hfr ?_)
  have hdw : ((fe :: outer).dropWhile fun x => x.frame != env.frame) = fe :: outer := by simp [List.dropWhile, hfe]
  rw [hdw]
  unfold frameObject
  refine wpAny_bind (wpAny_bind (wpAny_readyFrames_fun hl fun h₁ hs₁ => wpAny_pure ?_))
  rw [hfe, hf]
  exact wpAny_pure (h h₁ hs₁)
end
end Mine
end
section
set_option autoImplicit false
namespace Mine
noncomputable section
open PySem

section
variable {P : Pg} {M : Model} {A : Around} {E : Value → Shared → Prop} {s : Shared} {env : Env} {β : Bk} {h₁ : Heap} {c : Nat}

theorem dict_mapFields (f : Array Value → Array Value) (o : Obj) : (Obj.mapFields f o).dict = o.dict := by
  unfold Obj.mapFields; split <;> rfl
noncomputable def Tb (h : Heap) (x : Value) : Prop := ∃ a oe vs T, x = .ref a ∧ h.get? a = some oe ∧ oe.data = .fields vs ∧ vs[1]? = some (.ref T)

theorem newEntry_fly {L e : Addr} {oe : Obj} {vs : Array Value} {head : Value} {hadNext : Bool} {Q : Unit → Shared → Prop} {fe : Env} {outer : List Env}
    (hfr : A.frames = some (fe :: outer)) (hfe : fe.frame = env.frame) (fr : Frames P β s.heap (fe :: outer)) (hf : env.frame = some L) (hlow : ∀ a, s.heap.get? a = none → h₁.get? a = none)
    (bl : ∀ a ∈ β, s.heap.get? a ≠ none) (bs : ∀ a, s.heap.get? a = none → P.h₀.get? a = none)
    (he : s.heap.get? e = some oe) (hd : oe.data = .fields vs) (hsz : 1 < vs.size) (hc : oe.cls = .ref (P.cls c) ∧ oe.dict = none) (k1 : h₁.get? e = none) (k2 : e ∉ β) (k3 : P.h₀.get? e = none)
    (h : ∀ h', Chg P.toPl β h₁ s.heap h' → Fly P.toPl β (some L) h₁ h' (.ref e) c → Tb h' (.ref e) → Q () { s with heap := h' }) :
    wpAny M A (do let a ← frameOf env; let pl ← entryPlaceOf L hadNext; let b ← EntryCells.newEntry head a .none (rawInt L) .none pl; setField (.ref e) 1 b) Q E s := by
  refine wpAny_bind (frameOf_fe hfr hfe fr.fun hf fun h₂ hs₂ => ?_)
  have c₂ : Chg P.toPl β h₁ s.heap h₂ := fr.slots hs₂
  refine wpAny_bind (wpAny_entryPlaceOf fun pl hpl => ?_)
  unfold EntryCells.newEntry newFields
  refine wpAny_bind (wpAny_newObj_type ?_ (hpl.sizeOk5 _ _ _ _ _))
  have he₂ : h₂.get? e = some oe := by
    rcases c₂ e oe he with h | ⟨_, _, _, _, _⟩ | ⟨_, _, ⟨_, _, q⟩, _⟩
    · exact h
    · refine (hs₂.2.1 e fun q => ?_).trans he
      obtain ⟨env', he', hf'⟩ := List.mem_filterMap.mp q
      obtain ⟨_, L', o', hq, _, _, ho, es, n, hd'⟩ := fr env' he'
      rw [hf'] at hq; cases hq
      rw [he] at ho; cases ho
      rw [hd] at hd'; cases hd'
    · rw [hd] at q; cases q
  have he₃ := Heap.get?_push_of_some (h := h₂) { cls := .type "traceback", dict := none, data := .fields ([head, .ref L, .none, rawInt L, .none] ++ (if pl.isEmpty then List.replicate 6 Value.none else pl)).toArray } he₂
  refine wpAny_setField he₃ hd hsz ?_
  have hTe : h₂.objs.size ≠ e := Nat.ne_of_gt (Heap.lt_size he₂)
  have hd₃ := Obj.data_mapFields hd (·.setIfInBounds 1 (Value.ref h₂.objs.size))
  have he₄ := Heap.get?_update_self (Obj.mapFields (·.setIfInBounds 1 (Value.ref h₂.objs.size))) he₃ (Obj.isFreed_of_fields hd₃)
  have hT₄ := (Heap.get?_update_other (h₂.push { cls := .type "traceback", dict := none, data := .fields ([head, .ref L, .none, rawInt L, .none] ++ (if pl.isEmpty then List.replicate 6 Value.none else pl)).toArray })
    (Obj.mapFields (·.setIfInBounds 1 (Value.ref h₂.objs.size))) (Ne.symm hTe)).trans (Heap.get?_push_size h₂ rfl)
  have new : s.heap.get? h₂.objs.size = none := by
    refine Heap.get?_none_of_le ?_
    rw [hs₂.1]; exact Nat.le_refl _
  refine h _ ((c₂.trans (.push _)).trans (.rec he₃ hd k1 k2 k3 _)) ⟨e, _, _, rfl, k1, he₄, ⟨(Obj.cls_mapFields _ _).trans hc.1, (dict_mapFields _ _).trans hc.2⟩, hd₃, k2, k3, .inr ⟨h₂.objs.size, _, _, by simp [hsz], hlow _ new, hTe, fun q => bl _ q new, bs _ new, hT₄, rfl, .inr ⟨L, rfl, ?_⟩⟩⟩ ⟨e, _, _, h₂.objs.size, rfl, he₄, hd₃, by simp [hsz]⟩
  first | (simp; done) | (rcases hpl with rfl | ⟨_, _, _, _, _, _, _, rfl⟩ <;> simp)

theorem noteFrame_fly {L : Addr} {x : Value} {Q : Unit → Shared → Prop} {fe : Env} {outer : List Env}
    (hfr : A.frames = some (fe :: outer)) (hfe : fe.frame = env.frame) (fr : Frames P β s.heap (fe :: outer)) (hf : env.frame = some L) (hlow : ∀ a, s.heap.get? a = none → h₁.get? a = none)
    (bl : ∀ a ∈ β, s.heap.get? a ≠ none) (bs : ∀ a, s.heap.get? a = none → P.h₀.get? a = none) (fl : Fly P.toPl β (some L) h₁ s.heap x c)
    (h : ∀ h', Chg P.toPl β h₁ s.heap h' → Fly P.toPl β (some L) h₁ h' x c → Tb h' x → Q () { s with heap := h' }) : wpAny M A (noteFrame x env) Q E s := by
  obtain ⟨e, oe, vs, rfl, k1, he, hc, hd, k2, k3, hv⟩ := id fl
  unfold noteFrame
  simp only [hf]
  rcases hv with h1 | ⟨T, oT, ts, h1, t1, tne, t2, t3, hT, hdT, h3⟩
  · refine wpAny_bind (wpAny_field he hd h1 ?_)
    rw [if_neg (by decide)]
    exact newEntry_fly hfr hfe fr hf hlow bl bs he hd (Array.getElem?_eq_some_iff.mp h1).1 hc k1 k2 k3 h
  · refine wpAny_bind (wpAny_field he hd h1 ?_)
    rw [if_pos (show (Value.ref T != Value.none) = true from by simp)]
    rcases h3 with h3 | ⟨l, hl, h3⟩
    · refine wpAny_bind (wpAny_field hT hdT h3 ?_)
      rw [if_neg (show ¬ ((Value.none == rawInt L) = true) from by simp [rawInt])]
      refine wpAny_bind (wpAny_setField hT hdT (Array.getElem?_eq_some_iff.mp h3).1 ?_)
      have c₁ : Chg P.toPl β h₁ s.heap (s.heap.update T (Obj.mapFields (·.setIfInBounds 3 Value.none))) := .rec hT hdT t1 t2 t3 _
      have non : ∀ a, (s.heap.update T (Obj.mapFields (·.setIfInBounds 3 Value.none))).get? a = none → s.heap.get? a = none := fun a q => by
        cases e' : s.heap.get? a with
        | none => rfl
        | some o => rcases c₁ a o e' with r | ⟨_, _, _, _, _, r, _⟩ | ⟨_, _, _, _, r⟩ <;> rw [q] at r <;> cases r
      refine newEntry_fly (s := { s with heap := _ }) hfr hfe (fr.chg c₁) hf (fun a q => hlow a (non a q)) (fun a ha q => bl a ha (non a q)) (fun a q => bs a (non a q)) ((Heap.get?_update_other _ _ tne).trans he) hd (Array.getElem?_eq_some_iff.mp h1).1 hc k1 k2 k3 fun h' g1 g2 g3 => h h' (c₁.trans g1) g2 g3
    · cases hl
      refine wpAny_bind (wpAny_field hT hdT h3 ?_)
      rw [if_pos (show (rawInt L == rawInt L) = true from by simp)]
      exact wpAny_pure (h s.heap (.refl _ _ _ _) fl ⟨e, oe, vs, T, rfl, he, hd, h1⟩)

theorem setFlight_fly {L L' : Option Addr} {x : Value} {Q : Unit → Shared → Prop} (fl : Fly P.toPl β L h₁ s.heap x c)
    (h : ∀ h', Chg P.toPl β h₁ s.heap h' → Fly P.toPl β L' h₁ h' x c → Q () { s with heap := h' }) : wpAny M A (setFlight x L') Q E s := by
  obtain ⟨e, oe, vs, rfl, k1, he, hc, hd, k2, k3, hv⟩ := id fl
  unfold setFlight
  rcases hv with h1 | ⟨T, oT, ts, h1, t1, tne, t2, t3, hT, hdT, h3⟩
  · refine wpAny_bind (wpAny_field he hd h1 ?_)
    rw [if_neg (by decide)]
    exact wpAny_pure (h s.heap (.refl _ _ _ _) ⟨e, oe, vs, rfl, k1, he, hc, hd, k2, k3, .inl h1⟩)
  · refine wpAny_bind (wpAny_field he hd h1 ?_)
    rw [if_pos (show (Value.ref T != Value.none) = true from by simp)]
    have hsz : 3 < ts.size := by
      rcases h3 with h3 | ⟨_, _, h3⟩ <;> exact (Array.getElem?_eq_some_iff.mp h3).1
    refine wpAny_setField hT hdT hsz (h _ (.rec hT hdT t1 t2 t3 _) ⟨e, oe, vs, rfl, k1, (Heap.get?_update_other _ _ tne).trans he, hc, hd, k2, k3, .inr ⟨T, _, _, h1, t1, tne, t2, t3, Heap.get?_update_self _ hT (Obj.isFreed_of_fields (Obj.data_mapFields hdT _)), Obj.data_mapFields hdT _, ?_⟩⟩)
    cases L' with
    | none => exact .inl (by simp [hsz])
    | some l => exact .inr ⟨l, rfl, by simp [hsz]⟩

theorem Chg.lower {P : Pl} {β : Bk} {h₁ h₂ h h' : Heap} (k : Chg P β h₁ h h') (hl : ∀ a, h₁.get? a = none → h₂.get? a = none) : Chg P β h₂ h h' := fun a o e => by
  rcases k a o e with q | ⟨q, r⟩ | q
  · exact .inl q
  · exact .inr (.inl ⟨hl a q, r⟩)
  · exact .inr (.inr q)
theorem noted_at {B : Blk} {ρ : Fr} {μ : Mem} {x : Value} {Q : Unit → Shared → Prop} (he : EnvOk P B A env β ρ s.heap) (I : Inv P.toPl β μ s.heap) (hlow : ∀ a, s.heap.get? a = none → h₁.get? a = none) (fl : Fly P.toPl β env.frame h₁ s.heap x c)
    (h : ∀ h', Chg P.toPl β h₁ s.heap h' → Fly P.toPl β env.frame h₁ h' x c → Tb h' x → Q () { s with heap := h' }) : wpAny M A (noteFrame x env) Q E s := by
  obtain ⟨fe, outer, f1, f2, f3⟩ := he.fr
  obtain ⟨_, L, _, hL, _⟩ := f3 fe (List.mem_cons_self ..)
  have hf : env.frame = some L := f2 ▸ hL
  rw [hf] at fl h
  refine noteFrame_fly f1 f2 f3 hf hlow (fun a ha q => ?_) (fun a q => ?_) fl h
  · obtain ⟨ob, e, _⟩ := I.there ha
    rw [q] at e; cases e
  · cases e : P.h₀.get? a with
    | none => rfl
    | some o => rw [I.base a o e] at q; cases q
theorem noted_fly {B : Blk} {ρ : Fr} {μ : Mem} {x : Value} (he : EnvOk P B A env β ρ s.heap) (I : Inv P.toPl β μ s.heap) (hlow : ∀ a, s.heap.get? a = none → h₁.get? a = none) (fl : Fly P.toPl β env.frame h₁ s.heap x c)
    (h : ∀ h', Chg P.toPl β h₁ s.heap h' → Fly P.toPl β env.frame h₁ h' x c → Tb h' x → E x { s with heap := h' }) : notedBy M A env E x s :=
  noted_at he I hlow fl h
theorem own_fly {L L' : Option Addr} {x : Value} {what : String} {Q : Unit → Shared → Prop} (fl : Fly P.toPl β L h₁ s.heap x c) (tb : Tb s.heap x)
    (h : ∀ h', Chg P.toPl β h₁ s.heap h' → Fly P.toPl β L' h₁ h' x c → Q () { s with heap := h' }) : wpAny M A (do { if (← field x 1) == .none then { unsupported what }; setFlight x L' }) Q E s := by
  obtain ⟨a, oe, vs, T, rfl, he, hd, h1⟩ := tb
  refine wpAny_bind (wpAny_field he hd h1 ?_)
  rw [if_neg (show ¬ ((Value.ref T == Value.none) = true) from by simp)]
  exact setFlight_fly fl h
theorem leaving_fly {B : Blk} {ρ : Fr} {μ : Mem} {x : Value} {Q : Unit → Shared → Prop} (he : EnvOk P B A env β ρ s.heap) (I : Inv P.toPl β μ s.heap) (hlow : ∀ a, s.heap.get? a = none → h₁.get? a = none) (fl : Fly P.toPl β env.frame h₁ s.heap x c)
    (h : ∀ h', Chg P.toPl β h₁ s.heap h' → Fly P.toPl β none h₁ h' x c → Q () { s with heap := h' }) : wpAny M A (leaving env x) Q E s := by
  unfold leaving
  exact wpAny_bind (noted_at he I hlow fl fun h' k1 f1 _ => setFlight_fly (s := { s with heap := h' }) f1 fun h'' k2 f2 => h h'' (k1.trans k2) f2)
end
end
end Mine
end
section
set_option autoImplicit false
set_option tactic.hygienic false
set_option backward.eqns.nonrecursive false
namespace Mine
noncomputable section
open PySem PyProof.Rows

section
variable {P : Pg} {B : Blk}

theorem okNow {P : Pl} {β : Bk} {μ : Mem} {s : Shared} {v : V} {x : Value} (I : Inv P β μ s.heap) (r : Rel P β s.heap v x) : OkE P β s (.ok v μ) x s := ⟨v, μ, β, rfl, .refl I, r⟩
theorem okTok {P : Pl} {β : Bk} {μ : Mem} {s : Shared} {v : V} {x : Value} (t : Nat) (I : Inv P β μ s.heap) (r : Rel P β s.heap v x) : OkE P β s (.ok v μ) x { s with toks := t } := ⟨v, μ, β, rfl, .toks I t, r⟩
theorem OkE.after {P : Pl} {β β₁ : Bk} {μ₁ : Mem} {s s₁ s' : Shared} {r : R V} {x : Value} (p : Post P β β₁ μ₁ s s₁) (o : OkE P β₁ s₁ r x s') : OkE P β s r x s' :=
  let ⟨v, μ, β', e, q, h⟩ := o; ⟨v, μ, β', e, p.trans q, h⟩
theorem ExE.after {α : Type} {P : Pl} {L : Option Addr} {β β₁ : Bk} {μ₁ : Mem} {s s₁ s' : Shared} {r : R α} {x : Value} (p : Post P β β₁ μ₁ s s₁) (o : ExE P L β₁ s₁ r x s') : ExE P L β s r x s' :=
  let ⟨v, μ, β', e, q, h⟩ := o; ⟨v, μ, β', e, p.trans q, h.lower fun _ => p.back⟩
theorem OkT.after {P : Pl} {β β₁ : Bk} {μ₁ : Mem} {s s₁ s' : Shared} {r : R Bool} {x : Bool} (p : Post P β β₁ μ₁ s s₁) (o : OkT P β₁ s₁ r x s') : OkT P β s r x s' :=
  let ⟨μ, β', e, q⟩ := o; ⟨μ, β', e, p.trans q⟩
theorem OkL.after {P : Pl} {β β₁ : Bk} {μ₁ : Mem} {s s₁ s' : Shared} {r : R (List V)} {x : List Value} (p : Post P β β₁ μ₁ s s₁) (o : OkL P β₁ s₁ r x s') : OkL P β s r x s' :=
  let ⟨v, μ, β', e, q, h⟩ := o; ⟨v, μ, β', e, p.trans q, h⟩

theorem SimE.none {k pos} : SimE P B (.Constant .none k pos) (dC .none) := fun _ _ _ _ _ _ _ x _ => wpAny_Constant_none (okNow x.inv .none)
theorem SimE.bool {b k pos} : SimE P B (.Constant (.bool b) k pos) (dC (.bool b)) := fun _ _ _ _ _ _ _ x _ => wpAny_Constant_bool (okNow x.inv (.bool b))
theorem SimE.int {i k pos} : SimE P B (.Constant (.int i) k pos) (dC (.int i)) := fun _ _ _ _ _ _ _ x _ => wpAny_Constant_int (okTok _ x.inv (.int i _))
theorem SimE.str {y k pos} (h : (PyData.strOk y && decide (y.length ≤ lim)) = true) : SimE P B (.Constant (.str y) k pos) (dC (.str y)) := fun _ _ _ _ _ _ _ x _ =>
  have h' := Bool.and_eq_true_iff.mp h
  wpAny_Constant_str (okTok _ x.inv (.str h'.1 (of_decide_eq_true h'.2)))

theorem Blk.look {B : Blk} (h : B.ok = true) {i : Nat} {x : Str} {k : NameKind} (ht : B.tab[i]? = some (some (x, k))) :
    B.sc.kind = .function ∧ B.sc.names.lookup x = some k ∧ (k = .local ∨ k = .cell ∨ k = .free) ∧ (x == ("__debug__" : Str)) = false ∧ (x == ("__classdict__" : Str)) = false := by
  simp only [Blk.ok, Bool.and_eq_true, beq_iff_eq] at h
  have hm : some (x, k) ∈ B.tab := List.mem_of_getElem? ht
  have := List.all_eq_true.mp h.1.2 _ hm
  simp only [Bool.and_eq_true, beq_iff_eq, Bool.or_eq_true, Bool.not_eq_true'] at this
  exact ⟨h.1.1, this.1.1.1, by rcases this.1.1.2 with (q | q) | q <;> simp [q], this.1.2, this.2⟩

theorem SimE.var {i : Nat} {x : Str} {k : NameKind} {pos : Pos} (ht : B.tab[i]? = some (some (x, k))) : SimE P B (.Name x pos) (dV i) := fun n A env β ρ μ s X hb => by
  obtain ⟨h1, h2, h3, h4, h5⟩ := X.env.ok |> fun o => Blk.look o ht
  cases hv : ρ i with
  | none => exact absurd (by simp [dV, hv, R.opt]) hb
  | some v =>
    have hk : env.scope.kind = .function := by rw [X.env.sc]; exact h1
    have hl : env.kindOf x = some k := by show env.scope.names.lookup x = some k; rw [X.env.sc]; exact h2
    have done : ∀ u, Rel P.toPl β s.heap v u → OkE P.toPl β s (dV i (P.cx n) ρ μ) u s := fun u r => by
      simp only [dV, hv, R.opt]; exact okNow X.inv r
    rcases h3 with rfl | rfl | rfl
    · obtain ⟨m, hn, hm⟩ := X.env.ns
      obtain ⟨u, e, r⟩ := hm i x v ht hv
      exact wpAny_Name (wpAny_loadName_local hk hl hn e (done u r)) h4
    · obtain ⟨c, u, e1, _, _, e2, e3⟩ := X.env.cell i x _ ht (.inl rfl)
      obtain ⟨y, rfl, r⟩ := e3 v hv
      exact wpAny_Name (wpAny_loadName_cell hk hl e1 e2 (done y r)) h4
    · obtain ⟨c, u, e1, _, _, e2, e3⟩ := X.env.cell i x _ ht (.inr rfl)
      obtain ⟨y, rfl, r⟩ := e3 v hv
      exact wpAny_Name (wpAny_loadName_free hk hl e1 e2 (done y r) h5) h4

noncomputable def OpOk (P : Pg) (op : Operator) (f : V → V → Mem → R V) : Prop :=
  ∀ A β μ s a b x y L, A.units + 200 < cLine → Inv P.toPl β μ s.heap → Rel P.toPl β s.heap a x → Rel P.toPl β s.heap b y → f a b μ ≠ .bad →
    wpAny P.M A (binaryOp op x y) (OkE P.toPl β s (f a b μ)) (ExE P.toPl L β s (f a b μ)) s
noncomputable def CmpOk (P : Pg) (op : CmpOp) (f : Mem → V → V → Option Bool) : Prop :=
  ∀ A β μ s a b x y t (Q : Value → Shared → Prop) (E : Value → Shared → Prop), A.units + 200 < cLine → Inv P.toPl β μ s.heap → Rel P.toPl β s.heap a x → Rel P.toPl β s.heap b y → f μ a b = some t →
    (∀ tk, Q (.bool t) { s with toks := tk }) → wpAny P.M A (compareOp op x y) Q E s

theorem SimE.bin {l r : Expr} {op : Operator} {pos : Pos} {dl dr : DE} {f : V → V → Mem → R V} (o : OpOk P op f) (hl : SimE P B l dl) (hr : SimE P B r dr) : SimE P B (.BinOp l op r pos) (dBin f dl dr) :=
  fun n A env β ρ μ s X hb => by
    refine wpAny_BinOp (useE hl X hb (fun a μ₁ β₁ x s₁ e₁ p₁ r₁ hb₁ X₁ => ?_) fun u s₁ q => q)
    refine useE hr X₁ hb₁ (fun b μ₂ β₂ y s₂ e₂ p₂ r₂ hb₂ X₂ => ?_) fun u s₂ q => ?_
    · have e : dBin f dl dr (P.cx n) ρ μ = f a b μ₂ := by simp only [dBin, e₁, e₂, R.bind]
      rw [e]
      exact wpAny_mono (o A β₂ μ₂ s₂ a b x y env.frame X₂.units X₂.inv (r₁.post X₁.inv p₂) r₂ hb₂) (fun _ _ q => (q.after p₂).after p₁) fun _ _ q => (q.after p₂).after p₁
    · have e : dBin f dl dr (P.cx n) ρ μ = (dr (P.cx n) ρ μ₁).bind fun b μ => f a b μ := by simp only [dBin, e₁, R.bind]
      rw [e]; exact q.after p₁
end
end
end Mine
end
section
set_option autoImplicit false
set_option tactic.hygienic false
set_option backward.eqns.nonrecursive false
namespace Mine
noncomputable section
open PySem PyProof.Rows

section
variable {P : Pg} {B : Blk}

theorem SimE.cmp {l r : Expr} {op : CmpOp} {pos : Pos} {dl dr : DE} {f : Mem → V → V → Option Bool} (o : CmpOk P op f) (hm : behindInMarks op r = false) (hl : SimE P B l dl) (hr : SimE P B r dr) :
    SimE P B (.Compare l [op] [r] pos) (dCmp f dl dr) := fun n A env β ρ μ s X hb => by
  refine wpAny_Compare1 (useE hl X hb (fun a μ₁ β₁ x s₁ e₁ p₁ r₁ hb₁ X₁ => ?_) fun u s₁ q => q) hm
  refine useE hr X₁ hb₁ (fun b μ₂ β₂ y s₂ e₂ p₂ r₂ hb₂ X₂ => ?_) fun u s₂ q => ?_
  · cases ht : f μ₂ a b with
    | none => simp only [ht, R.opt, R.bind] at hb₂; exact absurd rfl hb₂
    | some t =>
      refine o A β₂ μ₂ s₂ a b x y t _ _ X₂.units X₂.inv (r₁.post X₁.inv p₂) r₂ ht fun tk => ?_
      have e : dCmp f dl dr (P.cx n) ρ μ = .ok (.bool t) μ₂ := by simp only [dCmp, e₁, e₂, R.bind, R.opt, ht]
      rw [e]; exact ((okTok tk X₂.inv (.bool t)).after p₂).after p₁
  · have e : dCmp f dl dr (P.cx n) ρ μ = (dr (P.cx n) ρ μ₁).bind fun b μ => (R.opt μ (f μ a b)).bind fun t μ => .ok (.bool t) μ := by simp only [dCmp, e₁, R.bind]
    rw [e]; exact q.after p₁

theorem SimT.cmp {l r : Expr} {op : CmpOp} {pos : Pos} {dl dr : DE} {f : Mem → V → V → Option Bool} (o : CmpOk P op f) (hm : behindInMarks op r = false) (hl : SimE P B l dl) (hr : SimE P B r dr) :
    SimT P B (.Compare l [op] [r] pos) (tCmp f dl dr) := fun n A env β ρ μ s X hb => by
  refine wpAny_isTrue_Compare1 (useE hl X hb (fun a μ₁ β₁ x s₁ e₁ p₁ r₁ hb₁ X₁ => ?_) fun u s₁ q => q) hm
  refine useE hr X₁ hb₁ (fun b μ₂ β₂ y s₂ e₂ p₂ r₂ hb₂ X₂ => ?_) fun u s₂ q => ?_
  · cases ht : f μ₂ a b with
    | none => simp only [ht, R.opt] at hb₂; exact absurd rfl hb₂
    | some t =>
      refine o A β₂ μ₂ s₂ a b x y t _ _ X₂.units X₂.inv (r₁.post X₁.inv p₂) r₂ ht fun tk => ?_
      refine wpAny_truthy_bool ?_
      have e : tCmp f dl dr (P.cx n) ρ μ = .ok t μ₂ := by simp only [tCmp, e₁, e₂, R.bind, R.opt, ht]
      rw [e]; exact ⟨μ₂, β₂, rfl, p₁.trans (p₂.trans (.toks X₂.inv tk))⟩
  · have e : tCmp f dl dr (P.cx n) ρ μ = (dr (P.cx n) ρ μ₁).bind fun b μ => R.opt μ (f μ a b) := by simp only [tCmp, e₁, R.bind]
    rw [e]; exact q.after p₁

theorem truth_ok {A : Around} {β : Bk} {μ : Mem} {s : Shared} {v : V} {x : Value} {t : Bool} {Q : Bool → Shared → Prop} {E : Value → Shared → Prop} (r : Rel P.toPl β s.heap v x) (h : truth μ v = some t)
    (k : Q t s) : wpAny P.M A (truthy x) Q E s := by
  cases r with
  | none => cases h; exact fun _ _ _ => k
  | bool b => cases h; exact wpAny_truthy_bool k
  | int i t => cases h; exact PySem.P.truthy_int k
  | str => cases h
  | tup => cases h
  | ref => cases h
  | scr => cases h

theorem SimT.val {e : Expr} {d : DE} (h : SimE P B e d) (he : ∀ env whole, isTrue e env whole = (do let v ← whole; standAt e.pos; holding [v] (truthy v))) : SimT P B e (tE d) := fun n A env β ρ μ s X hb => by
  refine wpAny_isTrue_value (useE h X hb (fun a μ₁ β₁ x s₁ e₁ p₁ r₁ hb₁ X₁ => ?_) fun u s₁ q => q) (he env _)
  cases ht : truth μ₁ a with
  | none => simp only [ht, R.opt] at hb₁; exact absurd rfl hb₁
  | some t =>
    refine truth_ok r₁ ht ?_
    have e : tE d (P.cx n) ρ μ = .ok t μ₁ := by simp only [tE, e₁, R.bind, R.opt, ht]
    rw [e]; exact ⟨μ₁, β₁, rfl, p₁⟩

theorem useT {γ : Type} {n : Nat} {A : Around} {env : Env} {β : Bk} {ρ : Fr} {μ : Mem} {s : Shared} {e : Expr} {d : DT} {f : Bool → Mem → R γ} {Q : Bool → Shared → Prop} {E : Value → Shared → Prop} (h : SimT P B e d) (x : At P B n A env β ρ μ s) (hb : (d (P.cx n) ρ μ).bind f ≠ .bad)
    (ok : ∀ v μ₁ β₁ s₁, d (P.cx n) ρ μ = .ok v μ₁ → Post P.toPl β β₁ μ₁ s s₁ → f v μ₁ ≠ .bad → At P B n A env β₁ ρ μ₁ s₁ → Q v s₁)
    (ex : ∀ u s₁, ExE P.toPl env.frame β s ((d (P.cx n) ρ μ).bind f) u s₁ → E u s₁) : wpAny P.M A (isTrue e env (eval e env)) Q E s := by
  refine wpAny_mono (h n A env β ρ μ s x (fun q => hb (by rw [q]; rfl))) (fun u s₁ q => ?_) fun u s₁ q => ?_
  · obtain ⟨μ₁, β₁, e1, p⟩ := q
    exact ok u μ₁ β₁ s₁ e1 p (by rw [e1] at hb; exact hb) (x.post p)
  · obtain ⟨c, μ₁, β₁, e1, p, r⟩ := q
    exact ex u s₁ ⟨c, μ₁, β₁, by rw [e1]; rfl, p, r⟩

theorem SimT.not {e : Expr} {d : DT} {pos : Pos} (h : SimT P B e d) : SimT P B (.UnaryOp .Not e pos) (tNot d) := fun n A env β ρ μ s X hb => by
  refine wpAny_isTrue_Not (useT h X hb (fun b μ₁ β₁ s₁ e₁ p₁ hb₁ X₁ => ?_) fun u s₁ q => q)
  exact ⟨μ₁, β₁, by simp only [tNot, e₁, R.bind], p₁⟩

noncomputable def SimA (P : Pg) (B : Blk) (op : BoolOp) (es : List Expr) (d : DT) : Prop :=
  ∀ n A env β ρ μ s, At P B n A env β ρ μ s → d (P.cx n) ρ μ ≠ .bad →
    wpAny P.M A (allTrue op es env) (OkT P.toPl β s (d (P.cx n) ρ μ)) (ExE P.toPl env.frame β s (d (P.cx n) ρ μ)) s
theorem SimA.andNil : SimA P B .And [] tTrue := fun _ _ _ β _ μ _ X _ => wpAny_allTrue_And_nil ⟨μ, β, rfl, .refl X.inv⟩
theorem SimA.orNil : SimA P B .Or [] tFalse := fun _ _ _ β _ μ _ X _ => wpAny_allTrue_Or_nil ⟨μ, β, rfl, .refl X.inv⟩
theorem SimA.and {e : Expr} {es : List Expr} {d ds : DT} (h : SimT P B e d) (hs : SimA P B .And es ds) : SimA P B .And (e :: es) (tAnd d ds) := fun n A env β ρ μ s X hb => by
  refine wpAny_allTrue_And_cons (useT h X hb (fun b μ₁ β₁ s₁ e₁ p₁ hb₁ X₁ => ?_) fun u s₁ q => q)
  cases b with
  | false => exact ⟨μ₁, β₁, by simp only [tAnd, e₁, R.bind]; rfl, p₁⟩
  | true =>
    have e : tAnd d ds (P.cx n) ρ μ = ds (P.cx n) ρ μ₁ := by simp only [tAnd, e₁, R.bind, if_true]
    rw [e]
    exact wpAny_mono (hs n A env β₁ ρ μ₁ s₁ X₁ (by simpa using hb₁)) (fun _ _ q => q.after p₁) fun _ _ q => q.after p₁
theorem SimA.or {e : Expr} {es : List Expr} {d ds : DT} (h : SimT P B e d) (hs : SimA P B .Or es ds) : SimA P B .Or (e :: es) (tOr d ds) := fun n A env β ρ μ s X hb => by
  refine wpAny_allTrue_Or_cons (useT h X hb (fun b μ₁ β₁ s₁ e₁ p₁ hb₁ X₁ => ?_) fun u s₁ q => q)
  cases b with
  | true => exact ⟨μ₁, β₁, by simp only [tOr, e₁, R.bind]; rfl, p₁⟩
  | false =>
    have e : tOr d ds (P.cx n) ρ μ = ds (P.cx n) ρ μ₁ := by simp only [tOr, e₁, R.bind]; rfl
    rw [e]
    exact wpAny_mono (hs n A env β₁ ρ μ₁ s₁ X₁ (by simpa using hb₁)) (fun _ _ q => q.after p₁) fun _ _ q => q.after p₁
theorem SimT.boolOp {op : BoolOp} {es : List Expr} {d : DT} {pos : Pos} (h : SimA P B op es d) : SimT P B (.BoolOp op es pos) d := fun n A env β ρ μ s X hb => wpAny_isTrue_BoolOp (h n A env β ρ μ s X hb)

theorem SimE.not {e : Expr} {d : DE} {pos : Pos} (h : SimE P B e d) : SimE P B (.UnaryOp .Not e pos) (dNot d) := fun n A env β ρ μ s X hb => by
  refine wpAny_UnaryOp (useE h X hb (fun a μ₁ β₁ x s₁ e₁ p₁ r₁ hb₁ X₁ => ?_) fun u s₁ q => q)
  cases ht : truth μ₁ a with
  | none => simp only [ht, R.opt, R.bind] at hb₁; exact absurd rfl hb₁
  | some t =>
    refine not_value (truth_ok r₁ ht ?_)
    have e : dNot d (P.cx n) ρ μ = .ok (.bool (!t)) μ₁ := by simp only [dNot, e₁, R.bind, R.opt, ht]
    rw [e]; exact (okNow X₁.inv (.bool _)).after p₁

noncomputable def SimB (P : Pg) (B : Blk) (op : BoolOp) (es : List Expr) (d : DE) : Prop :=
  ∀ n A env β ρ μ s pos, At P B n A env β ρ μ s → d (P.cx n) ρ μ ≠ .bad →
    wpAny P.M A (boolOp pos op (evalEach es env)) (OkE P.toPl β s (d (P.cx n) ρ μ)) (ExE P.toPl env.frame β s (d (P.cx n) ρ μ)) s
theorem SimB.one {op : BoolOp} {e : Expr} {d : DE} (h : SimE P B e d) : SimB P B op [e] d := fun n A env β ρ μ s _ X hb => h n A env β ρ μ s X hb
theorem SimB.and {e e' : Expr} {es : List Expr} {d ds : DE} (h : SimE P B e d) (hs : SimB P B .And (e' :: es) ds) : SimB P B .And (e :: e' :: es) (dAnd d ds) := fun n A env β ρ μ s pos X hb => by
  show wpAny P.M A (do
    let v ← eval e env
    standAt pos
    let t ← holding [v] (truthy v)
    match BoolOp.And, t with
    | .And, false | .Or, true => pure v
    | _, _ => boolOp pos .And (evalEach (e' :: es) env)) _ _ s
  refine wpAny_bind (useE h X hb (fun a μ₁ β₁ x s₁ e₁ p₁ r₁ hb₁ X₁ => ?_) fun u s₁ q => q)
  refine wpAny_bind (wpAny_standAt (wpAny_bind (wpAny_holding ?_)))
  cases ht : truth μ₁ a with
  | none => simp only [ht, R.opt, R.bind] at hb₁; exact absurd rfl hb₁
  | some t =>
    refine truth_ok r₁ ht ?_
    cases t with
    | false =>
      have e : dAnd d ds (P.cx n) ρ μ = .ok a μ₁ := by simp only [dAnd, e₁, R.bind, R.opt, ht]; rfl
      rw [e]; exact wpAny_pure ((okNow X₁.inv r₁).after p₁)
    | true =>
      have e : dAnd d ds (P.cx n) ρ μ = ds (P.cx n) ρ μ₁ := by simp only [dAnd, e₁, R.bind, R.opt, ht]; rfl
      rw [e]
      exact wpAny_mono (hs n A env β₁ ρ μ₁ s₁ pos X₁ (by simpa only [R.opt, R.bind, ht, if_true] using hb₁)) (fun _ _ q => q.after p₁) fun _ _ q => q.after p₁
theorem SimB.or {e e' : Expr} {es : List Expr} {d ds : DE} (h : SimE P B e d) (hs : SimB P B .Or (e' :: es) ds) : SimB P B .Or (e :: e' :: es) (dOr d ds) := fun n A env β ρ μ s pos X hb => by
  show wpAny P.M A (do
    let v ← eval e env
    standAt pos
    let t ← holding [v] (truthy v)
    match BoolOp.Or, t with
    | .And, false | .Or, true => pure v
    | _, _ => boolOp pos .Or (evalEach (e' :: es) env)) _ _ s
  refine wpAny_bind (useE h X hb (fun a μ₁ β₁ x s₁ e₁ p₁ r₁ hb₁ X₁ => ?_) fun u s₁ q => q)
  refine wpAny_bind (wpAny_standAt (wpAny_bind (wpAny_holding ?_)))
  cases ht : truth μ₁ a with
  | none => simp only [ht, R.opt, R.bind] at hb₁; exact absurd rfl hb₁
  | some t =>
    refine truth_ok r₁ ht ?_
    cases t with
    | true =>
      have e : dOr d ds (P.cx n) ρ μ = .ok a μ₁ := by simp only [dOr, e₁, R.bind, R.opt, ht]; rfl
      rw [e]; exact wpAny_pure ((okNow X₁.inv r₁).after p₁)
    | false =>
      have e : dOr d ds (P.cx n) ρ μ = ds (P.cx n) ρ μ₁ := by simp only [dOr, e₁, R.bind, R.opt, ht]; rfl
      rw [e]
      exact wpAny_mono (hs n A env β₁ ρ μ₁ s₁ pos X₁ (by simpa [R.opt, R.bind, ht] using hb₁)) (fun _ _ q => q.after p₁) fun _ _ q => q.after p₁
theorem SimE.boolOp {op : BoolOp} {es : List Expr} {d : DE} {pos : Pos} (h : SimB P B op es d) : SimE P B (.BoolOp op es pos) d := fun n A env β ρ μ s X hb => h n A env β ρ μ s pos X hb

/- displays -/
theorem useL {γ : Type} {n : Nat} {A : Around} {env : Env} {β : Bk} {ρ : Fr} {μ : Mem} {s : Shared} {pos : Pos} {es : List Expr} {d : DL} {f : List V → Mem → R γ} {Q : List Value → Shared → Prop} {E : Value → Shared → Prop} (h : SimL P B es d) (x : At P B n A env β ρ μ s) (hb : (d (P.cx n) ρ μ).bind f ≠ .bad)
    (ok : ∀ v μ₁ β₁ u s₁, d (P.cx n) ρ μ = .ok v μ₁ → Post P.toPl β β₁ μ₁ s s₁ → RelL P.toPl β₁ s₁.heap v u → f v μ₁ ≠ .bad → At P B n A env β₁ ρ μ₁ s₁ → Q u s₁)
    (ex : ∀ u s₁, ExE P.toPl env.frame β s ((d (P.cx n) ρ μ).bind f) u s₁ → E u s₁) : wpAny P.M A (spliced (backTo pos (starEach es env))) Q E s := by
  refine wpAny_mono (h n A env β ρ μ s pos x (fun q => hb (by rw [q]; rfl))) (fun u s₁ q => ?_) fun u s₁ q => ?_
  · obtain ⟨v, μ₁, β₁, e1, p, r⟩ := q
    exact ok v μ₁ β₁ u s₁ e1 p r (by rw [e1] at hb; exact hb) (x.post p)
  · obtain ⟨c, μ₁, β₁, e1, p, r⟩ := q
    exact ex u s₁ ⟨c, μ₁, β₁, by rw [e1]; rfl, p, r⟩
theorem SimL.nil : SimL P B [] dNil := fun n A env β ρ μ s _ X _ => wpAny_items_nil ⟨[], μ, β, rfl, .refl X.inv, .nil⟩
theorem SimL.cons {e : Expr} {es : List Expr} {d : DE} {ds : DL} (hn : ∀ env, starEach (e :: es) env = (false, eval e env) :: starEach es env) (h : SimE P B e d) (hs : SimL P B es ds) : SimL P B (e :: es) (dCons d ds) := fun n A env β ρ μ s pos X hb => by
  refine wpAny_items_cons (useE h X hb (fun a μ₁ β₁ x s₁ e₁ p₁ r₁ hb₁ X₁ => ?_) fun u s₁ q => q) (hn env)
  refine useL hs X₁ hb₁ (fun b μ₂ β₂ y s₂ e₂ p₂ r₂ hb₂ X₂ => ?_) fun u s₂ q => ?_
  · exact ⟨a :: b, μ₂, β₂, by simp only [dCons, e₁, e₂, R.bind], p₁.trans p₂, .cons (r₁.post X₁.inv p₂) r₂⟩
  · have e : dCons d ds (P.cx n) ρ μ = (ds (P.cx n) ρ μ₁).bind fun vs μ => .ok (a :: vs) μ := by simp only [dCons, e₁, R.bind]
    rw [e]; exact q.after p₁

theorem lim_line {k : Nat} (h : k ≤ lim) : k ≤ sizeLine := Nat.le_trans h (by decide)

theorem tupNew {P : Pl} {β : Bk} {μ : Mem} {s : Shared} {vs : List V} {xs : List Value} (I : Inv P β μ s.heap) (r : RelL P β s.heap vs xs) (hl : vs.length ≤ lim) :
    OkE P β s (newT μ vs) (.ref s.heap.objs.size) { s with heap := s.heap.push { cls := .type "tuple", data := .seq xs.toArray } } := by
  have hk : Keep β s.heap (s.heap.push { cls := .type "tuple", data := .seq xs.toArray }) := .of fun a o e => Heap.get?_push_of_some _ e
  have hI : Inv P β μ (s.heap.push { cls := .type "tuple", data := .seq xs.toArray }) := I.keep hk fun a o e => Heap.get?_push_of_some _ e
  refine ⟨.tup vs, μ, β, by simp only [newT, hl, if_true], ⟨⟨_, s.toks, rfl⟩, hI, List.prefix_refl _, hk, fun _ h n => absurd h n⟩, ?_⟩
  exact .tup (Heap.get?_push_size _ rfl) (r.mono I (List.prefix_refl _) hk fun _ h n => absurd h n) hl
theorem listNew {P : Pl} {β : Bk} {μ : Mem} {s : Shared} {vs : List V} {xs : List Value} (I : Inv P β μ s.heap) (r : RelL P β s.heap vs xs) (hl : vs.length ≤ lim) :
    OkE P β s (newL μ vs) (.ref s.heap.objs.size) { s with heap := s.heap.push { cls := .type "list", data := .seq xs.toArray } } := by
  refine ⟨.ref μ.length, μ ++ [.list vs], β ++ [s.heap.objs.size], by simp only [newL, hl, if_true], Post.push I _ _ s.toks (.list (Heap.get?_push_size _ rfl) (r.pushed I _) hl), .ref ?_⟩
  rw [← I.len, List.getElem?_append_right (Nat.le_refl _)]; simp
theorem SimE.tup {es : List Expr} {ds : DL} {k : Nat} {pos : Pos} (h : SimL P B es ds) : SimE P B (.Tuple es k pos) (dTup ds) := fun n A env β ρ μ s X hb => by
  refine wpAny_Tuple (useL h X hb (fun vs μ₁ β₁ xs s₁ e₁ p₁ r₁ hb₁ X₁ => ?_) fun u s₁ q => q)
  have hl : vs.length ≤ lim := by
    by_cases q : vs.length ≤ lim
    · exact q
    · simp only [newT, q, if_false] at hb₁; exact absurd rfl hb₁
  have e : dTup ds (P.cx n) ρ μ = newT μ₁ vs := by simp only [dTup, e₁, R.bind]
  exact ⟨lim_line (r₁.length ▸ hl), by rw [e]; exact (tupNew X₁.inv r₁ hl).after p₁⟩
theorem SimE.list {es : List Expr} {ds : DL} {pos : Pos} (h : SimL P B es ds) : SimE P B (.List es pos) (dLst ds) := fun n A env β ρ μ s X hb => by
  refine wpAny_List (useL h X hb (fun vs μ₁ β₁ xs s₁ e₁ p₁ r₁ hb₁ X₁ => ?_) fun u s₁ q => q)
  have hl : vs.length ≤ lim := by
    by_cases q : vs.length ≤ lim
    · exact q
    · simp only [newL, q, if_false] at hb₁; exact absurd rfl hb₁
  have e : dLst ds (P.cx n) ρ μ = newL μ₁ vs := by simp only [dLst, e₁, R.bind]
  exact ⟨lim_line (r₁.length ▸ hl), by rw [e]; exact (listNew X₁.inv r₁ hl).after p₁⟩
end
end
end Mine
end
section
set_option autoImplicit false
set_option tactic.hygienic false
set_option backward.eqns.nonrecursive false
namespace Mine
noncomputable section
open PySem PyProof.Rows PySem.SeqAt

section
variable {P : Pl} {β : Bk} {μ : Mem} {h : Heap}

theorem readsAll_of (n : Nat) (ih : ∀ v x d, toD n μ v = some d → Rel P β h v x → (∃ as, Reads h x d as) ∧ d.canLay0 = true ∧ d.depth ≤ n) :
    ∀ (vs : List V) (xs : List Value) (ds : List PyData), allD (toD n μ) vs = some ds → RelL P β h vs xs → (∃ as, ReadsAll h xs ds as) ∧ PyData.canLayAll0 ds = true ∧ PyData.depthAll ds ≤ n
  | [], _, ds, e, .nil => by cases e; exact ⟨⟨[], .nil⟩, rfl, Nat.zero_le _⟩
  | v :: vs, _, ds, e, .cons (x := x) (xs := xs) r rs => by
    simp only [allD] at e
    cases hd : toD n μ v with
    | none => simp [hd] at e
    | some d =>
      simp only [hd] at e
      cases hds : allD (toD n μ) vs with
      | none => simp [hds] at e
      | some ds' =>
        simp only [hds, Option.map_some, Option.some.injEq] at e
        subst e
        obtain ⟨⟨as, h1⟩, h2, h3⟩ := ih v x d hd r
        obtain ⟨⟨bs, h4⟩, h5, h6⟩ := readsAll_of n ih vs xs ds' hds rs
        exact ⟨⟨as ++ bs, .cons h1 h4⟩, by simp [PyData.canLayAll0, h2, h5], by simp only [PyData.depthAll]; omega⟩

set_option tactic.hygienic true in
theorem reads_of (I : Inv P β μ h) : ∀ n v x d, toD n μ v = some d → Rel P β h v x → (∃ as, Reads h x d as) ∧ d.canLay0 = true ∧ d.depth ≤ n := by
  intro n
  induction n with
  | zero =>
    intro v x d e r
    cases r <;> simp only [toD] at e <;> first
      | (cases e; exact ⟨⟨[], .none⟩, rfl, by simp [PyData.depth]⟩)
      | (cases e; exact ⟨⟨[], .bool _⟩, rfl, by simp [PyData.depth]⟩)
      | (cases e; exact ⟨⟨[], .int _ _⟩, rfl, by simp [PyData.depth]⟩)
      | (rename_i h1 h2; cases e; exact ⟨⟨[], .str _ _⟩, h1, by simp [PyData.depth]⟩)
      | cases e
  | succ n ih =>
    intro v x d e r
    cases r with
    | none => simp only [toD] at e; cases e; exact ⟨⟨[], .none⟩, rfl, by simp [PyData.depth]⟩
    | bool b => simp only [toD] at e; cases e; exact ⟨⟨[], .bool _⟩, rfl, by simp [PyData.depth]⟩
    | int i t => simp only [toD] at e; cases e; exact ⟨⟨[], .int _ _⟩, rfl, by simp [PyData.depth]⟩
    | str h1 h2 => simp only [toD] at e; cases e; exact ⟨⟨[], .str _ _⟩, h1, by simp [PyData.depth]⟩
    | @tup a vs m xs h1 h2 _ =>
      simp only [toD] at e
      cases hd : allD (toD n μ) xs with
      | none => simp [hd] at e
      | some ds =>
        simp only [hd, Option.map_some, Option.some.injEq] at e
        subst e
        obtain ⟨⟨as, q1⟩, q2, q3⟩ := readsAll_of n ih xs _ ds hd h2
        exact ⟨⟨as, .tuple h1 rfl rfl q1⟩, by simpa [PyData.canLay0] using q2, by simp only [PyData.depth]; omega⟩
    | @ref i a h1 =>
      simp only [toD] at e
      cases hm : μ[i]? with
      | none => simp [hm] at e
      | some o =>
        simp only [hm] at e
        cases o with
        | list xs =>
          cases hd : allD (toD n μ) xs with
          | none => simp [hd] at e
          | some ds =>
            simp only [hd, Option.map_some, Option.some.injEq] at e
            subst e
            have ro := I.obj i _ a hm h1
            cases ro with
            | list g1 g2 _ =>
              obtain ⟨⟨as, q1⟩, q2, q3⟩ := readsAll_of n ih xs _ ds hd g2
              exact ⟨⟨a :: as, .list g1 rfl rfl q1⟩, by simpa [PyData.canLay0] using q2, by simp only [PyData.depth]; omega⟩
        | inst => cases e
        | ns => cases e
        | dic => cases e
    | scr => cases e
end

section
variable {P : Pg} {B : Blk}

theorem cmpEq : CmpOk P .Eq cEq := fun A β μ s a b x y t Q E hu I ra rb h k => by
  simp only [cEq, eqV] at h
  cases h1 : toD deep μ a with
  | none => simp [h1] at h
  | some d =>
    cases h2 : toD deep μ b with
    | none => simp [h1, h2] at h
    | some e =>
      simp only [h1, h2, Option.some.injEq] at h
      subst h
      obtain ⟨⟨as, r1⟩, c1, l1⟩ := reads_of I deep a x d h1 ra
      obtain ⟨⟨bs, r2⟩, c2, l2⟩ := reads_of I deep b y e h2 rb
      exact compareEq_reads r1 r2 c1 c2 (by simp only [deep] at l1 l2; omega) (k s.toks)
theorem cmpNe : CmpOk P .NotEq cNe := fun A β μ s a b x y t Q E hu I ra rb h k => by
  simp only [cNe, eqV] at h
  cases h1 : toD deep μ a with
  | none => simp [h1] at h
  | some d =>
    cases h2 : toD deep μ b with
    | none => simp [h1, h2] at h
    | some e =>
      simp only [h1, h2, Option.map_some, Option.some.injEq] at h
      subst h
      obtain ⟨⟨as, r1⟩, c1, l1⟩ := reads_of I deep a x d h1 ra
      obtain ⟨⟨bs, r2⟩, c2, l2⟩ := reads_of I deep b y e h2 rb
      exact compareNe_reads r1 r2 c1 c2 (by simp only [deep] at l1 l2; omega) (k s.toks)
theorem two_ints {β : Bk} {h : Heap} {f : Int → Int → Bool} {a b : V} {x y : Value} {t : Bool} (ra : Rel P.toPl β h a x) (rb : Rel P.toPl β h b y) (e : cInt f a b = some t) : ∃ i j p q, x = .int i p ∧ y = .int j q ∧ f i j = t := by
  cases b with
  | int j =>
    cases a with
    | int i =>
      obtain ⟨p, ex⟩ := ra.int'
      obtain ⟨q, ey⟩ := rb.int'
      exact ⟨i, j, p, q, ex, ey, Option.some.inj e⟩
    | _ => cases e
  | _ => cases e
theorem cmpLt : CmpOk P .Lt cLt := fun A β μ s a b x y t Q E _ _ ra rb h k => by
  obtain ⟨i, j, p, q, rfl, rfl, rfl⟩ := two_ints ra rb h
  exact PySem.P.lt_int (k s.toks)
theorem cmpLe : CmpOk P .LtE cLe := fun A β μ s a b x y t Q E _ _ ra rb h k => by
  obtain ⟨i, j, p, q, rfl, rfl, rfl⟩ := two_ints ra rb h
  exact PySem.P.le_int (k s.toks)
theorem cmpGt : CmpOk P .Gt cGt := fun A β μ s a b x y t Q E _ _ ra rb h k => by
  obtain ⟨i, j, p, q, rfl, rfl, rfl⟩ := two_ints ra rb h
  exact PySem.P.gt_int (k s.toks)
theorem in_reads {A : Around} {β : Bk} {μ : Mem} {s : Shared} {a b : V} {x y : Value} {t : Bool} (hu : A.units + 200 < cLine) (I : Inv P.toPl β μ s.heap) (ra : Rel P.toPl β s.heap a x) (rb : Rel P.toPl β s.heap b y) (h : cIn μ a b = some t) :
    ∃ d ds as bs, t = (ds.any fun y => PyData.eqv y d) ∧ (Reads s.heap y (.list ds) as ∨ Reads s.heap y (.tuple ds) as) ∧ Reads s.heap x d bs ∧ PyData.canLayAll0 ds = true ∧ d.canLay0 = true ∧ A.units + 1 + min (PyData.depthAll ds) d.depth < cLine := by
  cases rb with
  | @tup l vs n xs g1 g2 g3 =>
    simp only [cIn] at h
    cases h1 : toD deep μ a with
    | none => simp [h1] at h
    | some d =>
      cases h2 : allD (toD deep μ) xs with
      | none => simp [h1, h2] at h
      | some ds =>
        simp only [h1, h2, Option.some.injEq] at h
        obtain ⟨⟨as, r1⟩, c1, l1⟩ := reads_of I deep a x d h1 ra
        obtain ⟨⟨bs, r2⟩, c2, l2⟩ := readsAll_of deep (reads_of I deep) xs _ ds h2 g2
        exact ⟨d, ds, bs, as, h.symm, .inr (.tuple g1 rfl rfl r2), r1, c2, c1, by simp only [deep] at l1 l2; omega⟩
  | @ref i l e =>
    simp only [cIn] at h
    cases hm : μ[i]? with
    | none => simp [hm] at h
    | some o =>
      cases o with
      | list xs =>
        simp only [hm] at h
        have ro := I.obj i _ l hm e
        cases ro with
        | list g1 g2 g3 =>
          cases h1 : toD deep μ a with
          | none => simp [h1] at h
          | some d =>
            cases h2 : allD (toD deep μ) xs with
            | none => simp [h1, h2] at h
            | some ds =>
              simp only [h1, h2, Option.some.injEq] at h
              obtain ⟨⟨as, r1⟩, c1, l1⟩ := reads_of I deep a x d h1 ra
              obtain ⟨⟨bs, r2⟩, c2, l2⟩ := readsAll_of deep (reads_of I deep) xs _ ds h2 g2
              exact ⟨d, ds, l :: bs, as, h.symm, .inl (.list g1 rfl rfl r2), r1, c2, c1, by simp only [deep] at l1 l2; omega⟩
      | inst c d => simp [hm] at h
      | ns c => simp [hm] at h
      | dic => simp [hm] at h
  | _ => cases h

theorem cmpIn : CmpOk P .In cIn := fun A β μ s a b x y t Q E hu I ra rb h k => by
  obtain ⟨d, ds, as, bs, rfl, r | r, h1, h2, h3, h4⟩ := in_reads hu I ra rb h
  · exact in_list_reads r h1 h2 h3 h4 (k s.toks)
  · exact in_tuple_reads r h1 h2 h3 h4 (k s.toks)
end
end
end Mine
end
section
set_option autoImplicit false
set_option tactic.hygienic false
set_option backward.eqns.nonrecursive false
namespace Mine
noncomputable section
open PySem PyProof.Rows PySem.SeqAt

section
variable {P : Pg} {B : Blk}

theorem strOk_append {a b : Str} (ha : PyData.strOk a = true) (hb : PyData.strOk b = true) : PyData.strOk (a ++ b) = true := by
  have : (a ++ b).cps = a.cps ++ b.cps := rfl
  simp only [PyData.strOk, this, Array.all_append, Bool.and_eq_true] at *
  exact ⟨ha, hb⟩

theorem newT_lim {μ : Mem} {xs : List V} (h : newT μ xs ≠ .bad) : xs.length ≤ lim := by
  by_cases q : xs.length ≤ lim
  · exact q
  · simp only [newT, q, if_false] at h; exact absurd rfl h
theorem newL_lim {μ : Mem} {xs : List V} (h : newL μ xs ≠ .bad) : xs.length ≤ lim := by
  by_cases q : xs.length ≤ lim
  · exact q
  · simp only [newL, q, if_false] at h; exact absurd rfl h
theorem newS_lim {μ : Mem} {x : Str} (h : newS μ x ≠ .bad) : x.length ≤ lim := by
  by_cases q : x.length ≤ lim
  · exact q
  · simp only [newS, q, if_false] at h; exact absurd rfl h

theorem op_ints {β : Bk} {h : Heap} {f : Int → Int → R V} {a b : V} {x y : Value} (ra : Rel P.toPl β h a x) (rb : Rel P.toPl β h b y) (hb : opInt f a b ≠ .bad) : ∃ i j p q, x = .int i p ∧ y = .int j q ∧ opInt f a b = f i j := by
  cases b with
  | int j =>
    cases a with
    | int i =>
      obtain ⟨p, ex⟩ := ra.int'
      obtain ⟨q, ey⟩ := rb.int'
      exact ⟨i, j, p, q, ex, ey, rfl⟩
    | _ => exact absurd rfl hb
  | _ => exact absurd rfl hb
theorem empty_rel {P : Pl} {β : Bk} {h : Heap} {xs : List V} {vs : Array Value} (r : RelL P β h xs vs.toList) (e : vs.isEmpty = true) : xs = [] := by
  have z : vs.toList = [] := by simpa using e
  rw [z] at r; cases r; rfl
theorem add_size {P : Pl} {β : Bk} {h : Heap} {xs xs' : List V} {vs vs' : Array Value} (r : RelL P β h xs vs.toList) (r' : RelL P β h xs' vs'.toList) (hl : (xs ++ xs').length ≤ lim) : vs.size + vs'.size ≤ lim := by
  have q1 := r.length; have q2 := r'.length
  rw [List.length_append, q1, q2] at hl; exact hl
theorem add_tups {A : Around} {β : Bk} {μ : Mem} {s : Shared} {xs ys : List V} {x y : Value} {L : Option Addr} (I : Inv P.toPl β μ s.heap) (ta : TupAt P.toPl β s.heap xs x) (tb : TupAt P.toPl β s.heap ys y) (hl : (xs ++ ys).length ≤ lim) :
    wpAny P.M A (binaryOp .Add x y) (OkE P.toPl β s (newT μ (xs ++ ys))) (ExE P.toPl L β s (newT μ (xs ++ ys))) s := by
  obtain ⟨l, vs, n, rfl, h1, h2, h3⟩ := ta
  obtain ⟨l', vs', n', rfl, g1, g2, g3⟩ := tb
  by_cases e1 : vs.isEmpty = true
  · obtain rfl := empty_rel h2 e1
    exact concat_meets ⟨_, h1, rfl⟩ ⟨_, g1, rfl⟩ noFill_tuple_add seq_tuple_add F.slot_tuple_add F.entry_tuple_add (F.args_tuple_add_2 _ _) (tuple_addW0 l l' vs vs' n n' none none #[] #[] e1) ⟨h1, g1, ⟨_, μ, β, if_pos g3, .refl I, .tup g1 g2 g3⟩⟩
  · by_cases e2 : vs'.isEmpty = true
    · obtain rfl := empty_rel g2 e2
      rw [List.append_nil]
      exact concat_meets ⟨_, h1, rfl⟩ ⟨_, g1, rfl⟩ noFill_tuple_add seq_tuple_add F.slot_tuple_add F.entry_tuple_add (F.args_tuple_add_2 _ _) (tuple_addW1 l l' vs vs' n n' none none #[] #[] e1 e2) ⟨h1, g1, ⟨_, μ, β, if_pos h3, .refl I, .tup h1 h2 h3⟩⟩
    · refine PySem.P.add_tuple h1 g1 e1 e2 ?_ (lim_line (add_size h2 g2 hl))
      have := tupNew I (h2.append g2) hl
      rw [show (vs ++ vs') = (vs.toList ++ vs'.toList).toArray from by simp]
      exact this
theorem add_lists {A : Around} {β : Bk} {μ : Mem} {s : Shared} {xs ys : List V} {x y : Value} {L : Option Addr} (I : Inv P.toPl β μ s.heap) (ta : LstAt P.toPl β s.heap xs x) (tb : LstAt P.toPl β s.heap ys y) (hl : (xs ++ ys).length ≤ lim) :
    wpAny P.M A (binaryOp .Add x y) (OkE P.toPl β s (newL μ (xs ++ ys))) (ExE P.toPl L β s (newL μ (xs ++ ys))) s := by
  obtain ⟨l, vs, n, rfl, h1, h2, _⟩ := ta
  obtain ⟨l', vs', n', rfl, g1, g2, _⟩ := tb
  refine PySem.P.add_list h1 g1 ?_ (lim_line (add_size h2 g2 hl))
  have := listNew I (h2.append g2) hl
  rw [show (vs ++ vs') = (vs.toList ++ vs'.toList).toArray from by simp]
  exact this
set_option tactic.hygienic true in
theorem add_refs {μ : Mem} {i j : Nat} (hb : opAdd (.ref i) (.ref j) μ ≠ .bad) : ∃ xs ys, μ[i]? = some (.list xs) ∧ μ[j]? = some (.list ys) ∧ opAdd (.ref i) (.ref j) μ = newL μ (xs ++ ys) := by
  simp only [opAdd] at hb ⊢
  split at hb
  · rename_i xs ys e1 e2; exact ⟨xs, ys, e1, e2, rfl⟩
  · exact absurd rfl hb
theorem opAdd_ok : OpOk P .Add opAdd := fun A β μ s a b x y L hu I ra rb hb => by
  cases a with
  | int i => cases b with
    | int j =>
      obtain ⟨t, rfl⟩ := ra.int'
      obtain ⟨u, rfl⟩ := rb.int'
      exact PySem.P.add_int (okTok _ I (.int _ _))
    | _ => exact absurd rfl hb
  | str p => cases b with
    | str q =>
      obtain ⟨t, rfl, h1, h2⟩ := ra.str'
      obtain ⟨u, rfl, h3, h4⟩ := rb.str'
      have hl := newS_lim hb
      exact add_str (fun t' tk => ⟨_, μ, β, if_pos hl, .toks I tk, .str (strOk_append h1 h3) hl⟩) (by simp only [sizeLine, lim] at *; omega)
    | _ => exact absurd rfl hb
  | tup xs => cases b with
    | tup ys => exact add_tups I ra.tup' rb.tup' (newT_lim hb)
    | _ => exact absurd rfl hb
  | ref i => cases b with
    | ref j =>
      obtain ⟨xs, ys, e1, e2, e⟩ := add_refs hb
      rw [e] at hb ⊢
      exact add_lists I (I.lst ra e1) (I.lst rb e2) (newL_lim hb)
    | _ => exact absurd rfl hb
  | _ => exact absurd rfl hb

theorem opSub_ok : OpOk P .Sub opSub := fun A β μ s a b x y L hu I ra rb hb => by
  obtain ⟨i, j, p, q, rfl, rfl, e⟩ := op_ints ra rb hb
  replace e : opSub a b μ = _ := e
  rw [e]
  exact PySem.P.sub_int (okTok _ I (.int _ _))
theorem opDiv_ok : OpOk P .FloorDiv opDiv := fun A β μ s a b x y L hu I ra rb hb => by
  obtain ⟨i, j, p, q, rfl, rfl, e⟩ := op_ints ra rb hb
  replace e : opDiv a b μ = _ := e
  rw [e] at hb ⊢
  by_cases h : j = 0 ∨ 1073741824 ≤ j.natAbs
  · rw [if_pos h] at hb; exact absurd rfl hb
  · rw [if_neg h]
    exact floordiv_int (fun q => h (.inl q)) (okTok _ I (.int _ _)) (.inl (PyProof.noPylong_small (by omega)))
theorem opMod_ok : OpOk P .Mod opMod := fun A β μ s a b x y L hu I ra rb hb => by
  obtain ⟨i, j, p, q, rfl, rfl, e⟩ := op_ints ra rb hb
  replace e : opMod a b μ = _ := e
  rw [e] at hb ⊢
  by_cases h : j = 0
  · rw [if_pos h] at hb; exact absurd rfl hb
  · rw [if_neg h]; exact mod_int' h (okTok _ I (.int _ _))


theorem small_bits {i : Int} (h : small i = true) : Builtin.Int.intBits i ≤ 64 := by
  simp only [small, Bool.and_eq_true, decide_eq_true_eq] at h
  exact intBits_le_64 (by omega) (by omega)
theorem opMul_ok : OpOk P .Mult opMul := fun A β μ s a b x y L hu I ra rb hb => by
  obtain ⟨i, j, p, q, rfl, rfl, e⟩ := op_ints ra rb hb
  replace e : opMul a b μ = _ := e
  rw [e] at hb ⊢
  by_cases h : (small i || small j) = true
  · rw [if_pos h]
    refine PySem.P.mul_int (okTok _ I (.int _ _)) ?_
    rcases Bool.or_eq_true_iff.mp h with q | q
    · exact .of_left (small_bits q)
    · exact .of_right (small_bits q)
  · rw [if_neg h] at hb; exact absurd rfl hb

theorem SimE.neg {e : Expr} {d : DE} {pos : Pos} (h : SimE P B e d) : SimE P B (.UnaryOp .USub e pos) (dUn opNeg d) := fun n A env β ρ μ s X hb => by
  refine wpAny_UnaryOp (useE h X hb (fun a μ₁ β₁ x s₁ e₁ p₁ r₁ hb₁ X₁ => ?_) fun u s₁ q => q)
  have e : dUn opNeg d (P.cx n) ρ μ = opNeg a μ₁ := by simp only [dUn, e₁, R.bind]
  rw [e]
  cases a with
  | int i =>
    obtain ⟨t, rfl⟩ := r₁.int'
    exact PySem.P.neg_int ((okTok _ X₁.inv (.int _ _)).after p₁)
  | _ => exact absurd rfl hb₁
end
end
end Mine
end
section
set_option autoImplicit false
set_option tactic.hygienic false
set_option backward.eqns.nonrecursive false
namespace Mine
noncomputable section
open PySem PyProof.Rows PySem.SeqAt

section
variable {P : Pg} {B : Blk}

theorem small_lo {i : Int} (h : small i = true) : -(2 ^ 63 : Int) ≤ i ∧ i < 2 ^ 63 := by
  simp only [small, Bool.and_eq_true, decide_eq_true_eq] at h; omega

set_option tactic.hygienic true in
theorem seqIndex_facts {i : Int} {n k : Nat} (h : seqIndex? i n = some k) : (0 ≤ i ∧ k = i.toNat ∧ i < n) ∨ (i < 0 ∧ -(n : Int) ≤ i ∧ k = (i + n).toNat) := by
  unfold seqIndex? at h
  simp only at h
  split at h
  · split at h <;> cases h
    rename_i h1 h2
    simp only [Bool.and_eq_true, decide_eq_true_eq] at h2
    omega
  · split at h <;> cases h
    rename_i h1 h2
    simp only [Bool.and_eq_true, decide_eq_true_eq] at h2
    omega

inductive AtF (i : Int) (xs : List V) : Prop
  | mk (v : V) (k : Nat) (e : at? i xs = some v) (s : small i = true) (hk : seqIndex? i xs.length = some k) (hx : xs[k]? = some v)
set_option tactic.hygienic true in
theorem at_facts {μ : Mem} {i : Int} {xs : List V} (hb : R.opt μ (at? i xs) ≠ .bad) : AtF i xs := by
  cases hv : at? i xs with
  | none => rw [hv] at hb; exact absurd rfl hb
  | some v =>
    have hw := hv
    unfold at? at hw
    split at hw
    · rename_i hsm
      obtain ⟨k, hk, hx⟩ := Option.bind_eq_some_iff.mp hw
      exact ⟨v, k, hv, hsm, hk, hx⟩
    · cases hw
section
variable {A : Around} {β : Bk} {μ : Mem} {s : Shared} {xs : List V} {x : Value} {L : Option Addr} {i : Int} {t : Tok}
theorem item_lstS {l : Addr} {items : Array Value} (I : Inv P.toPl β μ s.heap) (hl : s.heap.IsList l items) (hr : RelL P.toPl β s.heap xs items.toList) (hb : R.opt μ (at? i xs) ≠ .bad) :
    wpAny P.M A (getItem (.ref l) (.int i t)) (OkE P.toPl β s (R.opt μ (at? i xs))) (ExE P.toPl L β s (R.opt μ (at? i xs))) s := by
  obtain ⟨v, k, e, hsm, hk, hx⟩ := at_facts hb
  rw [e]
  obtain ⟨u, hu, hR⟩ := hr.get hx
  have hlen : xs.length = items.size := hr.length
  rw [Array.getElem?_toList] at hu
  rcases seqIndex_facts hk with ⟨h0, rfl, h1⟩ | ⟨h0, h1, rfl⟩
  · exact wpAny_getItem_list hl h0 (small_lo hsm).2 hu (okNow I hR)
  · rw [hlen] at h1 hu
    exact wpAny_getItem_list_neg hl h0 h1 (small_lo hsm).1 (x := u) hu (okNow I hR)
theorem item_tupS (I : Inv P.toPl β μ s.heap) (T : TupAt P.toPl β s.heap xs x) (hb : R.opt μ (at? i xs) ≠ .bad) :
    s.TypeIs x "tuple" ∧ wpAny P.M A (getItem x (.int i t)) (OkE P.toPl β s (R.opt μ (at? i xs))) (ExE P.toPl L β s (R.opt μ (at? i xs))) s := by
  obtain ⟨l, vs, n, rfl, g1, g2, g3⟩ := T
  obtain ⟨v, k, e, hsm, hk, hx⟩ := at_facts hb
  rw [e]
  obtain ⟨u, hu, hR⟩ := g2.get hx
  rw [Array.getElem?_toList] at hu
  have hlen : xs.length = vs.size := g2.length
  rw [hlen] at hk
  exact ⟨⟨_, g1, rfl⟩, PySem.P.getItem_tuple g1 (small_lo hsm).1 (small_lo hsm).2 hk hu (okNow I hR)⟩
set_option tactic.hygienic true in
theorem item_refS {j : Nat} (hb : item μ (.ref j) (.int i) ≠ .bad) : ∃ xs, μ[j]? = some (.list xs) ∧ item μ (.ref j) (.int i) = R.opt μ (at? i xs) := by
  simp only [item] at hb ⊢
  split at hb
  · rename_i xs e; exact ⟨xs, e, rfl⟩
  · exact absurd rfl hb
theorem sign_ok {p : Str} {c : Nat} {k : Option Nat} (g : PyData.strOk p = true) (hv : k.bind (p.cps[·]?) = some c) : PyData.strOk ⟨#[c]⟩ = true := by
  obtain ⟨k, _, hk⟩ := Option.bind_eq_some_iff.mp hv
  simp only [PyData.strOk, Array.all_eq_true, decide_eq_true_eq] at g ⊢
  intro j hj
  obtain ⟨hk1, hk2⟩ := Array.getElem?_eq_some_iff.mp hk
  have := g k hk1
  simp at hj; subst hj
  simpa [hk2] using this
end
theorem item_ok {A : Around} {β : Bk} {μ : Mem} {s : Shared} {a b : V} {x y : Value} {value slice : Expr} {L : Option Addr} (I : Inv P.toPl β μ s.heap) (ra : Rel P.toPl β s.heap a x) (rb : Rel P.toPl β s.heap b y) (hb : item μ a b ≠ .bad)
    (hs : ∀ i, subscripted slice false x i = operate [x, i] (getItem x i)) :
    wpAny P.M A (subscriptTail value slice x y) (OkE P.toPl β s (item μ a b)) (ExE P.toPl L β s (item μ a b)) s := by
  cases b with
  | int i =>
    obtain ⟨t, rfl⟩ := rb.int'
    cases a with
    | tup xs =>
      obtain ⟨h1, h2⟩ := item_tupS (L := L) I ra.tup' hb
      exact tail_any h1 slot_tuple_getitem.lookup h2 (hs _)
    | ref j =>
      obtain ⟨xs, hm, e⟩ := item_refS hb
      obtain ⟨l, vs, n, rfl, a1, a2, a3⟩ := I.lst ra hm
      rw [e] at hb ⊢
      have hl : s.heap.IsList l vs := ⟨_, a1, rfl, n, rfl⟩
      exact tail_any hl.typeIs slot_list_getitem.lookup (item_lstS I hl a2 hb) (hs _)
    | scr ns =>
      obtain ⟨l, items, rfl, ⟨o, e1, e2⟩, g3⟩ := ra.scr'
      have hl : s.heap.IsList l items := ⟨o, I.base _ _ e1, e2⟩
      exact tail_any hl.typeIs slot_list_getitem.lookup (item_lstS I hl g3 hb) (hs _)
    | str p =>
      obtain ⟨t', rfl, g1, g2⟩ := ra.str'
      by_cases hsm : small i = true
      · have e : item μ (.str p) (.int i) = R.opt μ (((seqIndex? i p.length).bind (p.cps[·]?)).map fun c => V.str ⟨#[c]⟩) := if_pos hsm
        rw [e] at hb ⊢
        cases hv : (seqIndex? i p.length).bind (p.cps[·]?) with
        | none => rw [hv] at hb; exact absurd rfl hb
        | some c =>
          have hlo := small_lo hsm
          exact tail_any (typeIs_str s p t') slot_str_getitem.lookup (getItem_str (by simp; omega) hv (okTok _ I (.str (sign_ok g1 hv) (show (1 : Nat) ≤ lim by decide)))) (hs _)
      · exact absurd (if_neg hsm) hb
    | _ => exact absurd rfl hb
  | _ => exact absurd rfl hb

theorem SimE.idx {a i : Expr} {da di : DE} {pos : Pos} (hs : ∀ x y, subscripted i false x y = operate [x, y] (getItem x y)) (ha : SimE P B a da) (hi : SimE P B i di) : SimE P B (.Subscript a i pos) (dIdx da di) :=
  fun n A env β ρ μ s X hb => by
    refine Subscript_ (useE ha X hb (fun v μ₁ β₁ x s₁ e₁ p₁ r₁ hb₁ X₁ => ?_) fun u s₁ q => q)
    refine useE hi X₁ hb₁ (fun k μ₂ β₂ y s₂ e₂ p₂ r₂ hb₂ X₂ => ?_) fun u s₂ q => ?_
    · have e : dIdx da di (P.cx n) ρ μ = item μ₂ v k := by simp only [dIdx, e₁, e₂, R.bind]
      rw [e]
      exact wpAny_mono (item_ok X₂.inv (r₁.post X₁.inv p₂) r₂ hb₂ (fun _ => hs _ _)) (fun _ _ q => (q.after p₂).after p₁) fun _ _ q => (q.after p₂).after p₁
    · have e : dIdx da di (P.cx n) ρ μ = (di (P.cx n) ρ μ₁).bind fun k μ => item μ v k := by simp only [dIdx, e₁, R.bind]
      rw [e]; exact q.after p₁

/- slices -/
theorem RelL.cut {P : Pl} {β : Bk} {h : Heap} {vs : List V} {xs : List Value} (r : RelL P β h vs xs) (lo hi : Option Int) : RelL P β h (cut lo hi vs) (Mine.cut lo hi xs) := by
  unfold Mine.cut
  rw [r.length]
  exact (r.drop _).take _
theorem cut_length {α : Type} (lo hi : Option Int) (xs : List α) : (cut lo hi xs).length ≤ xs.length := by
  unfold cut
  rw [List.length_take, List.length_drop]
  omega
theorem cut_mem {α : Type} {lo hi : Option Int} {xs : List α} {a : α} (h : a ∈ cut lo hi xs) : a ∈ xs := List.mem_of_mem_drop (List.mem_of_mem_take h)
theorem pick_cut (items : Array Value) (lo hi : Option Int) : slicePick items lo hi none = (cut lo hi items.toList).toArray := by
  rw [slicePick_plain]; simp [cut]

theorem clip_le (n : Nat) (i : Int) : clipAt n i ≤ n := by have := clipAt_cast n i; omega
theorem adjust_cut (lo hi : Option Int) (n : Nat) : Builtin.Slice.sliceAdjust lo hi 1 (n : Int) = (((lo.elim 0 (clipAt n) : Nat) : Int), ((hi.elim n (clipAt n) : Nat) : Int)) := by
  unfold Builtin.Slice.sliceAdjust
  have h1 : ¬ ((1 : Int) < 0) := by omega
  simp only [h1, if_false]
  have one : ∀ i : Int, (if i < 0 then max (i + (n : Int)) 0 else min i (n : Int)) = ((clipAt n i : Nat) : Int) := fun i => by
    rw [clipAt_cast]; split <;> omega
  cases lo <;> cases hi <;> simp [one]
theorem places_cut (a b : Nat) : Builtin.Slice.slicePlaces (a : Int) (b : Int) 1 = b - a := by
  unfold Builtin.Slice.slicePlaces
  have h1 : (1 : Int) > 0 := by omega
  simp only [h1, if_true, Int.ediv_one]
  split <;> omega
theorem picks_cut (xs : Array Value) (a m : Nat) : ((List.range m).filterMap fun (k : Nat) => xs[((a : Int) + (k : Int) * 1).toNat]?) = (xs.toList.drop a).take m := by
  have e : (fun (k : Nat) => xs[((a : Int) + (k : Int) * 1).toNat]?) = fun k => xs[a + k]? := by
    funext k
    have : ((a : Int) + (k : Int) * 1).toNat = a + k := by omega
    rw [this]
  rw [e]
  have := pick_run xs a m
  rw [List.filterMap_map] at this
  exact this
theorem slicePart_of {prog : Program} {w : World} {A : Around} {E : Value → Shared → Prop} {s : Shared} {v : Value} {i : Option Int} {Q : Option Int → Shared → Prop} (p : IsPart v i) (h : Q i s) : wpAny (model prog w) A (Builtin.Slice.slicePartIndex v) Q E s := by
  cases p with
  | none => exact slicePart_none h
  | int i t => exact slicePart_int h

theorem getItem_tuple_cut {prog : Program} {w : World} {A : Around} {E : Value → Shared → Prop} {s : Shared} {t sl : Addr} {items : Array Value} {n : Nat} {vl vu : Value} {lo hi : Option Int} {Q : Value → Shared → Prop} (ht : IsT s.heap t items n) (hs : s.heap.IsSliceOf sl vl vu .none) (pl : IsPart vl lo) (pu : IsPart vu hi)
    (h1 : cut lo hi items.toList = items.toList → Q (.ref t) s)
    (h : Q (.ref s.heap.objs.size) { s with heap := s.heap.push { cls := .type "tuple", data := .seq (cut lo hi items.toList).toArray } })
    (hsz : items.size ≤ sizeLine) : wpAny (model prog w) A (getItem (.ref t) (.ref sl)) Q E s := by
  have hT : s.TypeIs (.ref t) "tuple" := ⟨_, ht, rfl⟩
  have hI : IsTup s.heap t items := ⟨_, ht, rfl, n, rfl⟩
  have hdrop : sizeOk (.seq (cut lo hi items.toList).toArray) := by
    show (cut lo hi items.toList).toArray.size ≤ sizeLine
    rw [List.size_toArray]
    have := cut_length lo hi items.toList
    simp at this; omega
  obtain ⟨os, hos, hcs, hds⟩ := id hs
  have hTs : s.TypeIs (.ref sl) "slice" := ⟨os, hos, hcs⟩
  unfold getItem
  try with_reducible refine wpAny_holding ?_
  first | refine wpAny_bind (wpAny_pure ?_) | skip
  refine wpAny_bind (wpAny_sequenceKey hT (by decide) ?_)
  refine wpAny_bind (wpAny_callSpecial?_slot (name := Str.ofString "__getitem__") hT slot_tuple_getitem
    (wpAny_call_entry slot_tuple_getitem hT entry_tuple_getitem ?_ (args_tuple_getitem _ _)))
  show wpAny _ _ (Builtin.Tuple.tupleItemsOf (.ref t) >>= _) _ _ s
  refine wpAny_bind (tupleItemsOf_ hI ?_)
  refine wpAny_bind (wpAny_typeOf hTs ?_)
  rw [if_pos (by decide)]
  have app : ∀ (Q' : Int × Int × Nat → Shared → Prop) (E' : Value → Shared → Prop) (A' : Around), Q' (((lo.elim 0 (clipAt items.size) : Nat) : Int), 1, hi.elim items.size (clipAt items.size) - lo.elim 0 (clipAt items.size)) s → wpAny (model prog w) A' (Builtin.Slice.sliceApplied (.ref sl) (pure (items.size : Int))) Q' E' s := fun Q' E' A' hq => by
    unfold Builtin.Slice.sliceApplied Builtin.Slice.sliceFields
    refine wpAny_bind (wpAny_bind (wpAny_field hos hds (x := vl) rfl (wpAny_bind (wpAny_field hos hds (x := vu) rfl (wpAny_bind (wpAny_field hos hds (x := .none) rfl (wpAny_pure ?_)))))))
    refine wpAny_bind (slicePart_none ?_)
    show wpAny _ _ (if ((1 : Int) == 0) = true then _ else _) _ _ s
    rw [if_neg (by decide)]
    refine wpAny_bind (slicePart_of pl (wpAny_bind (slicePart_of pu (wpAny_bind (wpAny_pure ?_)))))
    show wpAny _ _ (match Builtin.Slice.sliceAdjust lo hi 1 (items.size : Int) with | (lo, hi) => pure (lo, (1 : Int), Builtin.Slice.slicePlaces lo hi 1)) _ _ s
    rw [adjust_cut]
    show wpAny _ _ (pure (_, (1 : Int), Builtin.Slice.slicePlaces _ _ 1)) _ _ s
    rw [places_cut]
    exact wpAny_pure hq
  refine wpAny_bind (app _ _ _ ?_)
  dsimp only
  have ecut : cut lo hi items.toList = (items.toList.drop (lo.elim 0 (clipAt items.size))).take (hi.elim items.size (clipAt items.size) - lo.elim 0 (clipAt items.size)) := by simp [cut]
  by_cases hw : (((lo.elim 0 (clipAt items.size) : Nat) : Int) == 0 && (1 : Int) == 1 && (hi.elim items.size (clipAt items.size) - lo.elim 0 (clipAt items.size)) == items.size) = true
  · have hq : Q (.ref t) s := h1 (by
      simp only [Bool.and_eq_true, beq_iff_eq] at hw
      have z : lo.elim 0 (clipAt items.size) = 0 := by omega
      rw [ecut, hw.2, z, List.drop_zero, List.take_of_length_le (by simp)])
    rw [if_pos hw]
    refine wpAny_bind ?_
    unfold Builtin.Tuple.tupleIsExact
    refine wpAny_bind (wpAny_typeOf hT (wpAny_pure ?_))
    rw [if_pos (by decide)]
    first
      | exact wpAny_bind (wpAny_rule (wpAny_pure ⟨_, rfl, wpAny_pure hq⟩))
      | exact wpAny_bind (wpAny_rule (wpAny_bind (wpAny_pure (wpAny_pure ⟨_, rfl, wpAny_pure hq⟩))))
      | exact wpAny_bind (wpAny_rule (wpAny_bind (wpAny_pure (wpAny_pure ⟨_, rfl, hq⟩))))
      | exact wpAny_bind (wpAny_rule (wpAny_pure ⟨_, rfl, hq⟩))
  · rw [if_neg hw, picks_cut, ← ecut]
    first
      | exact wpAny_bind (m := Builtin.Tuple.tupleExact _) (wpAny_newObj_type (wpAny_pure ⟨_, rfl, wpAny_pure h⟩) hdrop)
      | exact wpAny_bind (m := Builtin.Tuple.tupleExact _) (wpAny_newObj_type (wpAny_bind (wpAny_pure (wpAny_pure ⟨_, rfl, wpAny_pure h⟩))) hdrop)
      | exact wpAny_bind (wpAny_bind (m := Builtin.Tuple.tupleExact _) (wpAny_newObj_type (wpAny_pure (wpAny_pure ⟨_, rfl, wpAny_pure h⟩)) hdrop))
      | exact wpAny_bind (wpAny_bind (m := Builtin.Tuple.tupleExact _) (wpAny_newObj_type (wpAny_pure ⟨_, rfl, wpAny_pure h⟩) hdrop))

theorem idx_cut (lo hi : Option Int) (n : Nat) : Builtin.Str.strSliceIndices lo hi 1 n = (List.range (hi.elim n (clipAt n) - lo.elim 0 (clipAt n))).map (lo.elim 0 (clipAt n) + ·) := by
  have : Builtin.Str.strSliceIndices lo hi 1 n = sliceRange (sliceBounds lo hi none n).1 (sliceBounds lo hi none n).2.1 (sliceBounds lo hi none n).2.2 := rfl
  rw [this, sliceBounds_plain, sliceRange_one]
theorem picks_str (x : Str) (lo hi : Option Int) : (Builtin.Str.strSliceIndices lo hi 1 x.length).filterMap (x.cps[·]?) = cut lo hi x.cps.toList := by
  rw [idx_cut, pick_run]; simp [cut, Str.length]
theorem cutS_whole (x : Str) (lo hi : Option Int) (h : (Builtin.Str.strSliceIndices lo hi 1 x.length).length = x.length) : cutS lo hi x = x := by
  have hl := h
  rw [idx_cut] at hl
  simp only [List.length_map, List.length_range] at hl
  have hle : hi.elim x.length (clipAt x.length) ≤ x.length := by
    cases hi with
    | none => exact Nat.le_refl _
    | some i => exact clip_le _ i
  have e : cut lo hi x.cps.toList = x.cps.toList := by
    unfold cut
    simp only [Array.length_toList]
    change _ = _
    by_cases hx : x.length = 0
    · have : x.cps.toList = [] := by have : x.cps.size = 0 := hx; simpa using this
      rw [this]; simp
    · have z : lo.elim 0 (clipAt x.cps.size) = 0 := by show lo.elim 0 (clipAt x.length) = 0; omega
      have z' : hi.elim x.cps.size (clipAt x.cps.size) = x.cps.size := by show hi.elim x.length (clipAt x.length) = x.length; omega
      rw [z, z', List.drop_zero, List.take_of_length_le (by simp)]
  unfold cutS
  rw [e]
theorem strOk_cut {x : Str} (h : PyData.strOk x = true) (lo hi : Option Int) : PyData.strOk (cutS lo hi x) = true := by
  simp only [PyData.strOk, Array.all_eq_true', decide_eq_true_eq] at h ⊢
  intro c hc
  exact h c (Array.mem_toList_iff.mp (cut_mem (by simpa [cutS] using hc)))

set_option tactic.hygienic true in
theorem getItem_str_cut {prog : Program} {w : World} {A : Around} {E : Value → Shared → Prop} {s : Shared} {x : Str} {t : Tok} {sl : Addr} {vl vu : Value} {lo hi : Option Int} {Q : Value → Shared → Prop} (hs : s.heap.IsSliceOf sl vl vu .none) (pl : IsPart vl lo) (pu : IsPart vu hi)
    (h : ∀ t' tk, Q (.str (cutS lo hi x) t') { s with toks := tk }) (hsz : x.length ≤ lim) : wpAny (model prog w) A (getItem (.str x t) (.ref sl)) Q E s := by
  have part : ∀ {v : Value} {i : Option Int}, IsPart v i → ∃ p : Option (Int × Tok), v = partValue p ∧ p.map (·.1) = i := fun p => by
    cases p with
    | none => exact ⟨none, rfl, rfl⟩
    | int i t => exact ⟨some (i, t), rfl, rfl⟩
  obtain ⟨l, rfl, rfl⟩ := part pl
  obtain ⟨u, rfl, rfl⟩ := part pu
  refine wpAny_getItem_str_slice (l := l) (u := u) (st := none) ?_ rfl ?_
  · obtain ⟨o, e1, e2, e3⟩ := hs
    exact ⟨o, e1, e2, e3⟩
  · unfold sliceMade
    have e : slicePicked x l u none = Builtin.Str.strSliceIndices (l.map (·.1)) (u.map (·.1)) 1 x.length := rfl
    split
    · rename_i hw
      simp only [e, Bool.and_eq_true, beq_iff_eq] at hw
      have := h t s.toks
      rw [cutS_whole x _ _ hw.2] at this
      exact this
    · rw [e, picks_str]
      exact ⟨by
        have := cut_length (l.map (·.1)) (u.map (·.1)) x.cps.toList
        show (cut (l.map (·.1)) (u.map (·.1)) x.cps.toList).toArray.size ≤ sizeLine
        simp at this ⊢
        have h2 : x.cps.size ≤ lim := hsz
        simp only [lim, sizeLine] at *
        omega, h s.toks (s.toks + 1)⟩

noncomputable def SimO (P : Pg) (B : Blk) (e : Option Expr) (d : DO) : Prop :=
  ∀ n A env β ρ μ s, At P B n A env β ρ μ s → d (P.cx n) ρ μ ≠ .bad →
    wpAny P.M A (valueOrNone (evalOpt e env)) (fun x s' => ∃ i μ' β', d (P.cx n) ρ μ = .ok i μ' ∧ Post P.toPl β β' μ' s s' ∧ IsPart x i) (ExE P.toPl env.frame β s (d (P.cx n) ρ μ)) s
theorem SimO.none : SimO P B Option.none oNone := fun _ _ _ β _ μ _ X _ => wpAny_pure ⟨Option.none, μ, β, rfl, .refl X.inv, .none⟩
set_option tactic.hygienic true in
theorem SimO.some {e : Expr} {d : DE} (h : SimE P B e d) : SimO P B (Option.some e) (oSome d) := fun n A env β ρ μ s X hb => by
  show wpAny P.M A (eval e env) _ _ s
  refine useE h X hb (fun v μ₁ β₁ x s₁ e₁ p₁ r₁ hb₁ X₁ => ?_) fun u s₁ q => q
  cases r₁ <;> first | exact absurd rfl hb₁ | skip
  rename_i i t
  exact ⟨Option.some i, μ₁, β₁, by simp only [oSome, e₁, R.bind], p₁, .int i t⟩

theorem cut_same {lo hi : Option Int} {xs : List V} (h : (cut lo hi xs).length = xs.length) : cut lo hi xs = xs := by
  unfold cut at h ⊢
  rw [List.length_take, List.length_drop] at h
  by_cases hx : xs.length = 0
  · rw [List.length_eq_zero_iff.mp hx]; simp
  · have z : lo.elim 0 (clipAt xs.length) = 0 := by omega
    rw [z, List.drop_zero, List.take_of_length_le (by omega)]
set_option tactic.hygienic true in
theorem slc_in {μ : Mem} {j : Nat} {lo hi : Option Int} (hb : slc μ lo hi (.ref j) ≠ .bad) : ∃ xs, μ[j]? = some (.list xs) ∧ slc μ lo hi (.ref j) = newL μ (cut lo hi xs) := by
  simp only [slc] at hb ⊢
  split at hb
  · rename_i xs hm; exact ⟨xs, hm, rfl⟩
  · exact absurd rfl hb
theorem slc_ok {A : Around} {β : Bk} {μ : Mem} {s : Shared} {a : V} {x vl vu : Value} {lo hi : Option Int} {value slice : Expr} {L : Option Addr} (I : Inv P.toPl β μ s.heap) (ra : Rel P.toPl β s.heap a x) (pl : IsPart vl lo) (pu : IsPart vu hi) (hb : slc μ lo hi a ≠ .bad)
    (hs : ∀ x i, subscripted slice false x i = operate [i, x] (getItem x i)) :
    wpAny P.M A (subscriptTail value slice x (.ref s.heap.objs.size)) (OkE P.toPl β s (slc μ lo hi a)) (ExE P.toPl L β s (slc μ lo hi a)) { s with heap := s.heap.push { cls := .type "slice", data := .fields #[vl, vu, .none] } } := by
  have p : Post P.toPl β β μ s { s with heap := s.heap.push { cls := .type "slice", data := .fields #[vl, vu, .none] }, toks := s.toks } := Post.other I s.toks fun a o e => Heap.get?_push_of_some _ e
  have hsl := Heap.IsSliceOf.new s.heap vl vu .none
  have r' := ra.post I p
  cases a with
  | tup xs =>
    obtain ⟨l, vs, n, rfl, g1, g2, g3⟩ := r'.tup'
    have hz : xs.length = vs.size := g2.length
    refine tail_any ⟨_, g1, rfl⟩ slot_tuple_getitem.lookup (getItem_tuple_cut (lo := lo) (hi := hi) g1 hsl pl pu (fun e => ?_) ((tupNew p.inv (g2.cut lo hi) (newT_lim hb)).after p) (lim_line (hz ▸ g3))) (hs _ _)
    have h3 : cut lo hi xs = xs := cut_same (by rw [(g2.cut lo hi).length, congrArg List.length e]; exact hz.symm)
    show OkE _ _ _ (newT μ (cut lo hi xs)) _ _
    rw [h3]
    exact OkE.after p ⟨_, μ, β, if_pos g3, .refl p.inv, .tup g1 g2 g3⟩
  | ref j =>
    obtain ⟨xs, hm, e0⟩ := slc_in hb
    rw [e0] at hb ⊢
    obtain ⟨l, vs, n, rfl, a1, a2, a3⟩ := p.inv.lst r' hm
    have hz : xs.length = vs.size := a2.length
    refine tail_any ⟨_, a1, rfl⟩ slot_list_getitem.lookup (wpAny_getItem_list_slice (lo := lo) (hi := hi) (st := none) ⟨_, a1, rfl, n, rfl⟩ hsl pl pu .none (by simp) ?_ (lim_line (hz ▸ a3))) (hs _ _)
    rw [pick_cut]
    exact (listNew p.inv (a2.cut lo hi) (newL_lim hb)).after p
  | str y =>
    obtain ⟨t, rfl, g1, g2⟩ := r'.str'
    have hl := newS_lim hb
    exact tail_any (typeIs_str _ y t) slot_str_getitem.lookup (getItem_str_cut hsl pl pu (fun t' tk => OkE.after p ⟨_, μ, β, if_pos hl, .toks p.inv tk, .str (strOk_cut g1 lo hi) hl⟩) g2) (hs _ _)
  | _ => exact absurd rfl hb

theorem SimE.slc {a : Expr} {lo hi : Option Expr} {da : DE} {dl dh : DO} {p pos : Pos} (ha : SimE P B a da) (hl : SimO P B lo dl) (hh : SimO P B hi dh) : SimE P B (.Subscript a (.Slice lo hi Option.none p) pos) (dSlc da dl dh) :=
  fun n A env β ρ μ s X hb => by
    refine Subscript_ (useE ha X hb (fun v μ₁ β₁ x s₁ e₁ p₁ r₁ hb₁ X₁ => ?_) fun u s₁ q => q)
    rw [arm_eval_Slice]
    have e0 : dSlc da dl dh (P.cx n) ρ μ = (dl (P.cx n) ρ μ₁).bind fun l μ => (dh (P.cx n) ρ μ).bind fun h μ => Mine.slc μ l h v := by simp only [dSlc, e₁]; rfl
    rw [e0]
    refine wpAny_bind (wpAny_mono (hl n A env β₁ ρ μ₁ s₁ X₁ fun q => hb₁ (by simp [q, R.bind])) (fun vl s₂ q => ?_) fun u s₂ q => ?_)
    · obtain ⟨l, μ₂, β₂, e₂, p₂, k₂⟩ := q
      have X₂ := X₁.post p₂
      rw [e₂] at hb₁ ⊢
      simp only [R.bind] at hb₁ ⊢
      refine wpAny_bind (wpAny_holding (wpAny_mono (hh n A env β₂ ρ μ₂ s₂ X₂ fun q => hb₁ (by simp [q, R.bind])) (fun vu s₃ q => ?_) fun u s₃ q => ?_))
      · obtain ⟨h, μ₃, β₃, e₃, p₃, k₃⟩ := q
        have X₃ := X₂.post p₃
        rw [e₃] at hb₁ ⊢
        simp only [R.bind] at hb₁ ⊢
        refine wpAny_bind (wpAny_holding (wpAny_pure ?_))
        refine wpAny_newObj_type ?_ (by show (3 : Nat) ≤ sizeLine + 2; decide)
        refine wpAny_mono (slc_ok (L := env.frame) X₃.inv ((r₁.post X₁.inv p₂).post X₂.inv p₃) k₂ k₃ hb₁ (fun _ _ => rfl)) (fun _ _ q => ((q.after p₃).after p₂).after p₁) fun _ _ q => ((q.after p₃).after p₂).after p₁
      · obtain ⟨c, μ₃, β₃, e₃, p₃, k₃⟩ := q
        exact ⟨c, μ₃, β₃, by simp [e₃, R.bind], p₁.trans (p₂.trans p₃), k₃.lower fun _ q => p₁.back (p₂.back q)⟩
    · obtain ⟨c, μ₂, β₂, e₂, p₂, k₂⟩ := q
      exact ⟨c, μ₂, β₂, by simp [e₂, R.bind], p₁.trans p₂, k₂.lower fun _ => p₁.back⟩
end
end
end Mine
end
section
set_option autoImplicit false
set_option tactic.hygienic false
set_option backward.eqns.nonrecursive false
namespace Mine
noncomputable section
open PySem PyProof.Rows PySem.SeqAt

section
variable {P : Pg} {B : Blk}

theorem tab_inj_aux : ∀ {tab : List (Option (Str × NameKind))}, (tab.filterMap (·.map (·.1))).Nodup → ∀ {i j : Nat} {x : Str} {k k' : NameKind}, tab[i]? = some (some (x, k)) → tab[j]? = some (some (x, k')) → i = j
  | [], _, i, j, x, k, k', h, _ => by simp at h
  | none :: r, hn, i, j, x, k, k', hi, hj => by
    cases i with
    | zero => simp at hi
    | succ i => cases j with
      | zero => simp at hj
      | succ j => exact congrArg (· + 1) (tab_inj_aux (tab := r) (i := i) (j := j) (x := x) (k := k) (k' := k') (by simpa using hn) (by simpa using hi) (by simpa using hj))
  | some (y, q) :: r, hn, i, j, x, k, k', hi, hj => by
    have hn' : (y :: r.filterMap (·.map (·.1))).Nodup := by simpa using hn
    have out : ∀ {m : Nat} {q' : NameKind}, r[m]? = some (some (y, q')) → False := fun {m q'} h => by
      have : y ∈ r.filterMap (·.map (·.1)) := List.mem_filterMap.mpr ⟨_, List.mem_of_getElem? h, rfl⟩
      exact (List.nodup_cons.mp hn').1 this
    cases i with
    | zero => cases j with
      | zero => rfl
      | succ j =>
        simp at hi hj
        exact (out (hi.1 ▸ hj)).elim
    | succ i => cases j with
      | zero =>
        simp at hi hj
        exact (out (hj.1 ▸ hi)).elim
      | succ j => exact congrArg (· + 1) (tab_inj_aux (tab := r) (i := i) (j := j) (x := x) (k := k) (k' := k') (List.nodup_cons.mp hn').2 (by simpa using hi) (by simpa using hj))
theorem Blk.inj {B : Blk} (h : B.ok = true) {i j : Nat} {x : Str} {k k' : NameKind} (hi : B.tab[i]? = some (some (x, k))) (hj : B.tab[j]? = some (some (x, k'))) : i = j := by
  simp only [Blk.ok, Bool.and_eq_true] at h
  exact tab_inj_aux (of_decide_eq_true h.2) hi hj

theorem EnvOk.ownOk {A : Around} {env : Env} {β : Bk} {ρ : Fr} {h : Heap} (x : EnvOk P B A env β ρ h) : OwnOk (Mine.own env) h := fun a ha o e => by
  obtain ⟨_, _, o', e', hd⟩ := x.own a ha
  rw [e] at e'; cases e'; exact hd.elim .inl fun h => .inr (.inl h)

theorem lookup_mem_snd {l : List (Str × Addr)} {x : Str} {c : Addr} (h : l.lookup x = some c) : c ∈ l.map (·.2) := by
  induction l with
  | nil => cases h
  | cons p r ih =>
    obtain ⟨y, d⟩ := p
    rw [List.lookup_cons] at h
    split at h
    · cases h; simp
    · exact List.mem_cons_of_mem _ (ih h)

noncomputable def tgt (k : NameKind) (x : Str) (env : Env) : List Addr := match k with
  | .local => [env.locals]
  | _ => (env.cells.lookup x).toList
theorem tgt_sub {k : NameKind} {x : Str} {env : Env} : ∀ a ∈ tgt k x env, a ∈ own env := fun a ha => by
  have hc : a ∈ (env.cells.lookup x).toList → a ∈ own env := fun h => List.mem_cons_of_mem _ (lookup_mem_snd (Option.mem_toList.mp h))
  cases k <;> first | exact hc ha | exact List.mem_cons.mpr (.inl (List.mem_singleton.mp ha))
theorem store_at {n : Nat} {A : Around} {env : Env} {β : Bk} {ρ : Fr} {μ : Mem} {s : Shared} {i : Nat} {x : Str} {k : NameKind} {v : V} {u : Value} {Q : Unit → Shared → Prop} {E : Value → Shared → Prop}
    (X : At P B n A env β ρ μ s) (ht : B.tab[i]? = some (some (x, k))) (hk : k = .local ∨ k = .cell) (r : Rel P.toPl β s.heap v u)
    (h : ∀ s', PostS P.toPl (tgt k x env) β β μ s s' → EnvOk P B A env β (ρ.set i v) s'.heap → Q () s') : wpAny P.M A (storeName env x u) Q E s := by
  obtain ⟨h1, h2, _, _, _⟩ := Blk.look X.env.ok ht
  have hkd : env.scope.kind = .function := by rw [X.env.sc]; exact h1
  have hl : env.kindOf x = some k := by show env.scope.names.lookup x = some k; rw [X.env.sc]; exact h2
  have key : ∀ (W : Addr) (h' : Heap) (tk : Nat), W ∈ tgt k x env → W ∉ β → P.h₀.get? W = none → (∀ o, s.heap.get? W = some o → (∃ es n, o.data = .dict es n) ∨ ∃ v, o.data = .cell v) → Heap.SameBut W s.heap h' →
      PostS P.toPl (tgt k x env) β β μ s { s with heap := h', toks := tk } ∧ ∀ {v' : V} {u' : Value}, Rel P.toPl β s.heap v' u' → Rel P.toPl β h' v' u' := fun W h' tk hW hWb hW0 hWo hs => by
    have base : ∀ a o, P.h₀.get? a = some o → h'.get? a = some o := fun a o e => by
      rw [hs.2 a (fun q => by rw [q, hW0] at e; cases e)]; exact X.inv.base a o e
    have rel : ∀ {v' : V} {u' : Value}, Rel P.toPl β s.heap v' u' → Rel P.toPl β h' v' u' := by
      intro v' u' r'
      -- everything but W stands
      have : ∀ a o, s.heap.get? a = some o → a ≠ W → h'.get? a = some o := fun a o e q => (hs.2 a q).trans e
      exact Rel.but X.inv this hWb hWo r'
    refine ⟨⟨⟨h', tk, rfl⟩, ⟨X.inv.len, X.inv.nd, fun j o a e1 e2 => ?_, base, X.inv.new⟩, List.prefix_refl _, fun a o e _ hw => ⟨o, (hs.2 a fun q => hw (q ▸ hW)).trans e, .refl _⟩, fun _ q n => absurd q n⟩, rel⟩
    have ro := X.inv.obj j o a e1 e2
    exact ro.but X.inv (fun b ob e q => (hs.2 b q).trans e) hWb hWo (fun q => hWb (q ▸ List.mem_of_getElem? e2))
  rcases hk with rfl | rfl
  · obtain ⟨m, hn, hm⟩ := X.env.ns
    refine wpAny_storeName_local hl hn (fun h' hn' hs => ?_) (by rw [hkd]; rfl)
    obtain ⟨p, rel⟩ := key env.locals h' (s.toks + 1) (List.mem_cons_self) X.env.loc.1 X.env.loc.2 (fun o e => by
      obtain ⟨o', es, n, e', hd, _⟩ := hn
      rw [e] at e'; cases e'; exact .inl ⟨es, n, hd⟩) hs
    refine h _ p { X.env with
      ns := ⟨_, hn', fun j y w hj hw => ?_⟩
      cell := fun j y k' hj hk' => ?_
      fr := ?_
      own := fun a ha => ?_ }
    · by_cases q : j = i
      · subst q
        rw [ht] at hj; cases hj
        rw [Fr.set_self] at hw; cases hw
        exact ⟨u, by simp, rel r⟩
      · rw [Fr.set_ne ρ v q] at hw
        obtain ⟨u', e1, e2⟩ := hm j y w hj hw
        have hy : y ≠ x := fun e => q (Blk.inj X.env.ok (e ▸ hj) ht)
        exact ⟨u', by simp [hy, e1], rel e2⟩
    · obtain ⟨c, u', h1, h2, h3, h4, h5⟩ := X.env.cell j y k' hj hk'
      have hj' : j ≠ i := fun q => by subst q; rw [ht] at hj; cases hj; rcases hk' with q | q <;> cases q
      refine ⟨c, u', h1, h2, h3, ?_, fun w hw => ?_⟩
      · obtain ⟨oc, g1, g2⟩ := h4
        refine ⟨oc, (hs.2 c fun q => ?_).trans g1, g2⟩
        obtain ⟨o', es, n, e', hd, _⟩ := hn
        rw [q, e'] at g1; cases g1; rw [hd] at g2; cases g2
      · rw [Fr.set_ne ρ v hj'] at hw
        obtain ⟨z, e1, e2⟩ := h5 w hw
        exact ⟨z, e1, rel e2⟩
    · obtain ⟨fe, outer, f1, f2, f3⟩ := X.env.fr
      refine ⟨fe, outer, f1, f2, fun e he => ?_⟩
      obtain ⟨k, L, o, g1, g2, g3, g4, es, m', g5⟩ := f3 e he
      by_cases q : L = env.locals
      · obtain ⟨o', es', n', e', hd, _⟩ := hn'
        exact ⟨k, L, o', g1, g2, g3, q ▸ e', es', n', hd⟩
      · exact ⟨k, L, o, g1, g2, g3, (hs.2 L q).trans g4, es, m', g5⟩
    · obtain ⟨g1, g2, o, g3, g4⟩ := X.env.own a ha
      by_cases q : a = env.locals
      · obtain ⟨o', es', n', e', hd, _⟩ := hn'
        exact ⟨g1, g2, o', q ▸ e', .inl ⟨es', n', hd⟩⟩
      · exact ⟨g1, g2, o, (hs.2 a q).trans g3, g4⟩
  · obtain ⟨c, u₀, c1, c2, c3, c4, c5⟩ := X.env.cell i x _ ht (.inl rfl)
    refine wpAny_storeName_cell hkd hl c1 c4 fun h' hv' hs => ?_
    obtain ⟨p, rel⟩ := key c h' s.toks (Option.mem_toList.mpr c1) c2 c3 (fun o e => by
      obtain ⟨o', e', hd⟩ := c4
      rw [e] at e'; cases e'; exact .inr ⟨_, hd⟩) hs
    have noL : ∀ L o, s.heap.get? L = some o → (∃ es n, o.data = .dict es n) → L ≠ c := fun L o e ⟨es, n, hd⟩ q => by
      obtain ⟨o', e', hd'⟩ := c4
      rw [q, e'] at e; cases e; rw [hd] at hd'; cases hd'
    refine h _ p { X.env with
      ns := ?_
      cell := fun j y k' hj hk' => ?_
      fr := ?_
      own := fun a ha => ?_ }
    · obtain ⟨m, ⟨o, es, ep, e, d, q⟩, hm⟩ := X.env.ns
      refine ⟨m, ⟨o, es, ep, (hs.2 _ (noL _ _ e ⟨es, ep, d⟩)).trans e, d, q⟩, fun j y w hj hw => ?_⟩
      have hj' : j ≠ i := fun q => by subst q; rw [ht] at hj; cases hj
      rw [Fr.set_ne ρ v hj'] at hw
      obtain ⟨u', e1, e2⟩ := hm j y w hj hw
      exact ⟨u', e1, rel e2⟩
    · by_cases q : j = i
      · subst q
        rw [ht] at hj; cases hj
        refine ⟨c, some u, c1, c2, c3, hv', fun w hw => ?_⟩
        rw [Fr.set_self] at hw; cases hw
        exact ⟨u, rfl, rel r⟩
      · obtain ⟨c', u', h1, h2, h3, h4, h5⟩ := X.env.cell j y k' hj hk'
        have hy : y ≠ x := fun e => q (Blk.inj X.env.ok (e ▸ hj) ht)
        have hc' : c' ≠ c := fun e => hy (X.env.apart y x c' h1 (e ▸ c1))
        refine ⟨c', u', h1, h2, h3, ?_, fun w hw => ?_⟩
        · obtain ⟨oc, g1, g2⟩ := h4
          exact ⟨oc, (hs.2 c' hc').trans g1, g2⟩
        · rw [Fr.set_ne ρ v q] at hw
          obtain ⟨z, e1, e2⟩ := h5 w hw
          exact ⟨z, e1, rel e2⟩
    · obtain ⟨fe, outer, f1, f2, f3⟩ := X.env.fr
      refine ⟨fe, outer, f1, f2, fun e he => ?_⟩
      obtain ⟨k, L, o, g1, g2, g3, g4, es, m', g5⟩ := f3 e he
      exact ⟨k, L, o, g1, g2, g3, (hs.2 L (noL L o g4 ⟨es, m', g5⟩)).trans g4, es, m', g5⟩
    · obtain ⟨g1, g2, o, g3, g4⟩ := X.env.own a ha
      by_cases q : a = c
      · obtain ⟨o', e', hd⟩ := hv'
        exact ⟨g1, g2, o', q ▸ e', .inr ⟨_, hd⟩⟩
      · exact ⟨g1, g2, o, (hs.2 a q).trans g3, g4⟩

theorem store_ok {n : Nat} {A : Around} {env : Env} {β : Bk} {ρ : Fr} {μ : Mem} {s : Shared} {i : Nat} {x : Str} {k : NameKind} {v : V} {u : Value} {Q : Unit → Shared → Prop} {E : Value → Shared → Prop}
    (X : At P B n A env β ρ μ s) (ht : B.tab[i]? = some (some (x, k))) (hk : k = .local ∨ k = .cell) (r : Rel P.toPl β s.heap v u)
    (h : ∀ s', PostS P.toPl (own env) β β μ s s' → EnvOk P B A env β (ρ.set i v) s'.heap → Q () s') : wpAny P.M A (storeName env x u) Q E s :=
  store_at X ht hk r fun s' p he => h s' ⟨p.st, p.inv, p.pre, fun a o e n w => p.keep a o e n fun q => w (tgt_sub a q), fun _ q n => absurd q n⟩ he

theorem SimS.nil : SimS P B [] sNil := fun _ _ _ β ρ μ _ X _ => wpAny_execs_nil (.inl ⟨ρ, μ, β, rfl, rfl, (Post.refl X.inv).own X.env.live, X.env⟩)

theorem SimS.cons {st : Stmt} {ss : List Stmt} {d ds : DS} (h : SimX P B st d) (hs : SimS P B ss ds) : SimS P B (st :: ss) (sSeq d ds) := fun n A env β ρ μ s X hb => by
  have hb' : d (P.cx n) ρ μ ≠ .bad := fun q => hb (by simp only [sSeq, q])
  refine wpAny_execs_cons (wpAny_mono (h n A env β ρ μ s X hb') (fun fl s₁ q => ?_) fun x s₁ q => ?_)
  · rcases q with ⟨ρ₁, μ₁, β₁, e, rfl, p, he⟩ | ⟨v, x, μ₁, β₁, e, rfl, p, r, he⟩
    · have e' : sSeq d ds (P.cx n) ρ μ = ds (P.cx n) ρ₁ μ₁ := by simp only [sSeq, e]
      rw [e'] at hb ⊢
      exact wpAny_mono (hs n A env β₁ ρ₁ μ₁ s₁ (X.next p he) hb) (fun _ _ q => q.after p) fun _ _ q => q.after p he.live
    · have e' : sSeq d ds (P.cx n) ρ μ = .ret v μ₁ := by simp only [sSeq, e]
      rw [e']
      exact .inr ⟨v, x, μ₁, β₁, rfl, rfl, p, r, he⟩
  · obtain ⟨c, ρ₁, μ₁, β₁, e, p, f, he⟩ := q
    exact ⟨c, ρ₁, μ₁, β₁, by simp only [sSeq, e], p, f, he⟩

theorem SimX.set {i : Nat} {x : Str} {k : NameKind} {e : Expr} {d : DE} {p pos : Pos} (ht : B.tab[i]? = some (some (x, k))) (hk : k = .local ∨ k = .cell) (hw : ∀ env, swapsWith e (some (.Name x p)) pos.line env = pure false) (h : SimE P B e d) :
    SimX P B (.Assign [.Name x p] e pos) (sSet i d) := fun n A env β ρ μ s X hb => by
  refine wpAny_Assign_Name (useES h X hb (fun v μ₁ β₁ u s₁ e₁ p₁ r₁ hb₁ X₁ => ?_) fun u s₁ q => q) (hw env)
  refine store_ok X₁ ht hk r₁ fun s' p' he => .inl ⟨ρ.set i v, μ₁, β₁, by simp only [sSet, e₁]; rfl, rfl, (p₁.own X.env.live).trans p', he⟩

theorem SimX.if {t : Expr} {a b : List Stmt} {dt : DT} {da db : DS} {pos : Pos} (ht : SimT P B t dt) (h1 : SimS P B a da) (h2 : SimS P B b db) : SimX P B (.If t a b pos) (sIf dt da db) := fun n A env β ρ μ s X hb => by
  refine wpAny_If (useTS ht X hb (fun q μ₁ β₁ s₁ e₁ p₁ hb₁ X₁ => ?_) fun u s₁ q => q)
  cases q with
  | true =>
    have e : sIf dt da db (P.cx n) ρ μ = da (P.cx n) ρ μ₁ := by simp only [sIf, e₁]; rfl
    rw [e]
    exact wpAny_mono (h1 n A env β₁ ρ μ₁ s₁ X₁ (by simpa using hb₁)) (fun _ _ q => q.after (p₁.own X.env.live)) fun _ _ q => q.after (p₁.own X.env.live) X₁.env.live
  | false =>
    have e : sIf dt da db (P.cx n) ρ μ = db (P.cx n) ρ μ₁ := by simp only [sIf, e₁]; rfl
    rw [e]
    exact wpAny_mono (h2 n A env β₁ ρ μ₁ s₁ X₁ (by simpa using hb₁)) (fun _ _ q => q.after (p₁.own X.env.live)) fun _ _ q => q.after (p₁.own X.env.live) X₁.env.live

theorem SimX.ret {e : Expr} {d : DE} {pos : Pos} (h : SimE P B e d) : SimX P B (.Return (some e) pos) (sRet d) := fun n A env β ρ μ s X hb => by
  refine wpAny_Return_some (useES h X hb (fun v μ₁ β₁ u s₁ e₁ p₁ r₁ hb₁ X₁ => ?_) fun u s₁ q => q)
  exact .inr ⟨v, u, μ₁, β₁, by simp only [sRet, e₁]; rfl, rfl, p₁.own X.env.live, r₁, X₁.env.forget⟩

theorem SimX.expr {e : Expr} {d : DE} {pos : Pos} (hw : ∀ env, swapsWith e none pos.line env = pure false) (h : SimE P B e d) : SimX P B (.Expr e pos) (sExpr d) := fun n A env β ρ μ s X hb => by
  have hi : interactive env = false := by
    have : env.scope.kind = .function := by
      have := X.env.ok
      simp only [Blk.ok, Bool.and_eq_true, beq_iff_eq] at this
      rw [X.env.sc]; exact this.1.1
    simp [interactive, this]
  rw [exec_Expr env e pos hi (hw env)]
  refine wpAny_bind (wpAny_standAt (wpAny_bind (useES h X hb (fun v μ₁ β₁ u s₁ e₁ p₁ r₁ hb₁ X₁ => ?_) fun u s₁ q => q)))
  have fin : OkS P B A env β s (sExpr d (P.cx n) ρ μ) .next s₁ := .inl ⟨ρ, μ₁, β₁, by simp only [sExpr, e₁]; rfl, rfl, p₁.own X.env.live, X₁.env⟩
  exact wpAny_dropValue fin
end
end
end Mine
end
section
set_option autoImplicit false
set_option tactic.hygienic false
set_option backward.eqns.nonrecursive false
namespace Mine
noncomputable section
open PySem PyProof.Rows PySem.SeqAt

theorem bindL_out {kind : Str → Option NameKind} {x : Str} : ∀ (l : List (Str × Value)) (m : Str → Option Value), (∀ p ∈ l, p.1 ≠ x) → bindL kind l m x = m x
  | [], _, _ => rfl
  | (y, v) :: r, m, h => by
    rw [bindL, bindL_out r _ fun p hp => h p (List.mem_cons_of_mem _ hp)]
    have hy : ¬ x = y := fun e => h (y, v) List.mem_cons_self e.symm
    split
    · simp [hy]
    · rfl
theorem bindC_out {kind : Str → Option NameKind} {x : Str} : ∀ (l : List (Str × Value)) (m : Str → Option Value), (∀ p ∈ l, p.1 ≠ x) → bindC kind l m x = m x
  | [], _, _ => rfl
  | (y, v) :: r, m, h => by
    rw [bindC, bindC_out r _ fun p hp => h p (List.mem_cons_of_mem _ hp)]
    have hy : ¬ x = y := fun e => h (y, v) List.mem_cons_self e.symm
    split
    · rfl
    · simp [hy]
theorem zip_fst_ne {x : Str} {ps : List Str} {vs : List Value} (h : x ∉ ps) : ∀ p ∈ ps.zip vs, p.1 ≠ x := fun p hp e => h (e ▸ (List.of_mem_zip (a := p.1) (b := p.2) hp).1)
theorem bindL_at {kind : Str → Option NameKind} : ∀ (ps : List Str) (vs : List Value) (m : Str → Option Value), ps.Nodup → ∀ (i : Nat) (x : Str) (v : Value), ps[i]? = some x → vs[i]? = some v → kind x = some .local → bindL kind (ps.zip vs) m x = some v
  | [], _, _, _, i, x, v, h, _, _ => by simp at h
  | _ :: _, [], _, _, i, x, v, _, h, _ => by simp at h
  | y :: ps, u :: vs, m, hn, 0, x, v, hx, hv, hk => by
    simp at hx hv; subst hx hv
    rw [List.zip_cons_cons, bindL, bindL_out _ _ (zip_fst_ne (List.nodup_cons.mp hn).1), if_pos hk]; simp
  | y :: ps, u :: vs, m, hn, i + 1, x, v, hx, hv, hk => by
    rw [List.zip_cons_cons, bindL]
    exact bindL_at ps vs _ (List.nodup_cons.mp hn).2 i x v (by simpa using hx) (by simpa using hv) hk
theorem bindC_at {kind : Str → Option NameKind} : ∀ (ps : List Str) (vs : List Value) (m : Str → Option Value), ps.Nodup → ∀ (i : Nat) (x : Str) (v : Value), ps[i]? = some x → vs[i]? = some v → kind x ≠ some .local → bindC kind (ps.zip vs) m x = some v
  | [], _, _, _, i, x, v, h, _, _ => by simp at h
  | _ :: _, [], _, _, i, x, v, _, h, _ => by simp at h
  | y :: ps, u :: vs, m, hn, 0, x, v, hx, hv, hk => by
    simp at hx hv; subst hx hv
    rw [List.zip_cons_cons, bindC, bindC_out _ _ (zip_fst_ne (List.nodup_cons.mp hn).1), if_neg hk]; simp
  | y :: ps, u :: vs, m, hn, i + 1, x, v, hx, hv, hk => by
    rw [List.zip_cons_cons, bindC]
    exact bindC_at ps vs _ (List.nodup_cons.mp hn).2 i x v (by simpa using hx) (by simpa using hv) hk

theorem lookup_apart {cs : List (Str × Addr)} (h : cs.Pairwise fun x y => x.2 ≠ y.2) : ∀ {x y : Str} {c : Addr}, cs.lookup x = some c → cs.lookup y = some c → x = y := by
  induction cs with
  | nil => intro x y c hx; cases hx
  | cons p r ih =>
    intro x y c hx hy
    obtain ⟨z, d⟩ := p
    have h1 := (List.pairwise_cons.mp h).1
    rw [List.lookup_cons] at hx hy
    have out : ∀ {w : Str}, r.lookup w = some d → False := fun {w} e => by
      obtain ⟨q, hq, e'⟩ := List.mem_map.mp (lookup_mem_snd e)
      exact h1 q hq e'.symm
    cases hx' : (x == z) with
    | true =>
      simp only [hx'] at hx; cases hx
      cases hy' : (y == z) with
      | true => exact (beq_iff_eq.mp hx').trans (beq_iff_eq.mp hy').symm
      | false => simp only [hy'] at hy; exact (out hy).elim
    | false =>
      simp only [hx'] at hx
      cases hy' : (y == z) with
      | true => simp only [hy'] at hy; cases hy; exact (out hx).elim
      | false => simp only [hy'] at hy; exact ih (List.pairwise_cons.mp h).2 hx hy

structure FnOk (P : Pg) (f : Nat) (F : Fn) (tab : List (Option (Str × NameKind))) (ps : List Str) (bd : List Stmt) : Prop where
  body : (P.fd f).body = .stmts bd
  ok : Blk.ok ⟨(P.fd f).scope, tab⟩ = true
  np : ps.length = F.np
  par : ∀ (i : Nat) (x : Str), ps[i]? = some x → ∃ k : NameKind, tab[i]? = some (some (x, k)) ∧ (k = .local ∨ k = .cell)
  nofree : ∀ (i : Nat) (x : Str), tab[i]? ≠ some (some (x, .free))
  bind : ∀ vals : List Value, vals.length = F.np → bindArgs (P.fd f) ⟨vals, []⟩ = pure (ps.zip vals)
  nd : ((cellsFrom 0 (P.fd f).scope.names []).map (·.1)).Nodup
  co : (P.fd f).scope.isCoroutine = false
  gen : (P.fd f).scope.isGenerator = false
  sim : SimS P ⟨(P.fd f).scope, tab⟩ bd F.body

theorem RoomC.deeper {A : Around} {n : Nat} (env : Env) (h : RoomC A (n + 1)) : Room (A.deeper env) n := by
  obtain ⟨h1, h2, h3⟩ := h
  refine ⟨?_, ?_, h3⟩
  · show A.depth + 1 + 2 * n + 10 < recursionLimit; omega
  · show A.units + 3 + 20 * n + 200 < cLine; omega

theorem keeps_post {P : Pl} {β : Bk} {μ : Mem} {s s₁ : Shared} (I : Inv P β μ s.heap) (same : ∃ h tk, s₁ = { s with heap := h, toks := tk }) (hk : ∀ b o, s.heap.get? b = some o → s₁.heap.get? b = some o) : Post P β β μ s s₁ := by
  obtain ⟨h, tk, rfl⟩ := same
  exact Post.other I tk hk

theorem callOk_succ {P : Pg} (G : Good P) (n : Nat) (ih : ∀ k, k ≤ n → CallOk P k) (hF : ∀ f F, P.Φ f = some F → ∃ tab ps body, FnOk P f F tab ps body) : CallOk P (n + 1) := fun f A args vals β μ s room hfr I r hb => by
  cases hf : P.Φ f with
  | none => exact absurd (by simp [Pg.call, callF, hf]) hb
  | some F =>
    obtain ⟨tab, ps, body, K⟩ := hF f F hf
    obtain ⟨o, g1, g2, g3, g4, g5, g6, g7⟩ := G.fn f F hf
    have ecall : P.call (n + 1) f args μ = if args.length = F.np then (match F.body (P.cx n) (fun i => args[i]?) μ with
        | .next _ μ' => .ok .none μ' | .ret v μ' => .ok v μ' | .exc c _ μ' => .exc c μ' | .bad => .bad) else .bad := by
      simp only [Pg.call, callF, hf, Pg.cx] <;> rfl
    rw [ecall] at hb ⊢
    by_cases hlen : args.length = F.np
    · rw [if_pos hlen] at hb ⊢
      have hvl : vals.length = F.np := by rw [← r.length]; exact hlen
      have hnd : ps.Nodup := by
        rw [List.nodup_iff_pairwise_ne, List.pairwise_iff_getElem]
        intro i j hi hj hij e
        obtain ⟨k, q, _⟩ := K.par i ps[i] (List.getElem?_eq_getElem hi)
        obtain ⟨k', q', _⟩ := K.par j ps[j] (List.getElem?_eq_getElem hj)
        have := Blk.inj K.ok (B := ⟨(P.fd f).scope, tab⟩) q (e ▸ q')
        omega
      have hkind : (P.fd f).scope.kind = .function := by
        have := K.ok
        simp only [Blk.ok, Bool.and_eq_true, beq_iff_eq] at this
        exact this.1.1
      have look : ∀ i x k, tab[i]? = some (some (x, k)) → (P.fd f).scope.names.lookup x = some k := fun i x k h => (Blk.look (B := ⟨(P.fd f).scope, tab⟩) K.ok h).2.1
      have hh : s.heap.get? (P.fnA f) = some o := I.base _ _ g1
      refine codeAny_call_cells (binds := ps.zip vals) (by have := room.1; omega) hh g2 (G.nolimit.keeps I.base) (g4.keeps I.base) K.body (K.bind vals hvl) g5 (fun x hx => ?_) (fun s₁ x => ?_) K.co K.gen hkind
      · obtain ⟨i, hi, e⟩ := List.getElem_of_mem (List.of_mem_zip (a := x.1) (b := x.2) hx).1
        obtain ⟨k, q, hk⟩ := K.par i x.1 (by rw [List.getElem?_eq_getElem hi, e])
        have := look i x.1 k q
        rcases hk with rfl | rfl
        · exact .inl this
        · exact .inr ⟨this, PySem.W.cellsFrom_some _ _ _ (.inl this)⟩
      · have hL : (callEnvC (P.fd f) s.heap.objs.size (P.fnA f)).locals = s.heap.objs.size := rfl
        have p₁ : Post P.toPl β β μ s s₁ := keeps_post I x.toInCall.same x.toInCall.keep
        have notB : ∀ a : Addr, s.heap.objs.size ≤ a → a ∉ β := fun a ha q => by
          obtain ⟨ob, e, _⟩ := I.there q
          exact absurd (Heap.lt_size e) (Nat.not_lt.mpr ha)
        have not0 : ∀ a : Addr, s.heap.objs.size ≤ a → P.h₀.get? a = none := fun a ha => by
          cases e : P.h₀.get? a with
          | none => rfl
          | some o' => exact absurd (Heap.lt_size (I.base _ _ e)) (Nat.not_lt.mpr ha)
        have r₁ := r.post I p₁
        have E : EnvOk P ⟨(P.fd f).scope, tab⟩ (A.deeper (callEnvC (P.fd f) s.heap.objs.size (P.fnA f))) (callEnvC (P.fd f) s.heap.objs.size (P.fnA f)) β (fun i => args[i]?) s₁.heap := {
          ok := K.ok
          sc := rfl
          glob := g6
          blt := g7
          ns := by
            refine ⟨_, x.toInCall.ns, fun i y v ht hv => ?_⟩
            obtain ⟨u, hu, hr⟩ := r₁.get hv
            have hi : i < ps.length := by rw [K.np, ← hlen]; exact (List.getElem?_eq_some_iff.mp hv).1
            obtain ⟨k, q, _⟩ := K.par i ps[i] (List.getElem?_eq_getElem hi)
            have e : y = ps[i] := by rw [ht] at q; cases q; rfl
            exact ⟨u, bindL_at ps vals _ hnd i y u (by rw [e]; exact List.getElem?_eq_getElem hi) hu (look i y _ ht), hr⟩
          loc := ⟨notB _ (Nat.le_refl _), not0 _ (Nat.le_refl _)⟩
          cell := fun i y k ht hk => by
            have hk' : k = .cell := by
              rcases hk with rfl | rfl
              · rfl
              · exact absurd ht (K.nofree i y)
            subst hk'
            have hl := look i y _ ht
            obtain ⟨c, hc⟩ := Option.isSome_iff_exists.mp (PySem.W.cellsFrom_some (x := y) (P.fd f).scope.names (s.heap.objs.size + 1) [] (.inl hl))
            have ab : s.heap.objs.size < c := by
              obtain ⟨q, hq, e⟩ := List.mem_map.mp (lookup_mem_snd hc)
              have := x.above q.1 q.2 hq
              rw [e] at this; exact this
            refine ⟨c, _, hc, notB c (Nat.le_of_lt ab), not0 c (Nat.le_of_lt ab), x.cell y c hc, fun v hv => ?_⟩
            obtain ⟨u, hu, hr⟩ := r₁.get hv
            have hi : i < ps.length := by rw [K.np, ← hlen]; exact (List.getElem?_eq_some_iff.mp hv).1
            obtain ⟨k, q, _⟩ := K.par i ps[i] (List.getElem?_eq_getElem hi)
            have e : y = ps[i] := by rw [ht] at q; cases q; rfl
            exact ⟨u, bindC_at ps vals _ hnd i y u (by rw [e]; exact List.getElem?_eq_getElem hi) hu (by show (P.fd f).scope.names.lookup y ≠ _; rw [hl]; simp), hr⟩
          apart := fun y z c hy hz => lookup_apart x.apart hy hz
          fr := by
            obtain ⟨l, hl, hF⟩ := hfr
            refine ⟨_, l, Around.frames_deeper hl, rfl, fun e he => ?_⟩
            rcases List.mem_cons.mp he with rfl | he
            · obtain ⟨o', es, ep, e', hd, _⟩ := x.toInCall.ns
              exact ⟨by show (P.fd f).scope.kind ≠ _; rw [hkind]; decide, s.heap.objs.size, o', rfl, notB _ (Nat.le_refl _), not0 _ (Nat.le_refl _), e', es, ep, hd⟩
            · exact hF.post p₁ e he
          own := fun a ha => by
            rcases List.mem_cons.mp ha with rfl | ha
            · obtain ⟨o', es, ep, e', hd, _⟩ := x.toInCall.ns
              exact ⟨notB _ (Nat.le_refl _), not0 _ (Nat.le_refl _), o', e', .inl ⟨es, ep, hd⟩⟩
            · obtain ⟨q, hq, rfl⟩ := List.mem_map.mp ha
              have ab := Nat.le_of_lt (x.above q.1 q.2 hq)
              obtain ⟨o', e', hd⟩ := x.cell q.1 q.2 (lookup_of_mem_nodup (cellsFrom_names (P.fd f).scope.names 0 (s.heap.objs.size + 1) [] [] rfl ▸ K.nd) hq)
              exact ⟨notB _ ab, not0 _ ab, o', e', .inr ⟨_, hd⟩⟩ }
        have X : At P ⟨(P.fd f).scope, tab⟩ n (A.deeper (callEnvC (P.fd f) s.heap.objs.size (P.fnA f))) (callEnvC (P.fd f) s.heap.objs.size (P.fnA f)) β (fun i => args[i]?) μ s₁ := ⟨G, ih, room.deeper _, E, p₁.inv⟩
        have hb' : F.body (P.cx n) (fun i => args[i]?) μ ≠ .bad := fun q => hb (by rw [q])
        -- what is the callee's own is new
        have back : ∀ {β' : Bk} {μ' : Mem} {s' : Shared}, PostS P.toPl (own (callEnvC (P.fd f) s.heap.objs.size (P.fnA f))) β β' μ' s₁ s' → Post P.toPl β β' μ' s s' := fun {β' μ' s'} q => by
          refine ⟨?_, q.inv, q.pre, fun a o' e hn => ?_, fun a ha hn => p₁.back (q.fresh a ha hn).1⟩
          · obtain ⟨h1, t1, e1⟩ := p₁.st
            obtain ⟨h2, t2, e2⟩ := q.st
            exact ⟨h2, t2, by rw [e2, e1]⟩
          · refine q.keep a o' (x.toInCall.keep a o' e) hn fun hw => ?_
            have hlt := Heap.lt_size e
            rcases List.mem_cons.mp hw with rfl | hw
            · exact absurd hlt (Nat.lt_irrefl _)
            · obtain ⟨z, hz, e'⟩ := List.mem_map.mp hw
              have := x.above z.1 z.2 hz
              rw [e'] at this
              exact absurd (Nat.lt_trans hlt this) (Nat.lt_irrefl _)
        refine wpAny_mono (K.sim n _ _ β _ μ s₁ X hb') (fun fl s' q => ?_) fun e s' q => ?_
        · rcases q with ⟨ρ', μ', β', e, rfl, p, _⟩ | ⟨v, u, μ', β', e, rfl, p, rv, _⟩
          · rw [e]; exact ⟨.none, μ', β', rfl, back p, .none⟩
          · rw [e]; exact ⟨v, μ', β', rfl, back p, rv⟩
        · obtain ⟨c, ρ', μ', β', e', p, fl, he⟩ := q
          rw [e']
          refine leaving_fly he p.inv (fun a q => p.back he.live q) fl fun h' k fl' => ⟨c, μ', β', rfl, (back p).chg (k.lower fun a q => p₁.back q), fl'.lower fun a q => p₁.back q⟩
    · rw [if_neg hlen] at hb; exact absurd rfl hb

theorem callOk {P : Pg} (G : Good P) (hF : ∀ f F, P.Φ f = some F → ∃ tab ps body, FnOk P f F tab ps body) : ∀ n, ∀ k, k ≤ n → CallOk P k
  | 0, k, hk => by
    obtain rfl : k = 0 := by omega
    exact fun f A args vals β μ s _ _ _ _ hb => absurd rfl hb
  | n + 1, k, hk => by
    by_cases h : k = n + 1
    · subst h; exact callOk_succ G n (callOk G hF n) hF
    · exact callOk G hF n k (by omega)
end
end Mine
end
section
set_option autoImplicit false
set_option tactic.hygienic false
set_option backward.eqns.nonrecursive false
namespace Mine
noncomputable section
open PySem PyProof.Rows PySem.SeqAt

section
variable {P : Pg} {B : Blk}

noncomputable def plainArgs : List Expr → Bool
  | [] => true
  | .Starred _ _ :: _ => false
  | _ :: r => plainArgs r
theorem plain_trees {pos : Pos} {env : Env} : ∀ {es : List Expr}, plainArgs es = true → ∀ p ∈ backTo pos (starEach es env), p.1 = false
  | [], _, p, hp => by cases hp
  | e :: r, h, p, hp => by
    cases e <;> simp only [plainArgs] at h <;> first
      | cases h
      | (simp only [starEach, backTo, List.map_cons, List.mem_cons] at hp
         rcases hp with rfl | hp
         · rfl
         · exact plain_trees h p hp)
theorem evalArgs_of {M : Model} {A : Around} {E : Value → Shared → Prop} {s : Shared} {f : Value} {trees : List (Bool × Sem Value)} {Q : Args → Shared → Prop} (hp : ∀ p ∈ trees, p.1 = false)
    (h : wpAny M A (spliced trees) (fun vs s' => Q ⟨vs, []⟩ s') E s) : wpAny M A (evalArgs f true trees []) Q E s := by
  cases trees with
  | nil =>
    unfold evalArgs
    show wpAny M A (spliced [] >>= _) Q E s
    refine wpAny_bind (wpAny_mono h (fun vs s' h' => ?_) fun _ _ x => x)
    refine wpAny_holding ?_
    exact wpAny_bind (wpAny_pure (wpAny_bind (wpAny_pure (wpAny_pure h'))))
  | cons t r =>
    obtain ⟨b, x⟩ := t
    have : b = false := hp (b, x) List.mem_cons_self
    subst this
    exact Calls.evalArgs_plain h

theorem At.glob {n : Nat} {A : Around} {env : Env} {β : Bk} {ρ : Fr} {μ : Mem} {s : Shared} (X : At P B n A env β ρ μ s) {x : Str} {pos : Pos} {v : Value} {Q : Value → Shared → Prop} {E : Value → Shared → Prop} (hx : B.sc.names.lookup x = some .globalImplicit) (hd : (x == ("__debug__" : Str)) = false)
    (hv : P.mg x = some v) (h : Q v s) : wpAny P.M A (eval (.Name x pos) env) Q E s := by
  have hk : env.scope.kind = .function := by
    have := X.env.ok
    simp only [Blk.ok, Bool.and_eq_true, beq_iff_eq] at this
    rw [X.env.sc]; exact this.1.1
  refine Calls.Name_function_global hk (by show env.scope.names.lookup x = _; rw [X.env.sc]; exact hx) (Calls.loadGlobal_global (mg := P.mg) ?_ hv h) hd
  rw [X.env.glob]; exact X.good.g.keeps X.inv.base
theorem At.blt {n : Nat} {A : Around} {env : Env} {β : Bk} {ρ : Fr} {μ : Mem} {s : Shared} (X : At P B n A env β ρ μ s) {x : Str} {pos : Pos} {v : Value} {Q : Value → Shared → Prop} {E : Value → Shared → Prop} (hx : B.sc.names.lookup x = some .globalImplicit) (hd : (x == ("__debug__" : Str)) = false)
    (hm : x ∈ bnames) (hv : bootBuiltins x = some v) (h : Q v s) : wpAny P.M A (eval (.Name x pos) env) Q E s := by
  have hk : env.scope.kind = .function := by
    have := X.env.ok
    simp only [Blk.ok, Bool.and_eq_true, beq_iff_eq] at this
    rw [X.env.sc]; exact this.1.1
  obtain ⟨g1, g2⟩ := X.good.blt x hm
  refine Calls.Name_function_global hk (by show env.scope.names.lookup x = _; rw [X.env.sc]; exact hx) (Calls.loadGlobal_builtin (mg := P.mg) (mb := P.mb) ?_ g1 ?_ (g2.trans hv) h) hd
  · rw [X.env.glob]; exact X.good.g.keeps X.inv.base
  · rw [X.env.blt]; exact X.good.b.keeps X.inv.base

theorem SimE.call {x : Str} {f : Nat} {F : Fn} {es : List Expr} {ds : DL} {p pos : Pos} (hf : P.Φ f = some F) (hn : P.gl f = true ∧ (P.fd f).name = x) (hx : B.sc.names.lookup x = some .globalImplicit) (hd : (x == ("__debug__" : Str)) = false) (hp : plainArgs es = true) (h : SimL P B es ds) :
    SimE P B (.Call (.Name x p) es [] pos) (dCall f ds) := fun n A env β ρ μ s X hb => by
  obtain ⟨o, g1, g2, g3, g4⟩ := X.good.fn f F hf
  refine Call_Name rfl (X.glob hx hd (hn.2 ▸ g3 hn.1) ?_)
  refine Calls.callWith_function (fd := P.fd f) (o := o) (evalArgs_of (plain_trees hp) (useL h X hb (fun vs μ₁ β₁ xs s₁ e₁ p₁ r₁ hb₁ X₁ => ?_) fun u s₁ q => q))
  refine ⟨⟨X₁.inv.base _ _ g1, g2⟩, wpAny_call ?_⟩
  have e : dCall f ds (P.cx n) ρ μ = P.call n f vs μ₁ := by simp only [dCall, e₁]; rfl
  rw [e]
  obtain ⟨fe, outer, f1, f2, f3⟩ := X₁.env.fr
  refine codeAny_mono (X₁.call n (Nat.le_refl n) f A vs xs β₁ μ₁ s₁ X₁.room.c ⟨_, f1, f3⟩ X₁.inv r₁ hb₁) fun r s' q => ?_
  match r, q with
  | .ok (.ret u), q => exact OkE.after p₁ q
  | .ok .next, q => exact q
  | .ok .brk, q => exact q
  | .ok .cont, q => exact q
  | .error u, q =>
    obtain ⟨c, μ', β', q1, q2, q3⟩ := q
    exact ⟨c, μ', β', q1, p₁.trans q2, (q3.lower fun _ => p₁.back).up⟩

noncomputable def B1Ok (P : Pg) (id : Value) (f : Mem → V → R V) : Prop :=
  ∀ A β μ s a x L, A.units + 200 < cLine → A.handled = none → Inv P.toPl β μ s.heap → Rel P.toPl β s.heap a x → f μ a ≠ .bad →
    wpAny P.M A (PySem.call id [x]) (OkE P.toPl β s (f μ a)) (ExE P.toPl L β s (f μ a)) s
theorem callWith_plain {M : Model} {A : Around} {E : Value → Shared → Prop} {s : Shared} {pos : Pos} {f : Value} {first : List Value} {args : List (Bool × Sem Value)} {Q : Value → Shared → Prop} (hf : ∀ a, f ≠ .ref a) (hp : ∀ p ∈ args, p.1 = false)
    (h : wpAny M A (spliced args) (fun vs s₁ => wpAny M A (PySem.call f (first ++ vs) []) Q E s₁) E s) : wpAny M A (callWith pos f first args []) Q E s := by
  have hany : args.any (·.1) = false := by
    rw [List.any_eq_false]; intro p hp'; rw [hp p hp']; decide
  have h' := evalArgs_of (f := f) (Q := fun a s₁ => wpAny M A (PySem.call f (first ++ a.pos) a.kw) Q E s₁) hp h
  have hkp : keeperOf f = pure .machine := by
    cases f <;> first | rfl | exact absurd rfl (hf _)
  unfold callWith
  refine wpAny_bind (wpAny_holding (wpAny_mono h' (fun a s₁ h₁ => wpAny_bind (wpAny_standAt ?_)) fun _ _ x => x))
  simp only [hany, List.any_nil, Bool.or_false, hkp]
  refine wpAny_bind (wpAny_pure ?_)
  exact wpAny_bind (wpAny_mono h₁ (fun r s₂ hr => wpAny_bind (wpAny_holding (wpAny_point (wpAny_pure hr)))) fun _ _ x => x)

theorem SimE.b1 {x : Str} {id : Value} {f : Mem → V → R V} {e : Expr} {d : DE} {p pos : Pos} (o : B1Ok P id f) (hid : ∀ a, id ≠ .ref a) (hx : B.sc.names.lookup x = some .globalImplicit) (hd : (x == ("__debug__" : Str)) = false) (hm : x ∈ bnames) (hv : bootBuiltins x = some id) (hp : plainArgs [e] = true)
    (hn : ∀ env, starEach [e] env = [(false, eval e env)]) (h : SimE P B e d) : SimE P B (.Call (.Name x p) [e] [] pos) (dB1 f d) := fun n A env β ρ μ s X hb => by
  refine Call_Name rfl (X.blt hx hd hm hv ?_)
  refine callWith_plain hid (plain_trees hp) ?_
  refine wpAny_items_cons (useE h X hb (fun a μ₁ β₁ u s₁ e₁ p₁ r₁ hb₁ X₁ => ?_) fun u s₁ q => q) (hn env)
  refine wpAny_items_nil ?_
  have e : dB1 f d (P.cx n) ρ μ = f μ₁ a := by simp only [dB1, e₁]; rfl
  rw [e]
  exact wpAny_mono (o A β₁ μ₁ s₁ a u env.frame X₁.units X₁.room.2.2 X₁.inv r₁ hb₁) (fun _ _ q => q.after p₁) fun _ _ q => q.after p₁
end
end
end Mine
end
section
set_option autoImplicit false
set_option tactic.hygienic false
set_option backward.eqns.nonrecursive false
namespace Mine
noncomputable section
open PySem PyProof.Rows PySem.SeqAt

structure Turns (P : Pg) (A : Around) (B : Blk) (target : Expr) (bd : Bd) (tw : Env → List Addr) (I : Addr) (items : List V) (chk : Mem → Bool) (vol : List Addr) (St : Nat → Bk → Heap → Prop) : Prop where
  sub : ∀ env, ∀ a ∈ tw env, a ∈ own env
  stay : ∀ i β β' μ μ' s s' W, St i β s.heap → Inv P.toPl β μ s.heap → OwnOk W s.heap → PostS P.toPl W β β' μ' s s' → (∀ a ∈ vol, a ∉ W ∧ a ∉ β) → St i β' s'.heap
  here : ∀ i β h, St i β h → ∀ a ∈ vol, ∃ o, h.get? a = some o ∧ (∃ vs, o.data = .fields vs) ∧ ∃ T, o.cls = .type T
  self : ∀ i β s (Q : Value → Shared → Prop) (E : Value → Shared → Prop), St i β s.heap → Q (.ref I) s → wpAny P.M A (pyIter (.ref I)) Q E s
  item : ∀ i v n env β ρ ρ' μ s (Q : Shared → Prop) (E : Value → Shared → Prop), items[i]? = some v → chk μ = true → At P B n A env β ρ μ s → (∀ a ∈ vol, a ∉ own env ∧ a ∉ β ∧ P.h₀.get? a = none) → St i β s.heap → bd v ρ = some ρ' →
    (∀ s', PostS P.toPl (vol ++ tw env) β β μ s s' → EnvOk P B A env β ρ' s'.heap → St (i + 1) β s'.heap → Q s') →
    wpAny P.M A (pyNext (.ref I)) (fun r s₁ => match r with
      | none => False
      | some u => wpAny P.M A (letOwnedTupleGo target (.ref I) u) (fun _ s₂ => wpAny P.M A (assign target env u) (fun _ s₃ => Q s₃) E s₂) E s₁) E s
  done : ∀ n env β ρ μ s (Q : Shared → Prop) (E : Value → Shared → Prop), chk μ = true → At P B n A env β ρ μ s → (∀ a ∈ vol, a ∉ own env ∧ a ∉ β ∧ P.h₀.get? a = none) → St items.length β s.heap →
    (∀ s', PostS P.toPl (vol ++ tw env) β β μ s s' → EnvOk P B A env β ρ s'.heap → Q s') →
    wpAny P.M A (pyNext (.ref I)) (fun r s₁ => match r with | none => Q s₁ | some _ => False) E s

noncomputable def SimI (P : Pg) (B Bt : Blk) (iter target : Expr) (bd : Bd) (tw : Env → List Addr) (d : DI) : Prop :=
  ∀ n A env β ρ μ s (E : Value → Shared → Prop) (Q : Value → Shared → Prop), At P B n A env β ρ μ s → d (P.cx n) ρ μ ≠ .bad →
    (∀ t μ' β' s' I vol St, d (P.cx n) ρ μ = .ok t μ' → Post P.toPl β β' μ' s s' → Turns P A Bt target bd tw I t.items t.chk vol St → St 0 β' s'.heap →
      (∀ a ∈ vol, s.heap.get? a = none ∧ a ∉ β') → Q (.ref I) s') →
    (∀ x s', ExE P.toPl env.frame β s (d (P.cx n) ρ μ) x s' → E x s') →
    wpAny P.M A (eval iter env) (fun x s₁ => wpAny P.M A (pyIter x) Q E s₁) E s

section
variable {P : Pg} {B : Blk}

theorem PostS.weaken {P : Pl} {W W' : List Addr} {β β' : Bk} {μ' : Mem} {s s' : Shared} (p : PostS P W β β' μ' s s') (h : ∀ a ∈ W, a ∈ W') (hW : ∀ a ∈ β', a ∉ β → a ∉ W') : PostS P W' β β' μ' s s' :=
  ⟨p.st, p.inv, p.pre, fun a o e n w => p.keep a o e n fun q => w (h a q), fun a ha hn => ⟨(p.fresh a ha hn).1, hW a ha hn⟩⟩
theorem PostS.drop {P : Pl} {W V : List Addr} {β β₁ β₂ : Bk} {μ₁ μ₂ : Mem} {s s₁ s₂ : Shared} (p : Post P β β₁ μ₁ s s₁) (hv : ∀ a ∈ V, s.heap.get? a = none) (hW : ∀ a ∈ W, s.heap.get? a ≠ none) (q : PostS P (V ++ W) β₁ β₂ μ₂ s₁ s₂) : PostS P W β β₂ μ₂ s s₂ := by
  refine ⟨?_, q.inv, p.pre.trans q.pre, fun a o e n w => ?_, fun a ha hn => ?_⟩
  · obtain ⟨h1, t1, e1⟩ := p.st
    obtain ⟨h2, t2, e2⟩ := q.st
    exact ⟨h2, t2, by rw [e2, e1]⟩
  · obtain ⟨o₁, e₁, s₁⟩ := p.keep a o e n
    obtain ⟨o₂, e₂, s₂⟩ := q.keep a o₁ e₁ (p.notIn n e) fun h => by
      rcases List.mem_append.mp h with h | h
      · rw [hv a h] at e; cases e
      · exact w h
    exact ⟨o₂, e₂, s₁.trans s₂⟩
  · by_cases h₁ : a ∈ β₁
    · exact ⟨p.fresh a h₁ hn, fun w => hW a w (p.fresh a h₁ hn)⟩
    · obtain ⟨f1, f2⟩ := q.fresh a ha h₁
      exact ⟨p.back f1, fun w => f2 (List.mem_append_right _ w)⟩

theorem keepV {P : Pl} {W : List Addr} {β β' : Bk} {μ' : Mem} {s s' : Shared} (p : PostS P W β β' μ' s s') {a : Addr} {o : Obj} {vs : Array Value} (e : s.heap.get? a = some o) (hd : o.data = .fields vs) (hw : a ∉ W) (hb : a ∉ β) : s'.heap.get? a = some o := by
  obtain ⟨o₂, e₂, hs⟩ := p.keep a o e hb hw
  rw [hs.eq (by rw [hd]; simp)] at e₂; exact e₂
theorem Turns.keepSt {A : Around} {target : Expr} {bd : Bd} {tw : Env → List Addr} {I : Addr} {items : List V} {chk : Mem → Bool} {vol : List Addr} {St : Nat → Bk → Heap → Prop} (T : Turns P A B target bd tw I items chk vol St) {W : List Addr} {i : Nat} {β β' : Bk} {μ μ' : Mem} {s s' : Shared}
    (st : St i β s.heap) (I : Inv P.toPl β μ s.heap) (hW : OwnOk W s.heap) (p : PostS P.toPl W β β' μ' s s') (hv : ∀ a ∈ vol, a ∉ W ∧ a ∉ β) : St i β' s'.heap ∧ ∀ a ∈ vol, a ∉ β' := by
  refine ⟨T.stay i β β' μ μ' s s' W st I hW p hv, fun a ha => ?_⟩
  obtain ⟨o', e', _⟩ := T.here i β _ st a ha
  exact p.notIn (hv a ha).2 e'

theorem twsub {A : Around} {target : Expr} {bd : Bd} {tw : Env → List Addr} {I : Addr} {items : List V} {chk : Mem → Bool} {vol : List Addr} {St : Nat → Bk → Heap → Prop} {env : Env} (T : Turns P A B target bd tw I items chk vol St) : ∀ a ∈ vol ++ tw env, a ∈ vol ++ own env := fun a ha => by
  rcases List.mem_append.mp ha with h | h
  · exact List.mem_append_left _ h
  · exact List.mem_append_right _ (T.sub env a h)
theorem forTurns {A : Around} {target : Expr} {bd : Bd} {tw : Env → List Addr} {I : Addr} {items : List V} {chk : Mem → Bool} {vol : List Addr} {St : Nat → Bk → Heap → Prop} {body : List Stmt} {db : DS} {env : Env} {n : Nat}
    (T : Turns P A B target bd tw I items chk vol St) (hbody : SimS P B body db) :
    ∀ (rest : List V) (i : Nat) (β : Bk) (ρ : Fr) (μ : Mem) (s : Shared) (R : Result → Shared → Prop), i ≤ items.length → items.drop i = rest → At P B n A env β ρ μ s → (∀ a ∈ vol, a ∉ own env ∧ a ∉ β ∧ P.h₀.get? a = none) → St i β s.heap → forS chk bd db (P.cx n) rest ρ μ ≠ .bad →
      (∀ fl s', OkN P B A env (vol ++ own env) β s (forS chk bd db (P.cx n) rest ρ μ) fl s' ∨ OkR P B A env (vol ++ own env) β s (forS chk bd db (P.cx n) rest ρ μ) fl s' → R (.ok fl) s') →
      (∀ x s', (∃ c ρ' μ' β', forS chk bd db (P.cx n) rest ρ μ = .exc c ρ' μ' ∧ PostS P.toPl (vol ++ own env) β β' μ' s s' ∧ Fly P.toPl β' env.frame s.heap s'.heap x c ∧ EnvOk P B A env β' ρ' s'.heap ∧ ∀ a ∈ vol, s'.heap.get? a ≠ none) → notedBy P.M A env (fun e s'' => R (.error e) s'') x s') →
      codeAny P.M A (.forLoop target (.ref I) body [] env) R s := by
  intro rest
  induction rest with
  | nil =>
    intro i β ρ μ s R hle hd X hv st hb hok hex
    have hchk : chk μ = true := by
      by_cases q : chk μ = true
      · exact q
      · simp only [forS, q] at hb; exact absurd rfl hb
    have hi : items.length ≤ i := List.drop_eq_nil_iff.mp hd
    have hi' : i ≤ items.length := hle
    obtain rfl : i = items.length := Nat.le_antisymm hi' hi
    refine codeAny_of_tree ?_
    show wpAny P.M A ((forTurn target (.ref I) body [] env).onRaise (fun x => do noteFrame x env; theTreesLotGoes x)) _ _ s
    refine wpAny_noted ?_
    simp only [forTurn]
    refine wpAny_bind (wpAny_standAt (wpAny_bind (wpAny_onRaise (wpAny_mono (T.done n env β ρ μ s (fun s' => R (.ok .next) s') (notedBy P.M A env fun e s' => R (.error e) s') hchk X hv st fun s' p' he => ?_) (fun r s₁ h₁ => ?_) fun _ _ h' => wpAny_standAt h'))))
    · exact hok .next s' (.inl ⟨ρ, μ, β, by simp only [forS, hchk, if_true], rfl, p'.weaken (twsub T) fun a ha hn => absurd ha hn, he⟩)
    · cases r with
      | none => exact wpAny_pure ⟨rfl, codeAny_block (wpAny_execs_nil h₁)⟩
      | some u => exact h₁.elim
  | cons v rest ih =>
    intro i β ρ μ s R hle hd X hv st hb hok hex
    have hchk : chk μ = true := by
      by_cases q : chk μ = true
      · exact q
      · simp only [forS, q] at hb; exact absurd rfl hb
    have hiv : items[i]? = some v := by
      have := congrArg List.head? hd
      rw [List.head?_drop] at this; simpa using this
    have hi : i < items.length := (List.getElem?_eq_some_iff.mp hiv).1
    have hd' : items.drop (i + 1) = rest := by
      have := congrArg List.tail hd
      rw [List.tail_drop] at this; simpa using this
    cases hρ : bd v ρ with
    | none => simp only [forS, hchk, if_true, hρ] at hb; exact absurd rfl hb
    | some ρ' =>
      have e1 : forS chk bd db (P.cx n) (v :: rest) ρ μ = (match db (P.cx n) ρ' μ with
        | .next ρ'' μ' => forS chk bd db (P.cx n) rest ρ'' μ'
        | .ret v μ' => .ret v μ'
        | .exc x ρ'' μ' => .exc x ρ'' μ'
        | .bad => .bad) := by rw [forS, if_pos hchk, hρ] <;> rfl
      rw [e1] at hb hok hex
      refine codeAny_of_tree ?_
      show wpAny P.M A ((forTurn target (.ref I) body [] env).onRaise (fun x => do noteFrame x env; theTreesLotGoes x)) _ _ s
      refine wpAny_noted ?_
      simp only [forTurn]
      refine wpAny_bind (wpAny_standAt (wpAny_bind (wpAny_onRaise (wpAny_mono (T.item i v n env β ρ ρ' μ s (fun s₃ => wpAny P.M A (execs body env) (fun f s₄ => match f with
          | .next | .cont => codeAny P.M A (.forLoop target (.ref I) body [] env) R s₄
          | .brk => R (.ok .next) s₄
          | .ret v => R (.ok (.ret v)) s₄) (notedBy P.M A env fun e s' => R (.error e) s') s₃) (notedBy P.M A env fun e s' => R (.error e) s') hiv hchk X hv st hρ fun s₃ p₃' he₃ st₃ => ?_) (fun r s₁ h₁ => ?_) fun _ _ h' => wpAny_standAt h'))))
      · have p₃ : PostS P.toPl (vol ++ own env) β β μ s s₃ := p₃'.weaken (twsub T) fun a ha hn => absurd ha hn
        have X₃ : At P B n A env β ρ' μ s₃ := ⟨X.good, X.call, X.room, he₃, p₃.inv⟩
        have lv₃ : ∀ a ∈ vol ++ own env, s₃.heap.get? a ≠ none := fun a ha q => by
          rcases List.mem_append.mp ha with h | h
          · obtain ⟨o, e, _⟩ := T.here _ _ _ st₃ a h
            rw [q] at e; cases e
          · exact he₃.live a h q
        have wk : ∀ {β₄ : Bk} {μ₄ : Mem} {s₄ : Shared}, PostS P.toPl (own env) β β₄ μ₄ s₃ s₄ → ∀ a ∈ β₄, a ∉ β → a ∉ vol ++ own env := fun q a ha hn hw => lv₃ a hw (q.fresh a ha hn).1
        refine wpAny_mono (hbody n A env β ρ' μ s₃ X₃ (fun q => hb (by rw [q]))) (fun f s₄ q => ?_) fun x s₄ q => ?_
        · rcases q with ⟨ρ₄, μ₄, β₄, e4, rfl, p₄, he₄⟩ | ⟨u, x, μ₄, β₄, e4, rfl, p₄, r₄, he₄⟩
          · rw [e4] at hb hok hex
            have p₄' : PostS P.toPl (vol ++ own env) β β₄ μ₄ s₃ s₄ := p₄.weaken (fun a h => List.mem_append_right _ h) (wk p₄)
            obtain ⟨st₄, nb⟩ := T.keepSt st₃ X₃.inv he₃.ownOk p₄ fun a ha => ⟨(hv a ha).1, (hv a ha).2.1⟩
            have lv₄ : ∀ a ∈ vol ++ own env, s₄.heap.get? a ≠ none := fun a ha q => by
              rcases List.mem_append.mp ha with h | h
              · obtain ⟨o, e, _⟩ := T.here _ _ _ st₄ a h
                rw [q] at e; cases e
              · exact he₄.live a h q
            refine ih (i + 1) β₄ ρ₄ μ₄ s₄ R hi hd' ⟨X.good, X.call, X.room, he₄, p₄.inv⟩ (fun a ha => ⟨(hv a ha).1, nb a ha, (hv a ha).2.2⟩) st₄ hb (fun fl s' q => hok fl s' ?_) fun x s' q => hex x s' ?_
            · rcases q with ⟨a1, a2, a3, a4, a5, a6, a7⟩ | ⟨a1, a2, a3, a4, a5, a6, a7, a8, a9⟩
              · exact .inl ⟨a1, a2, a3, a4, a5, (p₃.trans p₄').trans a6, a7⟩
              · exact .inr ⟨a1, a2, a3, a4, a5, a6, (p₃.trans p₄').trans a7, a8, a9⟩
            · obtain ⟨a1, a2, a3, a4, a5, a6, a7, a8⟩ := q
              exact ⟨a1, a2, a3, a4, a5, (p₃.trans p₄').trans a6, a7.lower fun _ => (p₃.trans p₄').back lv₄, a8⟩
          · rw [e4] at hok
            exact hok (.ret x) s₄ (.inr ⟨u, x, μ₄, β₄, rfl, rfl, p₃.trans (p₄.weaken (fun a h => List.mem_append_right _ h) (wk p₄)), r₄, he₄⟩)
        · obtain ⟨c, ρ₄, μ₄, β₄, e4, p₄, f₄, he₄⟩ := q
          rw [e4] at hex
          refine hex x s₄ ⟨c, ρ₄, μ₄, β₄, rfl, p₃.trans (p₄.weaken (fun a h => List.mem_append_right _ h) (wk p₄)), f₄.lower fun _ => p₃.back lv₃, he₄, fun a ha q => ?_⟩
          obtain ⟨o, e, _⟩ := T.here _ _ _ st₃ a ha
          obtain ⟨o', e', _⟩ := p₄.keep a o e (hv a ha).2.1 (hv a ha).1
          rw [q] at e'; cases e'
      · cases r with
        | none => exact h₁.elim
        | some u =>
          refine wpAny_bind (wpAny_mono h₁ (fun _ s₂ h₂ => wpAny_bind (wpAny_mono h₂ (fun _ s₃ h₃ => wpAny_bind (wpAny_mono h₃ (fun f s₄ h₄ => ?_) fun _ _ h' => h')) fun _ _ h' => h')) fun _ _ h' => h')
          cases f with
          | next => exact wpAny_pure ⟨rfl, h₄⟩
          | cont => exact wpAny_pure ⟨rfl, h₄⟩
          | brk => exact wpAny_pure h₄
          | ret v => exact wpAny_pure h₄

theorem EnvOk.postV {A : Around} {env : Env} {β β' : Bk} {ρ : Fr} {μ μ' : Mem} {s s' : Shared} {V : List Addr} (x : EnvOk P B A env β ρ s.heap) (I : Inv P.toPl β μ s.heap) (hV : ∀ a ∈ V, ∀ o, s.heap.get? a = some o → (∃ vs, o.data = .fields vs) ∧ ∃ T, o.cls = .type T) (p : PostS P.toPl V β β' μ' s s') : EnvOk P B A env β' ρ s'.heap := by
  have hO : OwnOk V s.heap := fun a ha o e => .inr (.inr (.inl (hV a ha o e)))
  have nd : ∀ a o, s.heap.get? a = some o → ((∃ es n, o.data = .dict es n) ∨ ∃ v, o.data = .cell v) → a ∉ V := fun a o e hd q => by
    obtain ⟨⟨vs, h⟩, _⟩ := hV a q o e
    rcases hd with ⟨_, _, h'⟩ | ⟨_, h'⟩ <;> rw [h] at h' <;> cases h'
  exact { x with
    ns := by
      obtain ⟨m, ⟨o, es, n, e, d, r⟩, hm⟩ := x.ns
      obtain ⟨o', e', hs⟩ := p.keep _ o e x.loc.1 (nd _ o e (.inl ⟨es, n, d⟩))
      refine ⟨m, ⟨o', es, n, e', hs.data.trans d, r⟩, fun i y v ht hv => ?_⟩
      obtain ⟨u, h1, h2⟩ := hm i y v ht hv
      exact ⟨u, h1, h2.monoS I hO p⟩
    loc := by
      obtain ⟨m, ⟨o, es, n, e, d, r⟩, hm⟩ := x.ns
      exact ⟨p.notIn x.loc.1 e, x.loc.2⟩
    cell := fun i y k ht hk => by
      obtain ⟨c, u, h1, h2, h3, ⟨o, e, d⟩, h5⟩ := x.cell i y k ht hk
      obtain ⟨o', e', hs⟩ := p.keep c o e h2 (nd _ o e (.inr ⟨_, d⟩))
      refine ⟨c, u, h1, p.notIn h2 e, h3, ⟨o', e', hs.data.trans d⟩, fun v hv => ?_⟩
      obtain ⟨z, e1, e2⟩ := h5 v hv
      exact ⟨z, e1, e2.monoS I hO p⟩
    fr := by
      obtain ⟨fe, outer, h1, h2, h3⟩ := x.fr
      refine ⟨fe, outer, h1, h2, fun e he => ?_⟩
      obtain ⟨k, L, o, g1, g2, g3, g4, es, n, g5⟩ := h3 e he
      obtain ⟨o', e', hs⟩ := p.keep L o g4 g2 (nd _ o g4 (.inl ⟨es, n, g5⟩))
      exact ⟨k, L, o', g1, p.notIn g2 g4, g3, e', es, n, hs.data.trans g5⟩
    own := fun a ha => by
      obtain ⟨h1, h2, o, h3, h4⟩ := x.own a ha
      obtain ⟨o', e', hs⟩ := p.keep a o h3 h1 (nd _ o h3 h4)
      exact ⟨p.notIn h1 h3, h2, o', e', by rw [hs.data]; exact h4⟩ }

theorem postV {P : Pl} {β : Bk} {μ : Mem} {s : Shared} {h' : Heap} {V : List Addr} (tk : Nat) (I : Inv P β μ s.heap) (hVb : ∀ a ∈ V, a ∉ β ∧ P.h₀.get? a = none) (hV : ∀ a ∈ V, ∀ o, s.heap.get? a = some o → (∃ vs, o.data = .fields vs) ∧ ∃ T, o.cls = .type T)
    (hk : ∀ a o, s.heap.get? a = some o → a ∉ V → h'.get? a = some o) : PostS P V β β μ s { s with heap := h', toks := tk } := by
  have key : ∀ a o, s.heap.get? a = some o → (∀ vs, o.data ≠ .fields vs) → h'.get? a = some o := fun a o e n => hk a o e fun q => by
    obtain ⟨⟨vs, h⟩, _⟩ := hV a q o e
    exact n vs h
  have rel : ∀ {v : Mine.V} {x : Value}, Rel P β s.heap v x → Rel P β h' v x := fun r => r.keepBut fun a o e n => hk a o e fun q => by
    obtain ⟨⟨vs, h⟩, T, h'⟩ := hV a q o e
    rcases n with n | ⟨C, n⟩
    · exact n vs h
    · rw [n] at h'; cases h'
  have rels : ∀ {v : List Mine.V} {x : List Value}, RelL P β s.heap v x → RelL P β h' v x := fun r => r.keepBut fun a o e n => hk a o e fun q => by
    obtain ⟨⟨vs, h⟩, T, h'⟩ := hV a q o e
    rcases n with n | ⟨C, n⟩
    · exact n vs h
    · rw [n] at h'; cases h'
  refine ⟨⟨h', tk, rfl⟩, ⟨I.len, I.nd, fun i o a e1 e2 => ?_, fun a o e => ?_, I.new⟩, List.prefix_refl _, fun a o e _ w => ⟨o, hk a o e w, .refl _⟩, fun _ q n => absurd q n⟩
  · have hb : a ∉ V := fun q => (hVb a q).1 (List.mem_of_getElem? e2)
    have r := I.obj i o a e1 e2
    cases r with
    | list e r l => exact .list (hk _ _ e hb) (rels r) l
    | inst e q d => exact .inst (hk _ _ e hb) q d
    | dic e => exact .dic (hk _ _ e hb)
    | ns n f => exact .ns (n.at fun o e => hk _ _ e hb) (f.map fun _ _ r => rel r)
  · exact hk a o (I.base a o e) fun q => by rw [(hVb a q).2] at e; cases e

theorem SimX.for {iter target : Expr} {bd : Bd} {tw : Env → List Addr} {d : DI} {body : List Stmt} {db : DS} {pos : Pos} (hs : ∀ env x, foldedSetIterable iter env x = pure x) (hi : SimI P B B iter target bd tw d) (hb : SimS P B body db) : SimX P B (.For target iter body [] pos) (sFor d bd db) := fun n A env β ρ μ s X hbad => by
  have hnb : d (P.cx n) ρ μ ≠ .bad := fun q => hbad (by simp only [sFor, q]; rfl)
  refine wpAny_For (hi n A env β ρ μ s _ _ X hnb (fun t μ₁ β₁ s₁ I vol St e₁ p₁ T st hv => ?_) fun x s' q => ?_) (hs env)
  · have e : sFor d bd db (P.cx n) ρ μ = forS t.chk bd db (P.cx n) t.items ρ μ₁ := by simp only [sFor, e₁]; rfl
    rw [e] at hbad ⊢
    have X₁ := X.post p₁
    have hvv : ∀ a ∈ vol, a ∉ own env ∧ a ∉ β₁ ∧ P.h₀.get? a = none := fun a ha => by
      obtain ⟨h1, h2⟩ := hv a ha
      refine ⟨fun q => ?_, h2, ?_⟩
      · exact X.env.live a q h1
      · cases e : P.h₀.get? a with
        | none => rfl
        | some o => rw [X.inv.base _ _ e] at h1; cases h1
    refine forTurns T hb t.items 0 β₁ ρ μ₁ s₁ _ (Nat.zero_le _) rfl X₁ hvv st hbad (fun fl s' q => ?_) fun x s' q => ?_
    · rcases q with ⟨ρ', μ', β', q1, q2, q3, q4⟩ | ⟨v, x, μ', β', q1, q2, q3, q4, q5⟩
      · exact .inl ⟨ρ', μ', β', q1, q2, PostS.drop p₁ (fun a ha => (hv a ha).1) X.env.live q3, q4⟩
      · exact .inr ⟨v, x, μ', β', q1, q2, PostS.drop p₁ (fun a ha => (hv a ha).1) X.env.live q3, q4, q5⟩
    · obtain ⟨c, ρ', μ', β', q1, q2, q3, q4, q5⟩ := q
      have lv : ∀ a ∈ vol ++ own env, s'.heap.get? a ≠ none := fun a ha => (List.mem_append.mp ha).elim (q5 a) (q4.live a)
      exact noted_fly q4 q2.inv (fun a q => q2.back lv q) q3 fun h' k f tb => own_fly (s := { s' with heap := h' }) f tb fun h'' k' f' => ⟨c, ρ', μ', β', q1, (PostS.drop p₁ (fun a ha => (hv a ha).1) X.env.live q2).chg ((k.trans k').lower fun a q => p₁.back q), f'.lower fun a q => p₁.back q, q4.chg (k.trans k')⟩
  · obtain ⟨c, μ', β', e1, p, f⟩ := q
    exact ⟨c, ρ, μ', β', by simp only [sFor, e1]; rfl, p.own X.env.live, f, X.env.post X.inv p⟩
end
end
end Mine
end
section
set_option autoImplicit false
set_option tactic.hygienic false
set_option backward.eqns.nonrecursive false
namespace Mine
noncomputable section
open PySem PyProof.Rows PySem.SeqAt

structure Raw (P : Pg) (A : Around) (I : Addr) (items : List V) (chk : Mem → Bool) (vol : List Addr) (St : Nat → Bk → Heap → Prop) : Prop where
  stay : ∀ i β β' μ μ' s s' W, St i β s.heap → Inv P.toPl β μ s.heap → OwnOk W s.heap → PostS P.toPl W β β' μ' s s' → (∀ a ∈ vol, a ∉ W ∧ a ∉ β) → St i β' s'.heap
  here : ∀ i β h, St i β h → ∀ a ∈ vol, ∃ o, h.get? a = some o ∧ (∃ vs, o.data = .fields vs) ∧ ∃ T, o.cls = .type T
  self : ∀ i β s (Q : Value → Shared → Prop) (E : Value → Shared → Prop), St i β s.heap → Q (.ref I) s → wpAny P.M A (pyIter (.ref I)) Q E s
  item : ∀ i v β μ s (Q : Option Value → Shared → Prop) (E : Value → Shared → Prop), items[i]? = some v → chk μ = true → Inv P.toPl β μ s.heap → (∀ a ∈ vol, a ∉ β) → St i β s.heap →
    (∀ u h' tk, Rel P.toPl β h' v u → St (i + 1) β h' → (∀ a o, s.heap.get? a = some o → a ∉ vol → h'.get? a = some o) → Q (some u) { s with heap := h', toks := tk }) → wpAny P.M A (pyNext (.ref I)) Q E s
  done : ∀ β μ s (Q : Option Value → Shared → Prop) (E : Value → Shared → Prop), chk μ = true → Inv P.toPl β μ s.heap → (∀ a ∈ vol, a ∉ β) → St items.length β s.heap →
    (∀ h' tk, (∀ a o, s.heap.get? a = some o → a ∉ vol → h'.get? a = some o) → Q none { s with heap := h', toks := tk }) → wpAny P.M A (pyNext (.ref I)) Q E s

section
variable {P : Pg} {B : Blk} {A : Around}

theorem own_app {W V : List Addr} {P : Pl} {β β' : Bk} {μ' : Mem} {s s' : Shared} (p : PostS P V β β' μ' s s') (hW : ∀ a ∈ W, s.heap.get? a ≠ none) : PostS P (V ++ W) β β' μ' s s' :=
  p.weaken (fun _ h => List.mem_append_left _ h) fun a ha hn hw => by
    rcases List.mem_append.mp hw with h | h
    · exact (p.fresh a ha hn).2 h
    · exact hW a h (p.fresh a ha hn).1

theorem Raw.one {I : Addr} {items : List V} {chk : Mem → Bool} {vol : List Addr} {St : Nat → Bk → Heap → Prop} (T : Raw P A I items chk vol St) {i : Nat} {x : Str} {k : NameKind} {p : Pos} {bd : Bd} (hbd : ∀ v ρ ρ', bd v ρ = some ρ' → ρ' = ρ.set i v) (ht : B.tab[i]? = some (some (x, k))) (hk : k = .local ∨ k = .cell) :
    Turns P A B (.Name x p) bd (tgt k x) I items chk vol St where
  sub := fun _ => tgt_sub
  stay := T.stay
  here := T.here
  self := T.self
  item := fun j v n env β ρ ρ' μ s Q E hj hc X hv st hρ h => by
    obtain rfl := hbd v ρ ρ' hρ
    have hV : ∀ a ∈ vol, ∀ o, s.heap.get? a = some o → (∃ vs, o.data = .fields vs) ∧ ∃ T, o.cls = .type T := fun a ha o e => by
      obtain ⟨o', e', r⟩ := T.here j β _ st a ha
      rw [e] at e'; cases e'; exact r
    refine T.item j v β μ s _ _ hj hc X.inv (fun a ha => (hv a ha).2.1) st fun u h' tk r st' hkp => ?_
    have pV := postV tk X.inv (fun a ha => (hv a ha).2) hV hkp
    have E₁ := X.env.postV X.inv hV pV
    have X₁ : At P B n A env β ρ μ { s with heap := h', toks := tk } := ⟨X.good, X.call, X.room, E₁, pV.inv⟩
    show wpAny P.M A (pure ()) _ _ _
    refine wpAny_pure (wpAny_assign_Name (store_at X₁ ht hk r fun s' p' he => ?_))
    have lv : ∀ a ∈ tgt k x env, s.heap.get? a ≠ none := fun a ha => X.env.live a (tgt_sub a ha)
    have p1 : PostS P.toPl (vol ++ tgt k x env) β β μ s { s with heap := h', toks := tk } := own_app pV lv
    have p2 : PostS P.toPl (vol ++ tgt k x env) β β μ { s with heap := h', toks := tk } s' := p'.weaken (fun a ha => List.mem_append_right _ ha) fun a ha hn => absurd ha hn
    exact h s' (p1.trans p2) he (T.stay _ β β μ μ _ s' (tgt k x env) st' pV.inv (fun a ha => E₁.ownOk a (tgt_sub a ha)) p' fun a ha => ⟨fun q => (hv a ha).1 (tgt_sub a q), (hv a ha).2.1⟩)
  done := fun n env β ρ μ s Q E hc X hv st h => by
    have hV : ∀ a ∈ vol, ∀ o, s.heap.get? a = some o → (∃ vs, o.data = .fields vs) ∧ ∃ T, o.cls = .type T := fun a ha o e => by
      obtain ⟨o', e', r⟩ := T.here _ β _ st a ha
      rw [e] at e'; cases e'; exact r
    refine T.done β μ s _ _ hc X.inv (fun a ha => (hv a ha).2.1) st fun h' tk hkp => ?_
    have pV := postV tk X.inv (fun a ha => (hv a ha).2) hV hkp
    exact h _ (own_app pV fun a ha => X.env.live a (tgt_sub a ha)) (X.env.postV X.inv hV pV)

theorem Raw.list (hh : A.handled = none) {I l : Addr} {a : Nat} {xs : List V} (hIl : I ≠ l) : Raw P A I xs (fun μ => decide (μ[a]? = some (.list xs))) [I] (fun i β h => h.IsListIter I l i ∧ β[a]? = some l) where
  stay := fun i β β' μ μ' s s' W st _ _ p hv => by
    obtain ⟨⟨o, e, r1, r2⟩, hb⟩ := st
    exact ⟨⟨o, keepV p e r2 (hv I (by simp)).1 (hv I (by simp)).2, r1, r2⟩, prefix_get p.pre hb⟩
  here := fun i β h st b hb => by
    obtain ⟨⟨o, e, h1, h2⟩, _⟩ := st
    obtain rfl : b = I := by simpa using hb
    exact ⟨o, e, ⟨_, h2⟩, ⟨_, h1⟩⟩
  self := fun i β s Q E st h => wpAny_pyIter_listiter st.1 h
  item := fun i v β μ s Q E hv hc Iv hn st h => by
    have hc' := of_decide_eq_true hc
    have ro := Iv.obj a _ l hc' st.2
    cases ro with
    | @list _ vs n _ a1 a2 a3 =>
      obtain ⟨u, hu, r⟩ := a2.get hv
      refine wpAny_pyNext_list_item st.1 ⟨_, a1, rfl, n, rfl⟩ (by simpa using hu) fun h' hit hs => ?_
      refine h u h' s.toks ?_ ⟨hit, st.2⟩ fun b o e hb => (hs.2 b (by simpa using hb)).trans e
      refine r.keepBut fun b o e hd => (hs.2 b fun q => ?_).trans e
      obtain ⟨⟨oI, eI, c1, c2⟩, _⟩ := st
      rw [q, eI] at e; cases e
      rcases hd with hd | ⟨C, hd⟩
      · exact hd _ c2
      · rw [c1] at hd; cases hd
  done := fun β μ s Q E hc Iv hn st h => by
    have hc' := of_decide_eq_true hc
    have ro := Iv.obj a _ l hc' st.2
    cases ro with
    | @list _ vs n _ a1 a2 a3 =>
      have hlen := a2.length
      refine wpAny_pyNext_list_end hh st.1 ⟨_, a1, rfl, n, rfl⟩ (by simp at hlen; simp [hlen]) fun h' hs => ?_
      exact h h' s.toks fun b o e hb => hs b o (by simpa using hb) e

theorem Raw.tuple (hh : A.handled = none) {I l : Addr} {xs : List V} : Raw P A I xs (fun _ => true) [I]
    (fun i β h => h.IsTupleIter I l i ∧ ∃ vs n, h.get? l = some ⟨.type "tuple", none, .seq vs n, #[]⟩ ∧ RelL P.toPl β h xs vs.toList) where
  stay := fun i β β' μ μ' s s' W st Iv hW p hv => by
    obtain ⟨⟨o, e, r1, r2⟩, vs, n, g1, g2⟩ := st
    refine ⟨⟨o, keepV p e r2 (hv I (by simp)).1 (hv I (by simp)).2, r1, r2⟩, vs, n, ?_, g2.monoS Iv hW p⟩
    obtain ⟨o₂, e₂, hs⟩ := p.keep l _ g1 (fun q => by
      obtain ⟨ob, e', n⟩ := Iv.there q
      rw [g1] at e'; cases e'; exact n ⟨rfl, _, _, rfl⟩) fun q => by
      rcases hW l q _ g1 with ⟨_, _, h⟩ | ⟨_, h⟩ | ⟨⟨_, h⟩, _⟩ | ⟨h, _⟩ <;> simp at h
    rw [hs.eq (by simp)] at e₂; exact e₂
  here := fun i β h st b hb => by
    obtain ⟨⟨o, e, h1, h2⟩, _⟩ := st
    obtain rfl : b = I := by simpa using hb
    exact ⟨o, e, ⟨_, h2⟩, ⟨_, h1⟩⟩
  self := fun i β s Q E st h => wpAny_pyIter_tupleiter st.1 h
  item := fun i v β μ s Q E hv hc Iv hn st h => by
    obtain ⟨hit, vs, n, g1, g2⟩ := st
    obtain ⟨u, hu, r⟩ := g2.get hv
    refine wpAny_pyNext_tuple_item hit ⟨_, g1, rfl, n, rfl⟩ (by simpa using hu) fun h' hit' hs => ?_
    have kb : ∀ b o, s.heap.get? b = some o → (∀ vs, o.data ≠ .fields vs) ∨ (∃ C, o.cls = .ref C) → h'.get? b = some o := fun b o e hd => (hs.2 b fun q => by
      obtain ⟨oI, eI, c1, c2⟩ := hit
      rw [q, eI] at e; cases e
      rcases hd with hd | ⟨C, hd⟩
      · exact hd _ c2
      · rw [c1] at hd; cases hd).trans e
    exact h u h' s.toks (r.keepBut kb) ⟨hit', vs, n, kb _ _ g1 (.inl fun _ q => by cases q), g2.keepBut kb⟩ fun b o e hb => (hs.2 b (by simpa using hb)).trans e
  done := fun β μ s Q E hc Iv hn st h => by
    obtain ⟨hit, vs, n, g1, g2⟩ := st
    have hlen := g2.length
    refine wpAny_pyNext_tuple_end hh hit ⟨_, g1, rfl, n, rfl⟩ (by simp at hlen; simp [hlen]) fun h' hs => ?_
    exact h h' s.toks fun b o e hb => hs b o (by simpa using hb) e

structure Bind (B : Blk) (target : Expr) (bd : Bd) (tw : Env → List Addr) : Prop where
  make : ∀ {P : Pg} {A : Around} {I : Addr} {items : List V} {chk : Mem → Bool} {vol : List Addr} {St : Nat → Bk → Heap → Prop}, Raw P A I items chk vol St → Turns P A B target bd tw I items chk vol St

theorem Bind.one {i : Nat} {x : Str} {k : NameKind} {p : Pos} (ht : B.tab[i]? = some (some (x, k))) (hk : k = .local ∨ k = .cell) : Bind B (.Name x p) (bd1 i) (tgt k x) :=
  ⟨fun T => T.one (fun v ρ ρ' h => by simp only [bd1, Option.some.injEq] at h; exact h.symm) ht hk⟩
theorem Bind.cone {i : Nat} {x : Str} {k : NameKind} {p : Pos} (ht : B.tab[i]? = some (some (x, k))) (hk : k = .local ∨ k = .cell) : Bind B (.Name x p) (cb1 i) (tgt k x) :=
  ⟨fun T => T.one (fun v ρ ρ' h => by
    simp only [cb1] at h
    split at h
    · simp only [Option.some.injEq] at h; exact h.symm
    · cases h) ht hk⟩

theorem Raw.range (hh : A.handled = none) {I : Addr} {a b c : Int} (n : Nat) (hn : n = (Builtin.Range.rangeSize a b c).toNat) : Raw P A I (rangeL a b c) (fun _ => true) [I] (fun i _ h => i ≤ n ∧ IsRangeIter h I (a + (i : Nat) * c) ((n : Int) - (i : Nat)) c) where
  stay := fun i β β' μ μ' s s' W st _ _ p hv => ⟨st.1, keepV p st.2 rfl (hv I (by simp)).1 (hv I (by simp)).2⟩
  here := fun i β h st b hb => by
    obtain rfl : b = I := by simpa using hb
    exact ⟨_, st.2, ⟨_, rfl⟩, ⟨_, rfl⟩⟩
  self := fun i β s Q E st h => wpAny_pyIter_rangeiter st.2 h
  item := fun i v β μ s Q E hv hc Iv hnb st h => by
    have hi : i < n := by
      have := (List.getElem?_eq_some_iff.mp hv).1
      simp [rangeL] at this; omega
    have hv' : v = .int (a + (i : Nat) * c) := by
      simp only [rangeL, List.getElem?_map] at hv
      rw [List.getElem?_range (by rw [← hn]; exact hi)] at hv
      simpa using hv.symm
    refine wpAny_pyNext_range_item st.2 (by omega) fun h' hit hs => ?_
    refine h _ h' _ (by rw [hv']; exact .int _ _) ⟨hi, ?_⟩ fun b o e hb => (hs.2 b (by simpa using hb)).trans e
    have e1 : a + ((i + 1 : Nat) : Int) * c = a + (i : Int) * c + c := by push_cast; rw [Int.add_mul, Int.one_mul, Int.add_assoc]
    have e2 : (n : Int) - ((i + 1 : Nat) : Int) = (n : Int) - (i : Int) - 1 := by push_cast; omega
    rw [e1, e2]; exact hit
  done := fun β μ s Q E hc Iv hnb st h => by
    have hl : (rangeL a b c).length = n := by simp [rangeL, hn]
    refine wpAny_pyNext_range_end hh st.2 (by rw [hl]; omega) fun h' hs => ?_
    exact h h' s.toks fun b o e hb => hs b o (by simpa using hb) e

theorem size_tiny {a b : Int} (ha : tiny a = true) (hb : tiny b = true) : 0 ≤ Builtin.Range.rangeSize a b 1 ∧ Builtin.Range.small a b 1 = true := by
  simp only [tiny, Bool.and_eq_true, decide_eq_true_eq] at ha hb
  unfold Builtin.Range.small Builtin.Range.rangeSize Builtin.Range.rangeFitsLong
  simp only [show (1 : Int) > 0 by decide, if_true, Int.ediv_one]
  split <;> refine ⟨by omega, ?_⟩ <;> simp only [Bool.and_eq_true, Bool.or_eq_true, decide_eq_true_eq, beq_iff_eq] <;> omega
theorem range_args {P : Pl} {β : Bk} {h : Heap} {μ : Mem} {vs : List V} {xs : List Value} (r : RelL P β h vs xs) (hb : rangeArgs μ vs ≠ .bad) : (∃ i t, vs = [.int i] ∧ xs = [.int i t]) ∨ ∃ i t j u, vs = [.int i, .int j] ∧ xs = [.int i t, .int j u] := by
  cases r with
  | nil => exact absurd rfl hb
  | @cons v _ x _ r r1 =>
    cases r1 with
    | nil =>
      cases v with
      | int i => obtain ⟨t, e⟩ := r.int'; exact .inl ⟨i, t, rfl, by rw [e]⟩
      | _ => exact absurd rfl hb
    | @cons v' _ x' _ r' r2 =>
      cases r2 with
      | nil =>
        cases v' with
        | int j =>
          cases v with
          | int i =>
            obtain ⟨t, e⟩ := r.int'
            obtain ⟨u, e'⟩ := r'.int'
            exact .inr ⟨i, t, j, u, rfl, by rw [e, e']⟩
          | _ => exact absurd rfl hb
        | _ => exact absurd rfl hb
      | cons => exact absurd rfl hb

theorem SimI.range {Bt : Blk} {es : List Expr} {target : Expr} {ds : DL} {bd : Bd} {tw : Env → List Addr} {p pos : Pos} (hb : Bind Bt target bd tw) (hx : B.sc.names.lookup (Str.ofString "range") = some .globalImplicit) (hp : plainArgs es = true) (h : SimL P B es ds) :
    SimI P B Bt (.Call (.Name (Str.ofString "range") p) es [] pos) target bd tw (iRange ds) := fun n A env β ρ μ s E Q X hbad ok ex => by
  refine Call_Name rfl (X.blt hx (by decide) (by decide) (v := .type "range") (by decide) ?_)
  refine callWith_plain (fun _ q => by cases q) (plain_trees hp) (useL h X hbad (fun vs μ₁ β₁ xs s₁ e₁ p₁ r₁ hb₁ X₁ => ?_) fun u s₁ q => ex u s₁ q)
  have fin : ∀ (a b : Int) (t u v : Tok) (tk : Nat), rangeOf μ₁ a b ≠ .bad → iRange ds (P.cx n) ρ μ = rangeOf μ₁ a b →
      wpAny P.M A (pyIter (.ref s₁.heap.objs.size)) Q E { s₁ with heap := s₁.heap.push { cls := .type "range", data := .fields #[.int a t, .int b u, .int 1 v] }, toks := tk } := fun a b t u v tk hr he => by
    have hcnd : (tiny a && tiny b) = true := by
      by_cases q : (tiny a && tiny b) = true
      · exact q
      · simp only [rangeOf, q] at hr; exact absurd rfl hr
    simp only [rangeOf, hcnd, if_true] at he
    rw [Bool.and_eq_true] at hcnd
    obtain ⟨hsz, hsm⟩ := size_tiny hcnd.1 hcnd.2
    have p₂ : Post P.toPl β₁ β₁ μ₁ s₁ { s₁ with heap := s₁.heap.push { cls := .type "range", data := .fields #[.int a t, .int b u, .int 1 v] }, toks := tk } := Post.other X₁.inv tk fun a o e => Heap.get?_push_of_some _ e
    refine wpAny_pyIter_range (IsRange.new s₁.heap a b 1 t u v) hsm ?_
    have p₃ : Post P.toPl β₁ β₁ μ₁ { s₁ with heap := s₁.heap.push { cls := .type "range", data := .fields #[.int a t, .int b u, .int 1 v] }, toks := tk } { s₁ with heap := (s₁.heap.push { cls := .type "range", data := .fields #[.int a t, .int b u, .int 1 v] }).push { cls := .type "range_iterator", data := .fields #[rawInt a, rawInt (Builtin.Range.rangeSize a b 1), rawInt 1] }, toks := tk } := Post.other p₂.inv tk fun a o e => Heap.get?_push_of_some _ e
    have hfr : s₁.heap.get? (s₁.heap.push { cls := .type "range", data := .fields #[.int a t, .int b u, .int 1 v] }).objs.size = none := p₂.back (get_size _)
    refine ok ⟨rangeL a b 1, fun _ => true⟩ μ₁ β₁ _ _ [_] _ he (p₁.trans (p₂.trans p₃)) (hb.make (Raw.range X.room.2.2 (Builtin.Range.rangeSize a b 1).toNat rfl)) ⟨Nat.zero_le _, ?_⟩ fun d hd => ?_
    · have := Heap.get?_push_size (s₁.heap.push { cls := .type "range", data := .fields #[.int a t, .int b u, .int 1 v] }) (o := { cls := .type "range_iterator", data := .fields #[rawInt a, rawInt (Builtin.Range.rangeSize a b 1), rawInt 1] }) rfl
      have e1 : a + ((0 : Nat) : Int) * 1 = a := by simp
      have e2 : (((Builtin.Range.rangeSize a b 1).toNat : Int) - ((0 : Nat) : Int)) = Builtin.Range.rangeSize a b 1 := by omega
      show IsRangeIter _ _ _ _ _
      rw [e1, e2]; exact this
    · obtain rfl := List.mem_singleton.mp hd
      refine ⟨p₁.back hfr, fun q => ?_⟩
      obtain ⟨ob, e, _⟩ := X₁.inv.there q
      rw [hfr] at e; cases e
  have e0 : iRange ds (P.cx n) ρ μ = rangeArgs μ₁ vs := by simp only [iRange, e₁]; rfl
  have hb₂ : rangeArgs μ₁ vs ≠ .bad := e0 ▸ hbad
  rcases range_args r₁ hb₂ with ⟨i, t, hv, hx⟩ | ⟨i, t, j, u, hv, hx⟩
  · rw [hv] at hb₂ e0
    rw [hx]
    exact call_range_1 (fin 0 i _ t _ _ hb₂ e0)
  · rw [hv] at hb₂ e0
    rw [hx]
    exact call_range_2 (fin i j t u _ _ hb₂ e0)

theorem SimI.seq {Bt : Blk} {e target : Expr} {d : DE} {bd : Bd} {tw : Env → List Addr} (hb : Bind Bt target bd tw) (h : SimE P B e d) : SimI P B Bt e target bd tw (iSeq d) := fun n A env β ρ μ s E Q X hbad ok ex => by
  refine useE h X hbad (fun v μ₁ β₁ x s₁ e₁ p₁ r₁ hb₁ X₁ => ?_) fun u s₁ q => ex u s₁ q
  have size_ne : ∀ {a : Addr} {o : Obj}, s₁.heap.get? a = some o → s₁.heap.objs.size ≠ a := fun e q => absurd (Heap.lt_size e) (by rw [← q]; exact Nat.lt_irrefl _)
  have nb : s₁.heap.objs.size ∉ β₁ := fun q => by
    obtain ⟨ob, e, _⟩ := X₁.inv.there q
    exact absurd (Heap.lt_size e) (Nat.lt_irrefl _)
  cases r₁ with
  | @tup l vs n xs g1 g2 g3 =>
    refine wpAny_pyIter_tuple ⟨_, g1, rfl, n, rfl⟩ ?_
    have p₂ : Post P.toPl β₁ β₁ μ₁ s₁ { s₁ with heap := s₁.heap.push { cls := .type "tuple_iterator", data := .fields #[.ref l, .int 0 0] }, toks := s₁.toks } := Post.other X₁.inv s₁.toks fun a o e => Heap.get?_push_of_some _ e
    refine ok ⟨xs, fun _ => true⟩ μ₁ β₁ _ s₁.heap.objs.size [s₁.heap.objs.size] _ (by simp only [iSeq, e₁]; rfl) (p₁.trans p₂) (hb.make (Raw.tuple X.room.2.2 (I := s₁.heap.objs.size) (l := l) (xs := xs)))
      ⟨⟨_, Heap.get?_push_size _ rfl, rfl, rfl⟩, vs, n, Heap.get?_push_of_some _ g1, g2.post X₁.inv p₂⟩ fun a ha => ?_
    obtain rfl : a = s₁.heap.objs.size := by simpa using ha
    exact ⟨p₁.back (get_size _), nb⟩
  | @ref i l e =>
    cases hm : μ₁[i]? with
    | none => simp only [hm] at hb₁; exact absurd rfl hb₁
    | some o =>
      have ro := X₁.inv.obj i _ l hm e
      simp only [hm] at hb₁
      cases ro with
      | @list _ vs n xs a1 a2 a3 =>
        refine wpAny_pyIter_list ⟨_, a1, rfl, n, rfl⟩ ?_
        have p₂ : Post P.toPl β₁ β₁ μ₁ s₁ { s₁ with heap := s₁.heap.push { cls := .type "list_iterator", data := .fields #[.ref l, .int 0 0] }, toks := s₁.toks } := Post.other X₁.inv s₁.toks fun a o e => Heap.get?_push_of_some _ e
        refine ok ⟨xs, fun μ => decide (μ[i]? = some (.list xs))⟩ μ₁ β₁ _ s₁.heap.objs.size [s₁.heap.objs.size] _ (by simp only [iSeq, e₁, R.bind, hm]) (p₁.trans p₂) (hb.make (Raw.list X.room.2.2 (I := s₁.heap.objs.size) (l := l) (a := i) (xs := xs) (size_ne a1)))
          ⟨⟨_, Heap.get?_push_size _ rfl, rfl, rfl⟩, e⟩ fun a ha => ?_
        obtain rfl : a = s₁.heap.objs.size := by simpa using ha
        exact ⟨p₁.back (get_size _), nb⟩
      | inst => exact absurd rfl hb₁
      | ns => exact absurd rfl hb₁
      | dic => exact absurd rfl hb₁
  | _ => exact absurd rfl hb₁
end
end
end Mine
end
section
set_option autoImplicit false
set_option tactic.hygienic false
set_option backward.eqns.nonrecursive false
namespace Mine
noncomputable section
open PySem PyProof.Rows PySem.SeqAt

noncomputable def clOf (env : Env) : List (Str × NameKind) → List (Str × Addr) → List (Str × Addr)
  | [], acc => acc
  | (n, k) :: r, acc => clOf env r (if k == .free then (n, (env.cells.lookup n).getD 0) :: acc else acc)
theorem clOf_eq (env : Env) (f : Str × NameKind → List (Str × Addr) → Sem (ForInStep (List (Str × Addr)))) (h1 : ∀ n cs c, env.cells.lookup n = some c → f (n, .free) cs = pure (.yield ((n, c) :: cs))) (h2 : ∀ n k cs, (k == NameKind.free) = false → f (n, k) cs = pure (.yield cs)) :
    ∀ (names : List (Str × NameKind)) (acc : List (Str × Addr)), (∀ x, (x, NameKind.free) ∈ names → ∃ c, env.cells.lookup x = some c) → forIn names acc f = pure (clOf env names acc)
  | [], acc, _ => rfl
  | (n, k) :: r, acc, h => by
    rw [List.forIn_cons]
    cases hk : (k == NameKind.free) with
    | true =>
      have hk' : k = .free := by simpa using hk
      subst hk'
      obtain ⟨c, hc⟩ := h n List.mem_cons_self
      rw [h1 n acc c hc]
      show (forIn r ((n, c) :: acc) f : Sem _) = _
      rw [clOf_eq env f h1 h2 r _ fun x hx => h x (List.mem_cons_of_mem _ hx)]
      simp only [clOf, hk, if_true, hc]; rfl
    | false =>
      rw [h2 n k acc hk]
      show (forIn r acc f : Sem _) = _
      rw [clOf_eq env f h1 h2 r _ fun x hx => h x (List.mem_cons_of_mem _ hx)]
      simp only [clOf, hk]; rfl
theorem closure_of {scope : Scope} {env : Env} (h : ∀ x, (x, NameKind.free) ∈ scope.names → ∃ c, env.cells.lookup x = some c) : closureFor scope env = pure (clOf env scope.names []) := by
  simp only [closureFor]
  rw [clOf_eq env _ ?_ ?_ scope.names [] h]
  · rfl
  · intro n cs c hc
    simp only [cellOf, hc]; rfl
  · intro n k cs hk
    simp only [hk]; rfl
set_option tactic.hygienic true in
theorem clOf_mem {env : Env} : ∀ (names : List (Str × NameKind)) (acc : List (Str × Addr)), (∀ x, (x, NameKind.free) ∈ names → ∃ c, env.cells.lookup x = some c) → (∀ p ∈ acc, env.cells.lookup p.1 = some p.2) → ∀ p ∈ clOf env names acc, env.cells.lookup p.1 = some p.2
  | [], _, _, ha, p, hp => ha p hp
  | (n, k) :: r, acc, h, ha, p, hp => by
    refine clOf_mem r _ (fun x hx => h x (List.mem_cons_of_mem _ hx)) (fun q hq => ?_) p hp
    split at hq
    · rename_i hk
      have hk' : k = .free := by simpa using hk
      subst hk'
      rcases List.mem_cons.mp hq with rfl | hq
      · obtain ⟨c, hc⟩ := h n List.mem_cons_self
        rw [hc]; rfl
      · exact ha q hq
    · exact ha q hq
theorem clOf_keeps {env : Env} {x : Str} : ∀ (names : List (Str × NameKind)) (acc : List (Str × Addr)), (acc.lookup x).isSome = true ∨ (x, NameKind.free) ∈ names → ((clOf env names acc).lookup x).isSome = true
  | [], _, h => h.elim id fun q => by cases q
  | (n, k) :: r, acc, h => by
    refine clOf_keeps r _ ?_
    rcases h with h | h
    · refine .inl ?_
      split
      · rw [List.lookup_cons]; split
        · rfl
        · exact h
      · exact h
    · rcases List.mem_cons.mp h with q | q
      · cases q
        refine .inl ?_
        rw [if_pos (by decide), List.lookup_cons]; simp
      · exact .inr q
set_option tactic.hygienic true in
theorem lookup_mem_pair {l : List (Str × Addr)} {x : Str} {c : Addr} (h : l.lookup x = some c) : (x, c) ∈ l := by
  induction l with
  | nil => cases h
  | cons p r ih =>
    obtain ⟨y, d⟩ := p
    rw [List.lookup_cons] at h
    split at h
    · rename_i hy
      cases h
      rw [beq_iff_eq.mp hy]; exact List.mem_cons_self
    · exact List.mem_cons_of_mem _ (ih h)

noncomputable def relabelS (scope outer : Scope) : Scope :=
  { scope with names := scope.names.map fun (n, k) => if (k == .free && outer.kind == .function && outer.names.lookup n == some .cell) then (n, .cell) else (n, k) }
noncomputable def ncl (xc : Option Str) (c : Addr) : List (Str × Addr) := match xc with
  | none => []
  | some y => [(y, c)]
theorem ncl_look {xc : Option Str} {c d : Addr} {r : List (Str × Addr)} {y : Str} (h : (ncl xc c ++ r).lookup y = some d) : (xc = some y ∧ d = c) ∨ r.lookup y = some d := by
  cases xc with
  | none => exact .inr h
  | some z =>
    rw [show ncl (some z) c ++ r = (z, c) :: r from rfl, List.lookup_cons] at h
    cases q : y == z with
    | true => rw [q] at h; cases h; exact .inl ⟨by rw [beq_iff_eq.mp q], rfl⟩
    | false => rw [q] at h; exact .inr h
theorem ncl_own {y : Str} {c : Addr} {r : List (Str × Addr)} : (ncl (some y) c ++ r).lookup y = some c := by
  rw [show ncl (some y) c ++ r = (y, c) :: r from rfl, List.lookup_cons, beq_self_eq_true]
theorem ncl_other {xc : Option Str} {c : Addr} {r : List (Str × Addr)} {y : Str} (h : xc ≠ some y) : (ncl xc c ++ r).lookup y = r.lookup y := by
  cases xc with
  | none => rfl
  | some z =>
    rw [show ncl (some z) c ++ r = (z, c) :: r from rfl, List.lookup_cons]
    cases q : y == z with
    | true => exact absurd (congrArg some (beq_iff_eq.mp q).symm) h
    | false => rfl
theorem ncl_mem {xc : Option Str} {c : Addr} {q : Str × Addr} (h : q ∈ ncl xc c) : ∃ y, xc = some y ∧ q = (y, c) := by
  cases xc with
  | none => cases h
  | some z => exact ⟨z, rfl, List.mem_singleton.mp h⟩
structure CompOk (B Bc : Blk) (scope : Scope) (locs : List Nat) (xc : Option Str) : Prop where
  kind : scope.kind = .function
  names : ∀ x ∈ scope.names, x.2 = .local → scope.names.lookup x.1 = some .local
  cells : (∀ n acc, cellsFrom n scope.names acc = ncl xc n ++ acc) ∧ ∀ h : Heap, (∀ a o, h.get? a = some o → (pushCells h scope.names).get? a = some o) ∧ ∀ y, xc = some y → (pushCells h scope.names).IsCell h.objs.size none
  ok : Bc.ok = true
  sc : Bc.sc = relabelS scope B.sc
  free : ∀ x, (x, NameKind.free) ∈ scope.names → xc ≠ some x ∧ ∃ (i : Nat) (k : NameKind), B.tab[i]? = some (some (x, k)) ∧ (k = .cell ∨ k = .free)
  tab : ∀ (i : Nat) (x : Str) (k : NameKind), Bc.tab[i]? = some (some (x, k)) → k = .cell ∨ k = .free → (xc = some x ∧ i ∈ locs) ∨ ((x, NameKind.free) ∈ scope.names ∧ ∃ k' : NameKind, B.tab[i]? = some (some (x, k')) ∧ (k' = .cell ∨ k' = .free))
  locs : ∀ (i : Nat) (x : Str), Bc.tab[i]? = some (some (x, .local)) → i ∈ locs

section
variable {P : Pg} {B : Blk} {A : Around}

theorem CompOk.out {Bc : Blk} {scope : Scope} {locs : List Nat} {xc : Option Str} (K : CompOk B Bc scope locs xc) {env : Env} {β : Bk} {ρ : Fr} {h : Heap} (x : EnvOk P B A env β ρ h) (y : Str) (hy : (y, NameKind.free) ∈ scope.names) : ∃ c, env.cells.lookup y = some c := by
  obtain ⟨_, i, k, h1, h2⟩ := K.free y hy
  obtain ⟨c, _, h3, _⟩ := x.cell i y k h1 h2
  exact ⟨c, h3⟩
theorem compEnv_ok {Bc : Blk} {scope : Scope} {locs : List Nat} {xc : Option Str} (K : CompOk B Bc scope locs xc) {env : Env} {β : Bk} {ρ : Fr} {h h' : Heap} {C c : Addr} (x : EnvOk P B A env β ρ h) (hl : locs.all (fun i => (ρ i).isNone) = true)
    (hn : h'.Ns C fun _ => none) (hc : ∀ y, xc = some y → h'.IsCell c none) (hC : h.get? C = none) (hcn : h.get? c = none) (nb : ∀ {a}, h.get? a = none → a ∉ β) (n0 : ∀ {a}, h.get? a = none → P.h₀.get? a = none) (hk : ∀ a o, h.get? a = some o → h'.get? a = some o) (rel : ∀ {v : V} {u : Value}, Rel P.toPl β h v u → Rel P.toPl β h' v u) :
    EnvOk P Bc A (compEnvC scope (ncl xc c ++ clOf env scope.names []) C env) β ρ h' := by
  have hfree := K.out x
  have cl : ∀ y c, (clOf env scope.names []).lookup y = some c → env.cells.lookup y = some c := fun y c hy => clOf_mem scope.names [] hfree (by simp) (y, c) (lookup_mem_pair hy)
  have old : ∀ y, env.cells.lookup y = some c → False := fun y hy => x.live c (List.mem_cons_of_mem _ (lookup_mem_snd hy)) hcn
  refine { ok := K.ok, sc := ?_, glob := x.glob, blt := x.blt, ns := ?_, loc := ⟨nb hC, n0 hC⟩, cell := ?_, apart := ?_, fr := ?_, own := ?_ }
  · rw [K.sc]
    show relabel scope env = _
    unfold relabel relabelS Env.kindOf
    rw [x.sc]
  · refine ⟨_, hn, fun i y v ht hv => ?_⟩
    have := List.all_eq_true.mp hl i (K.locs i y ht)
    rw [hv] at this; cases this
  · intro i y k ht hk'
    rcases K.tab i y k ht hk' with ⟨q, hi⟩ | ⟨hm, k', h1, h2⟩
    · refine ⟨c, none, q ▸ ncl_own, nb hcn, n0 hcn, hc y q, fun v hv => ?_⟩
      have := List.all_eq_true.mp hl i hi
      rw [hv] at this; cases this
    · obtain ⟨d, u, c1, c2, c3, ⟨o, e, dd⟩, c5⟩ := x.cell i y k' h1 h2
      obtain ⟨c', hc'⟩ := Option.isSome_iff_exists.mp (clOf_keeps (env := env) scope.names [] (.inr hm))
      obtain rfl : c' = d := Option.some.inj ((cl y c' hc').symm.trans c1)
      exact ⟨c', u, (ncl_other (K.free y hm).1).trans hc', c2, c3, ⟨o, hk _ _ e, dd⟩, fun v hv => let ⟨z, z1, z2⟩ := c5 v hv; ⟨z, z1, rel z2⟩⟩
  · intro y z d hy hz
    rcases ncl_look hy with ⟨q, rfl⟩ | hy'
    · rcases ncl_look hz with ⟨q', _⟩ | hz'
      · exact Option.some.inj (q.symm.trans q')
      · exact (old z (cl z _ hz')).elim
    · rcases ncl_look hz with ⟨_, rfl⟩ | hz'
      · exact (old y (cl y _ hy')).elim
      · exact x.apart y z d (cl y d hy') (cl z d hz')
  · obtain ⟨fe, outer, f1, f2, f3⟩ := x.fr
    refine ⟨fe, outer, f1, f2, fun e he => ?_⟩
    obtain ⟨k, L, o, g1, g2, g3, g4, es, m, r⟩ := f3 e he
    exact ⟨k, L, o, g1, g2, g3, hk _ _ g4, es, m, r⟩
  · intro a ha
    rcases List.mem_cons.mp ha with rfl | ha
    · obtain ⟨o, es, n, e, d, _⟩ := hn
      exact ⟨nb hC, n0 hC, o, e, .inl ⟨es, n, d⟩⟩
    · obtain ⟨q, hq, rfl⟩ := List.mem_map.mp ha
      rcases List.mem_append.mp hq with hq | hq
      · obtain ⟨y, hy, rfl⟩ := ncl_mem hq
        obtain ⟨o, e, d⟩ := hc y hy
        exact ⟨nb hcn, n0 hcn, o, e, .inr ⟨_, d⟩⟩
      · have := clOf_mem scope.names [] hfree (by simp) q hq
        obtain ⟨h1, h2, o, h3, h4⟩ := x.own q.2 (List.mem_cons_of_mem _ (lookup_mem_snd this))
        exact ⟨h1, h2, o, hk _ _ h3, h4⟩

theorem append_exact {prog : Program} {w : World} {A : Around} {E : Value → Shared → Prop} {s : Shared} {l : Addr} {items : Array Value} {n : Nat} {x : Value} {Q : Value → Shared → Prop} (hl : IsL s.heap l items n)
    (h : Q .none { s with heap := s.heap.update l (Obj.mapSeq fun a => a.push x) }) (hsz : items.size ≤ sizeLine) : wpAny (model prog w) A (call (.builtin "list.append") [.ref l, x]) Q E s := by
  refine wpAny_call_entry slot_list_append ⟨_, hl, rfl⟩ entry_list_append ?_ (args_list_append _ _)
  show wpAny _ _ (updateSeq l (·.push x) >>= fun _ => ret .none) _ _ s
  refine wpAny_bind ?_
  exact wpAny_updateSeq hl rfl (wpAny_pure ⟨.none, rfl, h⟩)

noncomputable def SimIfs (P : Pg) (B : Blk) (ifs : List Expr) (d : DT) : Prop :=
  ∀ n A env β ρ μ s (Q : Bool → Shared → Prop) (E : Value → Shared → Prop), At P B n A env β ρ μ s → (∀ t μ' β' s', d (P.cx n) ρ μ = .ok t μ' → Post P.toPl β β' μ' s s' → Q t s') → (∃ t μ', d (P.cx n) ρ μ = .ok t μ') →
    wpAny P.M A (forIn ifs true fun c r => if r = true then do let ok ← isTrue c env (eval c env); pure (ForInStep.yield ok) else pure (ForInStep.yield r)) Q E s
theorem SimIfs.nil : SimIfs P B [] tTrue := fun n A env β ρ μ s Q E X h _ => wpAny_tests_nil (h true μ β s rfl (.refl X.inv))
theorem SimIfs.one {e : Expr} {d : DT} (h : SimT P B e d) : SimIfs P B [e] d := fun n A env β ρ μ s Q E X hq ⟨t, μ', ht⟩ => by
  refine wpAny_tests_one (wpAny_mono (h n A env β ρ μ s X (by rw [ht]; exact fun q => by cases q)) (fun b s' q => ?_) fun x s' q => ?_)
  · obtain ⟨μ₁, β₁, e1, p⟩ := q
    exact hq b μ₁ β₁ s' e1 p
  · obtain ⟨c, μ₁, β₁, e1, _⟩ := q
    rw [ht] at e1; cases e1

structure Acc (P : Pg) (D : Addr) (vol : List Addr) (env : Env) (β : Bk) (xs : List V) (h : Heap) : Prop where
  out : D ∉ β ∧ D ∉ vol ∧ D ∉ own env ∧ P.h₀.get? D = none
  obj : ∃ ys n, IsL h D ys n ∧ RelL P.toPl β h xs ys.toList
  len : xs.length ≤ lim

theorem Acc.mono {D : Addr} {vol W : List Addr} {env : Env} {β β' : Bk} {μ μ' : Mem} {xs : List V} {s s' : Shared} (a : Acc P D vol env β xs s.heap) (I : Inv P.toPl β μ s.heap) (hW : OwnOk W s.heap) (p : PostS P.toPl W β β' μ' s s') (hD : D ∉ W) : Acc P D vol env β' xs s'.heap := by
  obtain ⟨⟨o1, o2, o3, o4⟩, ⟨ys, n, h1, h2⟩, h3⟩ := a
  obtain ⟨o₂, e₂, hs⟩ := p.keep D _ h1 o1 hD
  rw [hs.eq (by simp)] at e₂
  exact ⟨⟨p.notIn o1 h1, o2, o3, o4⟩, ⟨ys, n, e₂, h2.monoS I hW p⟩, h3⟩

theorem postD {D : Addr} {env : Env} {β : Bk} {μ : Mem} {ρ : Fr} {s : Shared} {h' : Heap} {ys : Array Value} {n : Nat} (I : Inv P.toPl β μ s.heap) (x : EnvOk P B A env β ρ s.heap) (hD : IsL s.heap D ys n) (hb : D ∉ β) (h0 : P.h₀.get? D = none) (hs : Heap.SameBut D s.heap h') :
    PostS P.toPl [D] β β μ s { s with heap := h' } ∧ EnvOk P B A env β ρ h' ∧ ∀ {v : List V} {u : List Value}, RelL P.toPl β s.heap v u → RelL P.toPl β h' v u := by
  have nt : ∀ a o, s.heap.get? a = some o → (o.cls ≠ .type "list" ∨ ∀ vs n, o.data ≠ .seq vs n) → a ≠ D := fun a o e h q => by
    rw [q, hD] at e; cases e
    rcases h with h | h
    · exact h rfl
    · exact h _ _ rfl
  have kr : ∀ {v : V} {u : Value}, Rel P.toPl β s.heap v u → Rel P.toPl β h' v u := fun r => Rel.keepF (fun a o e hd => (hs.2 a (nt a o e (hd.imp (fun h => by rw [h]; simp) fun ⟨vs, h⟩ _ _ => by rw [h]; simp))).trans e) r
  have krs : ∀ {v : List V} {u : List Value}, RelL P.toPl β s.heap v u → RelL P.toPl β h' v u := fun r => RelL.keepF (fun a o e hd => (hs.2 a (nt a o e (hd.imp (fun h => by rw [h]; simp) fun ⟨vs, h⟩ _ _ => by rw [h]; simp))).trans e) r
  have kb : ∀ a ∈ β, h'.get? a = s.heap.get? a := fun a ha => hs.2 a fun q => hb (q ▸ ha)
  have keepD : ∀ a o, s.heap.get? a = some o → (∀ vs n, o.data ≠ .seq vs n) → h'.get? a = some o := fun a o e hd => (hs.2 a (nt a o e (.inr hd))).trans e
  refine ⟨⟨⟨h', s.toks, rfl⟩, ⟨I.len, I.nd, fun i o a e1 e2 => ?_, fun a o e => ?_, I.new⟩, List.prefix_refl _, fun a o e _ w => ⟨o, (hs.2 a fun q => w (by rw [q]; exact List.mem_singleton.mpr rfl)).trans e, .refl _⟩, fun _ q n => absurd q n⟩, ?_, krs⟩
  · have ha := kb a (List.mem_of_getElem? e2)
    have r := I.obj i o a e1 e2
    cases r with
    | list e r l => exact .list (ha.trans e) (krs r) l
    | inst e q d => exact .inst (ha.trans e) q d
    | dic e => exact .dic (ha.trans e)
    | ns n f => exact .ns (n.at fun o e => ha.trans e) (f.map fun _ _ r => kr r)
  · exact (hs.2 a fun q => by rw [q, h0] at e; cases e).trans (I.base a o e)
  · exact { x with
      ns := by
        obtain ⟨m, ⟨o, es, n', e, d, r⟩, hm⟩ := x.ns
        exact ⟨m, ⟨o, es, n', keepD _ o e (by rw [d]; simp), d, r⟩, fun i y v ht hv => let ⟨u, h1, h2⟩ := hm i y v ht hv; ⟨u, h1, kr h2⟩⟩
      cell := fun i y k ht hk => by
        obtain ⟨c, u, h1, h2, h3, ⟨o, e, d⟩, h5⟩ := x.cell i y k ht hk
        exact ⟨c, u, h1, h2, h3, ⟨o, keepD _ o e (by rw [d]; simp), d⟩, fun v hv => let ⟨z, e1, e2⟩ := h5 v hv; ⟨z, e1, kr e2⟩⟩
      fr := by
        obtain ⟨fe, outer, h1, h2, h3⟩ := x.fr
        refine ⟨fe, outer, h1, h2, fun e he => ?_⟩
        obtain ⟨k, L, o, g1, g2, g3, g4, es, n', g5⟩ := h3 e he
        exact ⟨k, L, o, g1, g2, g3, keepD _ o g4 (by rw [g5]; simp), es, n', g5⟩
      own := fun a ha => by
        obtain ⟨h1, h2, o, h3, h4⟩ := x.own a ha
        exact ⟨h1, h2, o, keepD _ o h3 (by rcases h4 with ⟨_, _, h⟩ | ⟨_, h⟩ <;> rw [h] <;> simp), h4⟩ }

theorem EnvOk.less {env : Env} {β : Bk} {ρ ρ' : Fr} {h : Heap} (x : EnvOk P B A env β ρ' h) (hs : ∀ i w, ρ i = some w → ρ' i = some w) : EnvOk P B A env β ρ h :=
  { x with
    ns := let ⟨m, a, b⟩ := x.ns; ⟨m, a, fun i y v ht hv => b i y v ht (hs i v hv)⟩
    cell := fun i y k ht hk => let ⟨c, u, h1, h2, h3, h4, h5⟩ := x.cell i y k ht hk; ⟨c, u, h1, h2, h3, h4, fun v hv => h5 v (hs i v hv)⟩ }

theorem compTurns {Bc : Blk} {target iter elt : Expr} {ifs : List Expr} {bd : Bd} {tw : Env → List Addr} {I D : Addr} {items : List V} {chk : Mem → Bool} {vol : List Addr} {St : Nat → Bk → Heap → Prop} {dc : DT} {de : DE} {cenv : Env} {n : Nat} {ρ : Fr} {scope : Scope} {pos : Pos}
    (T : Turns P A Bc target bd tw I items chk vol St) (W : List Addr) (htw : ∀ a ∈ tw cenv, a ∈ W) (hWo : ∀ a ∈ W, a ∈ own cenv) (hc : SimIfs P Bc ifs dc) (hel : SimE P Bc elt de) (hρ : ∀ v ρ', bd v ρ = some ρ' → ∀ i w, ρ i = some w → ρ' i = some w) :
    ∀ (rest : List V) (i : Nat) (β : Bk) (μ : Mem) (s : Shared) (acc : List V) (R : Result → Shared → Prop), i ≤ items.length → items.drop i = rest → At P Bc n A cenv β ρ μ s → (∀ a ∈ vol, a ∉ own cenv ∧ a ∉ β ∧ P.h₀.get? a = none) → St i β s.heap → Acc P D vol cenv β acc s.heap →
      compS chk bd dc de (P.cx n) ρ rest μ acc ≠ .bad →
      (∀ s' xs μ' β', compS chk bd dc de (P.cx n) ρ rest μ acc = .ok xs μ' → PostS P.toPl ([D] ++ (vol ++ W)) β β' μ' s s' → Acc P D vol cenv β' xs s'.heap → (∃ m, s'.heap.Ns cenv.locals m) → R (.ok .next) s') →
      codeAny P.M A (.compLoop (.ListComp elt [⟨target, iter, ifs, 0⟩] scope pos) 0 (.ref I) (.ref D) cenv) R s := by
  intro rest
  induction rest with
  | nil =>
    intro i β μ s acc R hle hd X hv st ac hb hok
    have hchk : chk μ = true := by
      by_cases q : chk μ = true
      · exact q
      · simp only [compS, q] at hb; exact absurd rfl hb
    obtain rfl : i = items.length := Nat.le_antisymm hle (List.drop_eq_nil_iff.mp hd)
    refine codeAny_of_tree ?_
    show wpAny P.M A ((compTurn (.ListComp elt [⟨target, iter, ifs, 0⟩] scope pos) 0 (.ref I) (.ref D) cenv).onRaise (fun x => do noteFrame x cenv; theTreesLotGoes x)) _ _ s
    refine wpAny_noted ?_
    rw [compTurn_list]
    refine wpAny_bind (wpAny_standAt (wpAny_bind (wpAny_mono (T.done n cenv β ρ μ s (fun s' => R (.ok .next) s') (notedBy P.M A cenv fun e s' => R (.error e) s') hchk X hv st fun s' p he => ?_) (fun r s₁ h₁ => ?_) fun _ _ h' => h')))
    · replace p : PostS P.toPl (vol ++ W) β β μ s s' := p.weaken (fun a ha => (List.mem_append.mp ha).elim (List.mem_append_left _) fun h => List.mem_append_right _ (htw a h)) fun a ha hn => absurd ha hn
      have hW : OwnOk (vol ++ W) s.heap := fun a ha o e => by
        rcases List.mem_append.mp ha with h | h
        · obtain ⟨o', e', r⟩ := T.here _ _ _ st a h
          rw [e] at e'; cases e'; exact .inr (.inr (.inl r))
        · exact X.env.ownOk a (hWo a h) o e
      have hD : D ∉ vol ++ W := fun h => by
        rcases List.mem_append.mp h with h | h
        · exact ac.out.2.1 h
        · exact ac.out.2.2.1 (hWo _ h)
      obtain ⟨m, hn, _⟩ := he.ns
      exact hok s' acc μ β (by simp only [compS, hchk, if_true]) (p.weaken (fun a h => List.mem_append_right _ h) fun a ha hn => absurd ha hn) (ac.mono X.inv hW p hD) ⟨m, hn⟩
    · cases r with
      | none => exact wpAny_pure h₁
      | some u => exact h₁.elim
  | cons v rest ih =>
    intro i β μ s acc R hle hd X hv st ac hb hok
    have hchk : chk μ = true := by
      by_cases q : chk μ = true
      · exact q
      · simp only [compS, q] at hb; exact absurd rfl hb
    have hiv : items[i]? = some v := by
      have := congrArg List.head? hd
      rw [List.head?_drop] at this; simpa using this
    have hi : i < items.length := (List.getElem?_eq_some_iff.mp hiv).1
    have hd' : items.drop (i + 1) = rest := by
      have := congrArg List.tail hd
      rw [List.tail_drop] at this; simpa using this
    cases hρ' : bd v ρ with
    | none => simp only [compS, hchk, if_true, hρ'] at hb; exact absurd rfl hb
    | some ρ' =>
      have e1 : compS chk bd dc de (P.cx n) ρ (v :: rest) μ acc = ((dc (P.cx n) ρ' μ).quiet fun t μ => if t then (de (P.cx n) ρ' μ).quiet fun x μ => if acc.length < lim then compS chk bd dc de (P.cx n) ρ rest μ (acc ++ [x]) else .bad
          else compS chk bd dc de (P.cx n) ρ rest μ acc) := by rw [compS, if_pos hchk, hρ']
      rw [e1] at hb hok
      have memC : ∀ a, a ∈ vol ++ W → a ∈ [D] ++ (vol ++ W) := fun a h => List.mem_append_right _ h
      refine codeAny_of_tree ?_
      show wpAny P.M A ((compTurn (.ListComp elt [⟨target, iter, ifs, 0⟩] scope pos) 0 (.ref I) (.ref D) cenv).onRaise (fun x => do noteFrame x cenv; theTreesLotGoes x)) _ _ s
      refine wpAny_noted ?_
      rw [compTurn_list]
      refine wpAny_bind (wpAny_standAt (wpAny_bind (wpAny_mono (T.item i v n cenv β ρ ρ' μ s (fun s₃ => wpAny P.M A (forIn ifs true fun c r => if r = true then do let ok ← isTrue c cenv (eval c cenv); pure (ForInStep.yield ok) else pure (ForInStep.yield r)) (fun ok s₄ =>
            if ok = true then wpAny P.M A (eval elt cenv) (fun x s₅ => wpAny P.M A (call (.builtin "list.append") [.ref D, x]) (fun _ s₆ => codeAny P.M A (.compLoop (.ListComp elt [⟨target, iter, ifs, 0⟩] scope pos) 0 (.ref I) (.ref D) cenv) R s₆) (notedBy P.M A cenv fun e s' => R (.error e) s') s₅) (notedBy P.M A cenv fun e s' => R (.error e) s') s₄
            else codeAny P.M A (.compLoop (.ListComp elt [⟨target, iter, ifs, 0⟩] scope pos) 0 (.ref I) (.ref D) cenv) R s₄) (notedBy P.M A cenv fun e s' => R (.error e) s') s₃)
          (notedBy P.M A cenv fun e s' => R (.error e) s') hiv hchk X hv st hρ' fun s₃ p₃ he₃ st₃ => ?_) (fun r s₁ h₁ => ?_) fun _ _ h' => h')))
      · replace p₃ : PostS P.toPl (vol ++ W) β β μ s s₃ := p₃.weaken (fun a ha => (List.mem_append.mp ha).elim (List.mem_append_left _) fun h => List.mem_append_right _ (htw a h)) fun a ha hn => absurd ha hn
        have X₃ : At P Bc n A cenv β ρ' μ s₃ := ⟨X.good, X.call, X.room, he₃, p₃.inv⟩
        have hW : OwnOk (vol ++ W) s.heap := fun a ha o e => by
          rcases List.mem_append.mp ha with h | h
          · obtain ⟨o', e', r⟩ := T.here _ _ _ st a h
            rw [e] at e'; cases e'; exact .inr (.inr (.inl r))
          · exact X.env.ownOk a (hWo a h) o e
        have hD : D ∉ vol ++ W := fun h => by
          rcases List.mem_append.mp h with h | h
          · exact ac.out.2.1 h
          · exact ac.out.2.2.1 (hWo _ h)
        have ac₃ := ac.mono X.inv hW p₃ hD
        have live₃ : ∀ a ∈ [D] ++ (vol ++ W), s₃.heap.get? a ≠ none := fun a ha q => by
          rcases List.mem_append.mp ha with h | h
          · obtain ⟨ys, k, h1, _⟩ := ac₃.obj
            rw [List.mem_singleton.mp h, h1] at q; cases q
          · rcases List.mem_append.mp h with h | h
            · obtain ⟨o, e, _⟩ := T.here _ _ _ st₃ a h
              rw [q] at e; cases e
            · exact he₃.live a (hWo a h) q
        cases hcd : dc (P.cx n) ρ' μ with
        | bad => rw [hcd] at hb; exact absurd rfl hb
        | exc c μ₁ => rw [hcd] at hb; exact absurd rfl hb
        | ok t μ₄ =>
          rw [hcd] at hb hok
          refine hc n A cenv β ρ' μ s₃ _ _ X₃ (fun t' μ₄' β₄ s₄ e₄ p₄ => ?_) ⟨t, μ₄, hcd⟩
          rw [hcd] at e₄; cases e₄
          have X₄ := X₃.post p₄
          have ac₄ := ac₃.mono X₃.inv (W := []) (fun a ha => by cases ha) (p₄.own (fun a ha => by cases ha)) (by simp)
          have st₄ : St (i + 1) β₄ s₄.heap := T.stay _ β β₄ μ μ₄ s₃ s₄ [] st₃ X₃.inv (fun a ha => by cases ha) (p₄.own (fun a ha => by cases ha)) fun a ha => ⟨by simp, (hv a ha).2.1⟩
          have nb₄ : ∀ a ∈ vol, a ∉ β₄ := fun a ha => by
            obtain ⟨o, e, _⟩ := T.here _ _ _ st₃ a ha
            exact p₄.notIn (hv a ha).2.1 e
          have p04 : PostS P.toPl ([D] ++ (vol ++ W)) β β₄ μ₄ s s₄ := (p₃.weaken memC fun a ha hn => absurd ha hn).trans (p₄.own live₃)
          cases t with
          | false =>
            rw [if_neg (by simp)]
            simp only [Mine.R.quiet] at hb hok
            rw [if_neg (by simp)] at hb
            refine ih (i + 1) β₄ μ₄ s₄ acc R hi hd' ⟨X.good, X.call, X.room, X₄.env.less (hρ v ρ' hρ'), p₄.inv⟩ (fun a ha => ⟨(hv a ha).1, nb₄ a ha, (hv a ha).2.2⟩) st₄ ac₄ hb fun s' xs μ' β' q1 q2 q3 q4 => ?_
            exact hok s' xs μ' β' (by rw [if_neg (by simp)]; exact q1) (p04.trans q2) q3 q4
          | true =>
            rw [if_pos rfl]
            simp only [Mine.R.quiet, if_true] at hb hok
            cases hed : de (P.cx n) ρ' μ₄ with
            | bad => rw [hed] at hb; exact absurd rfl hb
            | exc c μ₁ => rw [hed] at hb; exact absurd rfl hb
            | ok x μ₅ =>
              rw [hed] at hb hok
              simp only at hb hok
              have hlen : acc.length < lim := by
                by_cases q : acc.length < lim
                · exact q
                · rw [if_neg q] at hb; exact absurd rfl hb
              rw [if_pos hlen] at hb hok
              refine wpAny_mono (hel n A cenv β₄ ρ' μ₄ s₄ X₄ (by rw [hed]; exact fun q => by cases q)) (fun u s₅ q => ?_) fun u s₅ q => ?_
              · obtain ⟨x', μ₅', β₅, e₅, p₅, r₅⟩ := q
                rw [hed] at e₅; cases e₅
                have X₅ := X₄.post p₅
                have ac₅ := ac₄.mono X₄.inv (W := []) (fun a ha => by cases ha) (p₅.own (fun a ha => by cases ha)) (by simp)
                have st₅ : St (i + 1) β₅ s₅.heap := T.stay _ β₄ β₅ μ₄ μ₅ s₄ s₅ [] st₄ X₄.inv (fun a ha => by cases ha) (p₅.own (fun a ha => by cases ha)) fun a ha => ⟨by simp, nb₄ a ha⟩
                have nb₅ : ∀ a ∈ vol, a ∉ β₅ := fun a ha => by
                  obtain ⟨o, e, _⟩ := T.here _ _ _ st₄ a ha
                  exact p₅.notIn (nb₄ a ha) e
                obtain ⟨ys, k, g1, g2⟩ := ac₅.obj
                have hys : ys.size = acc.length := by have := g2.length; simp at this; exact this.symm
                refine append_exact g1 ?_ (lim_line (by omega))
                obtain ⟨p₆, he₆, kr⟩ := postD (P := P) (B := Bc) (A := A) X₅.inv X₅.env g1 ac₅.out.1 ac₅.out.2.2.2 (Heap.SameBut.update s₅.heap D (Obj.mapSeq fun a => a.push u))
                have g1' := IsL.update g1 (fun a => a.push u)
                have ac₆ : Acc P D vol cenv β₅ (acc ++ [x]) (s₅.heap.update D (Obj.mapSeq fun a => a.push u)) := ⟨ac₅.out, ⟨_, _, g1', by
                  rw [Array.toList_push]
                  exact kr (g2.append (.cons r₅ .nil))⟩, by simp; omega⟩
                have hWD : OwnOk [D] s₅.heap := fun a ha o e => by
                  rw [List.mem_singleton.mp ha, g1] at e; cases e
                  exact .inr (.inr (.inr ⟨rfl, _, _, rfl⟩))
                have st₆ : St (i + 1) β₅ (s₅.heap.update D (Obj.mapSeq fun a => a.push u)) := T.stay _ β₅ β₅ μ₅ μ₅ s₅ _ [D] st₅ X₅.inv hWD p₆ fun a ha => ⟨fun q => ac₅.out.2.1 (List.mem_singleton.mp q ▸ ha), nb₅ a ha⟩
                refine ih (i + 1) β₅ μ₅ _ (acc ++ [x]) R hi hd' ⟨X.good, X.call, X.room, he₆.less (hρ v ρ' hρ'), p₆.inv⟩ (fun a ha => ⟨(hv a ha).1, nb₅ a ha, (hv a ha).2.2⟩) st₆ ac₆ hb fun s' xs μ' β' q1 q2 q3 q4 => ?_
                have live₄ : ∀ a ∈ [D] ++ (vol ++ W), s₄.heap.get? a ≠ none := fun a ha q => live₃ a ha (p₄.back q)
                have p05 := p04.trans (p₅.own live₄)
                exact hok s' xs μ' β' q1 ((p05.trans (p₆.weaken (fun a h => List.mem_append_left _ h) fun a ha hn => absurd ha hn)).trans q2) q3 q4
              · obtain ⟨c, μ', β', e', _⟩ := q
                rw [hed] at e'; cases e'
      · cases r with
        | none => exact h₁.elim
        | some u =>
          refine wpAny_bind (wpAny_mono h₁ (fun _ s₂ h₂ => wpAny_bind (wpAny_mono h₂ (fun _ s₃ h₃ => wpAny_bind (wpAny_mono h₃ (fun ok s₄ h₄ => ?_) fun _ _ h' => h')) fun _ _ h' => h')) fun _ _ h' => h')
          cases ok with
          | false => exact wpAny_pure ⟨rfl, h₄⟩
          | true =>
            rw [if_pos rfl] at h₄ ⊢
            exact wpAny_bind (wpAny_bind (wpAny_mono h₄ (fun x s₅ h₅ => wpAny_bind (wpAny_mono h₅ (fun _ s₆ h₆ => wpAny_pure (wpAny_pure ⟨rfl, h₆⟩)) fun _ _ h' => h')) fun _ _ h' => h'))
end
end
end Mine
end
section
set_option autoImplicit false
set_option tactic.hygienic false
set_option backward.eqns.nonrecursive false
namespace Mine
noncomputable section
open PySem PyProof.Rows PySem.SeqAt


mutual
theorem Rel.grow {P : Pl} {β β' : Bk} {h : Heap} (p : β <+: β') : ∀ {v : V} {x : Value}, Rel P β h v x → Rel P β' h v x
  | _, _, .none => .none
  | _, _, .bool b => .bool b
  | _, _, .int i t => .int i t
  | _, _, .str a b => .str a b
  | _, _, .tup e r l => .tup e (RelL.grow p r) l
  | _, _, .ref e => .ref (prefix_get p e)
  | _, _, .scr a b r => .scr a b (RelL.grow p r)
theorem RelL.grow {P : Pl} {β β' : Bk} {h : Heap} (p : β <+: β') : ∀ {v : List V} {x : List Value}, RelL P β h v x → RelL P β' h v x
  | _, _, .nil => .nil
  | _, _, .cons a b => .cons (Rel.grow p a) (RelL.grow p b)
end

theorem newEnv_cells {M : Model} {A : Around} {E : Value → Shared → Prop} {s : Shared} {scope : Scope} {g : Addr} {cl : List (Str × Addr)} {qual : Str} {env : Env} {Q : Env → Shared → Prop}
    (h : Q (newEnv scope s.heap.objs.size g (cellsFrom (s.heap.objs.size + 1) scope.names cl) qual none .none (some env) builtinsNs) { s with heap := pushCells (s.heap.push { cls := .type "dict", data := .dict #[] }) scope.names }) :
    wpAny M A (newFunctionEnv scope g cl [] qual none .none (some env)) Q E s := by
  simp only [newFunctionEnv, Option.isSome_some, if_true]
  refine wpAny_bind (wpAny_alloc ?_)
  refine wpAny_bind (wpAny_layCells _ (fun name kind cells => by cases hkc : kind == NameKind.cell <;> simp [hkc]) _ _ _ _ ?_)
  rw [show ({ s with heap := s.heap.push { cls := .type "dict", data := .dict #[] } } : Shared).heap.objs.size = s.heap.objs.size + 1 from Heap.size_push ..]
  simp only [List.forIn_nil]
  exact wpAny_bind (wpAny_pure (wpAny_pure h))

theorem Inv.adopt {P : Pl} {β : Bk} {μ : Mem} {h : Heap} {D : Addr} {o : O} (I : Inv P β μ h) (hD : D ∉ β) (h0 : P.h₀.get? D = none) (hr : ObjRel P (β ++ [D]) h o D) : Inv P (β ++ [D]) (μ ++ [o]) h := by
  refine ⟨by simp [I.len], ?_, fun i o' a h1 h2 => ?_, I.base, fun a ha => ?_⟩
  · rw [List.nodup_append]
    refine ⟨I.nd, by simp, fun a ha b hb e => ?_⟩
    rw [List.mem_singleton.mp hb] at e
    exact hD (e ▸ ha)
  · by_cases hi : i < μ.length
    · rw [List.getElem?_append_left hi] at h1
      rw [List.getElem?_append_left (by rw [I.len]; exact hi)] at h2
      have r := I.obj i o' a h1 h2
      cases r with
      | list e r l => exact .list e (r.grow (List.prefix_append _ _)) l
      | inst e q d => exact .inst e q (prefix_get (List.prefix_append _ _) d)
      | dic e => exact .dic e
      | ns n f => exact .ns n (f.map fun _ _ r => r.grow (List.prefix_append _ _))
    · have hi' : i = μ.length := by
        have := (List.getElem?_eq_some_iff.mp h1).1
        simp at this; omega
      subst hi'
      rw [List.getElem?_append_right (Nat.le_refl _)] at h1
      rw [← I.len, List.getElem?_append_right (Nat.le_refl _)] at h2
      simp at h1 h2
      rw [← h1, ← h2]; exact hr
  · rcases List.mem_append.mp ha with q | q
    · exact I.new a q
    · rw [List.mem_singleton.mp q]; exact h0
theorem Post.adopt {P : Pl} {β β' : Bk} {μ' : Mem} {s s' : Shared} {D : Addr} {xs : List V} {ys : Array Value} {k : Nat} (p : Post P β β' μ' s s') (hD : D ∉ β') (hDs : s.heap.get? D = none) (h0 : P.h₀.get? D = none) (hl : IsL s'.heap D ys k) (hr : RelL P β' s'.heap xs ys.toList) (hx : xs.length ≤ lim) :
    Post P β (β' ++ [D]) (μ' ++ [.list xs]) s s' := by
  refine ⟨p.st, p.inv.adopt hD h0 (.list hl (hr.grow (List.prefix_append _ _)) hx), p.pre.trans (List.prefix_append _ _), p.keep, fun a ha hn => ?_⟩
  rcases List.mem_append.mp ha with q | q
  · exact p.fresh a q hn
  · rw [List.mem_singleton.mp q]; exact hDs

theorem PostS.scrap {P : Pl} {W : List Addr} {β β' : Bk} {μ' : Mem} {s s' : Shared} {C : Addr} {m : Str → Option Value} {h' : Heap} (p : PostS P W β β' μ' s s') (h0 : P.h₀.get? C = none) (hCs : s.heap.get? C = none) (hC : C ∉ β') (hn : s'.heap.Ns C m) (hs : Heap.SameBut C s'.heap h') :
    PostS P W β β' μ' s { s' with heap := h' } := by
  have k : ∀ a o, s'.heap.get? a = some o → a ≠ C → h'.get? a = some o := fun a o e q => (hs.2 a q).trans e
  have hW : ∀ o, s'.heap.get? C = some o → (∃ es n, o.data = .dict es n) ∨ ∃ v, o.data = .cell v := fun o e => by
    obtain ⟨o', es, n, e', d, _⟩ := hn
    rw [e] at e'; cases e'; exact .inl ⟨es, n, d⟩
  refine ⟨?_, ⟨p.inv.len, p.inv.nd, fun i o a h1 h2 => ?_, fun a o e => k a o (p.inv.base a o e) (fun q => by rw [q, h0] at e; cases e), p.inv.new⟩, p.pre, fun a o e n w => ?_, p.fresh⟩
  · obtain ⟨h1, t1, e1⟩ := p.st
    exact ⟨h', t1, by rw [e1]⟩
  · exact (p.inv.obj i o a h1 h2).but p.inv k hC hW fun q => hC (q ▸ List.mem_of_getElem? h2)
  · obtain ⟨o', e', ss⟩ := p.keep a o e n w
    exact ⟨o', k a o' e' (fun q => by rw [q, hCs] at e; cases e), ss⟩
theorem Post.toS {P : Pl} {β β' : Bk} {μ' : Mem} {s s' : Shared} (p : Post P β β' μ' s s') : PostS P [] β β' μ' s s' := p.own fun _ h => by cases h
theorem PostS.toP {P : Pl} {β β' : Bk} {μ' : Mem} {s s' : Shared} (p : PostS P [] β β' μ' s s') : Post P β β' μ' s s' :=
  ⟨p.st, p.inv, p.pre, fun a o e n => p.keep a o e n (by simp), fun a h n => (p.fresh a h n).1⟩
theorem IsL.scrap {h h' : Heap} {D C : Addr} {ys : Array Value} {k : Nat} (hl : IsL h D ys k) (hs : Heap.SameBut C h h') (hDC : D ≠ C) : IsL h' D ys k := (hs.2 D hDC).trans hl

section
variable {P : Pg} {B : Blk}

theorem envScrap {A : Around} {env : Env} {β : Bk} {ρ : Fr} {μ : Mem} {h h' : Heap} {C : Addr} {m : Str → Option Value} (x : EnvOk P B A env β ρ h) (I : Inv P.toPl β μ h) (hC : C ∉ β) (hCo : C ∉ own env) (hCf : ∀ l, A.frames = some l → ∀ e ∈ l, e.frame ≠ some C) (hCc : ∀ (i : Nat) (y : Str) (k : NameKind), B.tab[i]? = some (some (y, k)) → env.cells.lookup y ≠ some C) (hn : h.Ns C m) (hs : Heap.SameBut C h h') : EnvOk P B A env β ρ h' := by
  have k : ∀ a o, h.get? a = some o → a ≠ C → h'.get? a = some o := fun a o e q => (hs.2 a q).trans e
  have hW : ∀ o, h.get? C = some o → (∃ es n, o.data = .dict es n) ∨ ∃ v, o.data = .cell v := fun o e => by
    obtain ⟨o', es, n, e', d, _⟩ := hn
    rw [e] at e'; cases e'; exact .inl ⟨es, n, d⟩
  have kr : ∀ {v : V} {u : Value}, Rel P.toPl β h v u → Rel P.toPl β h' v u := fun r => r.but I k hC hW
  exact { x with
    ns := by
      obtain ⟨m, ⟨o, es, n', e, d, r⟩, hm⟩ := x.ns
      exact ⟨m, ⟨o, es, n', k _ o e fun q => hCo (q ▸ List.mem_cons_self), d, r⟩, fun i y v ht hv => let ⟨u, h1, h2⟩ := hm i y v ht hv; ⟨u, h1, kr h2⟩⟩
    cell := fun i y kk ht hk => by
      obtain ⟨c, u, h1, h2, h3, ⟨o, e, d⟩, h5⟩ := x.cell i y kk ht hk
      exact ⟨c, u, h1, h2, h3, ⟨o, k _ o e fun q => hCc i y kk ht (by rw [h1, q]), d⟩, fun v hv => let ⟨z, e1, e2⟩ := h5 v hv; ⟨z, e1, kr e2⟩⟩
    fr := by
      obtain ⟨fe, outer, h1, h2, h3⟩ := x.fr
      refine ⟨fe, outer, h1, h2, fun e he => ?_⟩
      obtain ⟨kk, L, o, g1, g2, g3, g4, es, n', g5⟩ := h3 e he
      exact ⟨kk, L, o, g1, g2, g3, k _ o g4 fun q => hCf _ h1 e he (by rw [g1, q]), es, n', g5⟩
    own := fun a ha => by
      obtain ⟨h1, h2, o, h3, h4⟩ := x.own a ha
      exact ⟨h1, h2, o, k _ o h3 fun q => hCo (q ▸ ha), h4⟩ }

noncomputable def twOf : Option Str → Env → List Addr
  | none => fun env => [env.locals]
  | some x => tgt .cell x
theorem twOf_in {xc : Option Str} {c : Addr} {r : List (Str × Addr)} {scope : Scope} {C : Addr} {env : Env} : ∀ a ∈ twOf xc (compEnvC scope (ncl xc c ++ r) C env), a ∈ C :: (ncl xc c).map Prod.snd := fun a ha => by
  cases xc with
  | none => exact ha
  | some x =>
    have h : a ∈ ((ncl (some x) c ++ r).lookup x).toList := ha
    rw [ncl_own] at h
    exact List.mem_cons_of_mem _ h
theorem Inv.out {P : Pl} {β : Bk} {μ : Mem} {h : Heap} (I : Inv P β μ h) {a : Addr} (e : h.get? a = none) : a ∉ β := fun q => by
  obtain ⟨ob, e', _⟩ := I.there q
  rw [e] at e'; cases e'
theorem Inv.out0 {P : Pl} {β : Bk} {μ : Mem} {h : Heap} (I : Inv P β μ h) {a : Addr} (e : h.get? a = none) : P.h₀.get? a = none := by
  cases q : P.h₀.get? a with
  | none => rfl
  | some o => rw [I.base _ _ q] at e; cases e
theorem cells_laid {B Bc : Blk} {scope : Scope} {locs : List Nat} {xc : Option Str} (K : CompOk B Bc scope locs xc) (H : Heap) : (pushCells (H.push { cls := .type "dict", data := .dict #[] }) scope.names).Ns H.objs.size (fun _ => none) ∧
    (∀ y, xc = some y → (pushCells (H.push { cls := .type "dict", data := .dict #[] }) scope.names).IsCell (H.objs.size + 1) none) ∧ H.get? (H.objs.size + 1) = none ∧ ∀ a o, H.get? a = some o → (pushCells (H.push { cls := .type "dict", data := .dict #[] }) scope.names).get? a = some o := by
  obtain ⟨k, c⟩ := K.cells.2 (H.push { cls := .type "dict", data := .dict #[] })
  have sz : (H.push { cls := .type "dict", data := .dict #[] }).objs.size = H.objs.size + 1 := Heap.size_push ..
  rw [sz] at c
  refine ⟨(Heap.Ns.new H (.type "dict")).keeps k, c, ?_, fun a o e => k a o (Heap.get?_push_of_some _ e)⟩
  cases q : H.get? (H.objs.size + 1) with
  | none => rfl
  | some o =>
    have := Heap.get?_push_of_some { cls := .type "dict", data := .dict #[] } q
    rw [← sz, get_size] at this; cases this

theorem compCore {Bc : Blk} {scope : Scope} {locs : List Nat} {xc : Option Str} {elt target iter : Expr} {ifs : List Expr} {pos pos' : Pos} {dI : DI} {bd : Bd} {dc : DT} {de : DE} (K : CompOk B Bc scope locs xc) (hI : SimI P B Bc iter target bd (twOf xc) dI) (hc : SimIfs P Bc ifs dc) (he : SimE P Bc elt de)
    (hρ : ∀ v ρ ρ', bd v ρ = some ρ' → ∀ i w, ρ i = some w → ρ' i = some w) (hs : ∀ env x, foldedSetIterable iter env x = pure x)
    {n : Nat} {A : Around} {env : Env} {β : Bk} {ρ : Fr} {μ : Mem} {s : Shared} {use : Option (Value → Sem Unit)} {Q : Value → Shared → Prop} {E : Value → Shared → Prop} (X : At P B n A env β ρ μ s) (hb : dComp locs dI bd dc de (P.cx n) ρ μ ≠ .bad)
    (ok : ∀ D C s' xs μ' β' ys k m, dComp locs dI bd dc de (P.cx n) ρ μ = newL μ' xs → Post P.toPl β β' μ' s s' → IsL s'.heap D ys k → RelL P.toPl β' s'.heap xs ys.toList → xs.length ≤ lim → D ∉ β' → s.heap.get? D = none → P.h₀.get? D = none →
      s.heap.get? C = none → P.h₀.get? C = none → C ∉ β' → D ≠ C → s'.heap.Ns C m → compPost P.M A E use Q (.ref D) C (.ok .next) s')
    (ex : ∀ x s', ExE P.toPl env.frame β s (dComp locs dI bd dc de (P.cx n) ρ μ) x s' → E x s') :
    wpAny P.M A (comprehension (.ListComp elt [⟨target, iter, ifs, 0⟩] scope pos) scope env pos' (newList []) false (eval iter env) use) Q E s := by
  have hnb : dI (P.cx n) ρ μ ≠ .bad := fun q => hb (by simp only [dComp, q]; rfl)
  have hfree := K.out X.env
  refine wpAny_comprehension_free (use := use) rfl (hs env) (closure_of hfree) K.kind K.names ?_
  refine hI n A env β ρ μ s _ _ X hnb (fun t μ₁ β₁ s₁ I vol St e₁ p₁ T st hv => ?_) fun x s' q => ?_
  · have e : dComp locs dI bd dc de (P.cx n) ρ μ = (if locs.all (fun i => (ρ i).isNone) then (compS t.chk bd dc de (P.cx n) ρ t.items μ₁ []).bind fun xs μ => newL μ xs else .bad) := by simp only [dComp, e₁]; rfl
    have hl : locs.all (fun i => (ρ i).isNone) = true := by
      by_cases q : locs.all (fun i => (ρ i).isNone) = true
      · exact q
      · rw [e, if_neg q] at hb; exact absurd rfl hb
    rw [e, if_pos hl] at hb ok
    clear e e₁ hnb
    have X₁ := X.post p₁
    refine wpAny_newList ?_
    have p₂ : Post P.toPl β₁ β₁ μ₁ s₁ { s₁ with heap := s₁.heap.push { cls := .type "list", data := .seq ([] : List Value).toArray }, toks := s₁.toks } := Post.other X₁.inv s₁.toks fun a o e => Heap.get?_push_of_some _ e
    have hD₂ := Heap.get?_push_size s₁.heap (o := { cls := .type "list", data := .seq ([] : List Value).toArray }) rfl
    have hDn : s₁.heap.get? s₁.heap.objs.size = none := get_size _
    generalize s₁.heap.objs.size = D at *
    generalize s₁.heap.push { cls := .type "list", data := .seq ([] : List Value).toArray } = H2 at p₂ hD₂ ⊢
    have X₂ := X₁.post p₂
    refine newEnv_cells ?_
    rw [K.cells.1]
    obtain ⟨hn₃, hc₃, hcn, k₃⟩ := cells_laid K H2
    have hCn : H2.get? H2.objs.size = none := get_size _
    generalize pushCells (H2.push { cls := .type "dict", data := .dict #[] }) scope.names = h₃ at hn₃ hc₃ k₃ ⊢
    generalize H2.objs.size + 1 = c at *
    generalize H2.objs.size = C at *
    have p₃ : Post P.toPl β₁ β₁ μ₁ { s₁ with heap := H2, toks := s₁.toks } { s₁ with heap := h₃, toks := s₁.toks } := Post.other (s := { s₁ with heap := H2, toks := s₁.toks }) X₂.inv _ k₃
    have hDC : ∀ {a}, H2.get? a = none → D ≠ a := fun h q => by rw [← q, hD₂] at h; cases h
    have envc := compEnv_ok (P := P) (A := A) K X₂.env hl hn₃ hc₃ hCn hcn X₂.inv.out X₂.inv.out0 k₃ (fun {v u} r => (Rel.post X₂.inv p₃ r : Rel P.toPl β₁ h₃ v u))
    have fr : ∀ {a}, H2.get? a = none → s.heap.get? a = none := fun h => p₁.back (p₂.back h)
    have hcl : ∀ q ∈ clOf env scope.names [], q.2 ∈ own env := fun q hq => List.mem_cons_of_mem _ (lookup_mem_snd (clOf_mem scope.names [] hfree (by simp) q hq))
    generalize clOf env scope.names [] = cl at *
    have hW : ∀ a ∈ C :: (ncl xc c).map Prod.snd, H2.get? a = none := fun a ha => by
      rcases List.mem_cons.mp ha with rfl | h
      · exact hCn
      · obtain ⟨q, hq, rfl⟩ := List.mem_map.mp h
        obtain ⟨_, _, rfl⟩ := ncl_mem hq
        exact hcn
    have hWo : ∀ a ∈ C :: (ncl xc c).map Prod.snd, a ∈ own (compEnvC scope (ncl xc c ++ cl) C env) := fun a ha => by
      rcases List.mem_cons.mp ha with rfl | h
      · exact List.mem_cons_self
      · obtain ⟨q, hq, rfl⟩ := List.mem_map.mp h
        exact List.mem_cons_of_mem _ (List.mem_map.mpr ⟨q, List.mem_append_left _ hq, rfl⟩)
    have hown : ∀ a ∈ own (compEnvC scope (ncl xc c ++ cl) C env), H2.get? a = none ∨ a ∈ own env := fun a ha => by
      rcases List.mem_cons.mp ha with rfl | h
      · exact .inl hCn
      · obtain ⟨q, hq, rfl⟩ := List.mem_map.mp h
        rcases List.mem_append.mp hq with hq | hq
        · exact .inl (hW _ (List.mem_cons_of_mem _ (List.mem_map.mpr ⟨q, hq, rfl⟩)))
        · exact .inr (hcl q hq)
    have p13 := p₂.trans p₃
    have st₃ : St 0 β₁ h₃ := T.stay 0 β₁ β₁ μ₁ μ₁ s₁ _ [] st X₁.inv (fun a ha => by cases ha) p13.toS fun a ha => ⟨by simp, (hv a ha).2⟩
    refine (fun loop => codeAny_compStart_list loop (T.self 0 β₁ _ _ _ st₃ loop) : codeAny P.M A (.compLoop (.ListComp elt [⟨target, iter, ifs, 0⟩] scope pos) 0 (.ref I) (.ref D) (compEnvC scope (ncl xc c ++ cl) C env)) (compPost P.M A E use Q (.ref D) C) { s₁ with heap := h₃, toks := s₁.toks } → _) ?_
    have htw := twOf_in (xc := xc) (c := c) (r := cl) (scope := scope) (C := C) (env := env)
    have hCW : C ∈ C :: (ncl xc c).map Prod.snd := List.mem_cons_self
    generalize C :: (ncl xc c).map Prod.snd = W at *
    have hl' : (compEnvC scope (ncl xc c ++ cl) C env).locals = C := rfl
    generalize compEnvC scope (ncl xc c ++ cl) C env = cenv at *
    subst hl'
    have X₃ : At P Bc n A cenv β₁ ρ μ₁ { s₁ with heap := h₃, toks := s₁.toks } := ⟨X.good, X.call, X.room, envc, p₃.inv⟩
    have hvv : ∀ a ∈ vol, s₁.heap.get? a ≠ none := fun a ha q => by
      obtain ⟨o, e, _⟩ := T.here _ _ _ st a ha
      rw [q] at e; cases e
    have hvol : ∀ a ∈ vol, a ∉ own cenv ∧ a ∉ β₁ ∧ P.h₀.get? a = none := fun a ha => ⟨fun q => (hown a q).elim (fun h => hvv a ha (p₂.back h)) fun q => X.env.live a q (hv a ha).1, (hv a ha).2, X.inv.out0 (hv a ha).1⟩
    have acc₃ : Acc P D vol cenv β₁ [] h₃ := ⟨⟨X₁.inv.out hDn, fun q => hvv D q hDn, fun q => (hown D q).elim (fun h => hDC h rfl) fun q => X₁.env.live D q hDn, X₁.inv.out0 hDn⟩, ⟨_, _, k₃ _ _ hD₂, .nil⟩, by simp⟩
    refine compTurns (R := compPost P.M A E use Q (.ref D) cenv.locals) T W htw hWo hc he (fun v ρ' h => hρ v ρ ρ' h) t.items 0 β₁ μ₁ _ [] (Nat.zero_le _) rfl X₃ hvol st₃ acc₃ (fun q => hb (by rw [q]; rfl)) fun s' xs μ' β' q1 q2 q3 ⟨m, q4⟩ => ?_
    obtain ⟨ys, k, g1, g2⟩ := q3.obj
    rw [q1] at ok
    have pB : PostS P.toPl [] β β' μ' s s' := PostS.drop (V := [D] ++ (vol ++ W)) (p₁.trans p13) (fun a ha => by
      rcases List.mem_append.mp ha with h | h
      · rw [List.mem_singleton.mp h]; exact p₁.back hDn
      · exact (List.mem_append.mp h).elim (fun h => (hv a h).1) fun h => fr (hW a h)) (fun a ha => by cases ha) (by rw [List.append_nil]; exact q2)
    have hCb : cenv.locals ∉ β' := fun q => (q2.fresh _ q (X₂.inv.out hCn)).2 (List.mem_append_right _ (List.mem_append_right _ hCW))
    exact ok D cenv.locals s' xs μ' β' ys k m rfl pB.toP g1 g2 q3.len q3.out.1 (p₁.back hDn) (X₁.inv.out0 hDn) (fr hCn) (X₂.inv.out0 hCn) hCb (hDC hCn) q4
  · obtain ⟨c, μ', β', q1, q2, q3⟩ := q
    exact ex x s' ⟨c, μ', β', by simp only [dComp, q1]; rfl, q2, q3⟩

theorem SimE.comp {Bc : Blk} {scope : Scope} {locs : List Nat} {elt target iter : Expr} {ifs : List Expr} {pos : Pos} {dI : DI} {bd : Bd} {dc : DT} {de : DE} (K : CompOk B Bc scope locs Option.none) (hI : SimI P B Bc iter target bd (fun env => [env.locals]) dI) (hc : SimIfs P Bc ifs dc) (he : SimE P Bc elt de)
    (hρ : ∀ v ρ ρ', bd v ρ = some ρ' → ∀ i w, ρ i = some w → ρ' i = some w) (hs : ∀ env x, foldedSetIterable iter env x = pure x) :
    SimE P B (.ListComp elt [⟨target, iter, ifs, 0⟩] scope pos) (dComp locs dI bd dc de) := fun n A env β ρ μ s X hb => by
  rw [eval_ListComp]
  refine compCore K hI hc he hρ hs X hb (fun D C s' xs μ' β' ys k m e p hl hr hx hDb hDs hD0 hCs hC0 hCb hDC hn => ?_) fun x s' q => q
  refine ⟨m, hn, fun h' hsb => ?_⟩
  have p' := (p.toS.scrap hC0 hCs hCb hn hsb).toP
  have hr' : RelL P.toPl β' h' xs ys.toList := hr.but p.inv (fun a o e q => (hsb.2 a q).trans e) hCb fun o e => by
    obtain ⟨o', es, n, e', d, _⟩ := hn
    rw [e] at e'; cases e'; exact .inl ⟨es, n, d⟩
  have hl' : IsL h' D ys k := IsL.scrap hl hsb hDC
  rw [e]
  refine ⟨.ref μ'.length, μ' ++ [.list xs], β' ++ [D], by simp only [newL, hx, if_true], Post.adopt (s' := { s' with heap := h' }) p' hDb hDs hD0 hl' hr' hx, .ref ?_⟩
  rw [← p.inv.len, List.getElem?_append_right (Nat.le_refl _)]; simp
end
end
end Mine
end
section
set_option autoImplicit false
set_option tactic.hygienic false
set_option backward.eqns.nonrecursive false
namespace Mine
noncomputable section
open PySem PyProof.Rows PySem.SeqAt

noncomputable def swB (e : Expr) (x : Str) (p : Pos) (l : Nat) (sc : Scope) : Bool := match e with
  | .ListComp _ _ s _ | .SetComp _ _ s _ | .DictComp _ _ _ s _ => (if sc.kind.isAnnotationScope then ScopeKind.function else sc.kind) == .function && sc.names.lookup x == some .local && p.line == e.pos.line
      && !(s.names.any fun (n, k) => n == x && (k == .local || k == .cell))
  | _ => false
theorem swB_eq {e : Expr} {x : Str} {p : Pos} {l : Nat} {env : Env} {sc : Scope} (h : env.scope = sc) : swapsWith e (some (.Name x p)) l env = pure (swB e x p l sc) := by
  subst h
  cases e <;> first | rfl

section
variable {P : Pg} {B : Blk}
theorem SimX.setG {i : Nat} {x : Str} {k : NameKind} {e : Expr} {d : DE} {p pos : Pos} (ht : B.tab[i]? = some (some (x, k))) (hk : k = .local ∨ k = .cell) (hw : swB e x p pos.line B.sc = false) (h : SimE P B e d) :
    SimX P B (.Assign [.Name x p] e pos) (sSet i d) := fun n A env β ρ μ s X hb => by
  refine wpAny_Assign_Name (useES h X hb (fun v μ₁ β₁ u s₁ e₁ p₁ r₁ hb₁ X₁ => ?_) fun u s₁ q => q) (by rw [swB_eq X.env.sc, hw])
  refine store_ok X₁ ht hk r₁ fun s' p' he => .inl ⟨ρ.set i v, μ₁, β₁, by simp only [sSet, e₁]; rfl, rfl, (p₁.own X.env.live).trans p', he⟩

theorem lookup_own {env : Env} {y : Str} {c : Addr} (h : env.cells.lookup y = some c) : c ∈ own env := List.mem_cons_of_mem _ (lookup_mem_snd h)

theorem SimX.setCompG {i : Nat} {x : Str} {px spos : Pos} {Bc : Blk} {scope : Scope} {locs : List Nat} {xc : Option Str} {elt target iter : Expr} {ifs : List Expr} {pos : Pos} {dI : DI} {bd : Bd} {dc : DT} {de : DE} (ht : B.tab[i]? = some (some (x, .local))) (hw : swB (.ListComp elt [⟨target, iter, ifs, 0⟩] scope pos) x px spos.line B.sc = true)
    (K : CompOk B Bc scope locs xc) (hI : SimI P B Bc iter target bd (twOf xc) dI) (hc : SimIfs P Bc ifs dc) (he : SimE P Bc elt de)
    (hρ : ∀ v ρ ρ', bd v ρ = some ρ' → ∀ i w, ρ i = some w → ρ' i = some w) (hs : ∀ env x, foldedSetIterable iter env x = pure x) :
    SimX P B (.Assign [.Name x px] (.ListComp elt [⟨target, iter, ifs, 0⟩] scope pos) spos) (sSet i (dComp locs dI bd dc de)) := fun n A env β ρ μ s X hb => by
  have hnb : dComp locs dI bd dc de (P.cx n) ρ μ ≠ .bad := fun q => hb (by simp only [sSet, q]; rfl)
  rw [exec_Assign_Name_used _ _ _ _ (by rw [swB_eq X.env.sc, hw])]
  refine wpAny_bind (wpAny_standAt (wpAny_bind ?_))
  show wpAny _ A (do let _ ← comprehension (.ListComp elt [⟨target, iter, ifs, 0⟩] scope pos) scope env _ (newList []) false (eval iter env) (some (assign (.Name x px) env))) _ _ s
  refine wpAny_bind (wpAny_mono (compCore (Q := fun _ s' => OkS P B A env β s (sSet i (dComp locs dI bd dc de) (P.cx n) ρ μ) .next s') (E := ExS P B A env β s (sSet i (dComp locs dI bd dc de) (P.cx n) ρ μ)) (use := some (assign (.Name x px) env)) K hI hc he hρ hs X hnb (fun D C s' xs μ' β' ys k m e p hl hr hx hDb hDs hD0 hCs hC0 hCb hDC hn => ?_) fun x s' q => ?_) (fun _ s' hq => wpAny_pure (wpAny_pure hq)) fun _ _ e => e)
  · have pA := p.adopt hDb hDs hD0 hl hr hx
    have XA := X.post pA
    have hCo : C ∉ own env := fun q => X.env.live C q hCs
    show wpAny _ A (assign (.Name x px) env (.ref D)) _ _ s'
    refine wpAny_assign_Name (store_at XA ht (.inl rfl) (v := .ref μ'.length) (.ref (by rw [← p.inv.len, List.getElem?_append_right (Nat.le_refl _)]; simp)) fun s₂ p₂ he₂ => ?_)
    have hCA : C ∉ β' ++ [D] := fun q => by
      rcases List.mem_append.mp q with q | q
      · exact hCb q
      · exact hDC (List.mem_singleton.mp q).symm
    obtain ⟨oC, esC, nC, eC, dC, rC⟩ := id hn
    obtain ⟨o₂, e₂, ss⟩ := p₂.keep C oC eC hCA fun q => hCo (tgt_sub C q)
    have hn₂ : s₂.heap.Ns C m := ⟨o₂, esC, nC, e₂, ss.data.trans dC, rC⟩
    refine ⟨m, hn₂, fun h' hsb => .inl ⟨ρ.set i (.ref μ'.length), μ' ++ [.list xs], β' ++ [D], ?_, rfl, ?_, ?_⟩⟩
    · simp only [sSet, e, newL, hx, if_true]; rfl
    · have pW : PostS P.toPl (own env) β (β' ++ [D]) (μ' ++ [.list xs]) s s₂ := (pA.own X.env.live).trans (p₂.weaken tgt_sub fun a ha hn => absurd ha hn)
      exact pW.scrap hC0 hCs hCA hn₂ hsb
    · refine envScrap he₂ p₂.inv hCA hCo (fun l hl e he q => ?_) (fun j y k ht' q => ?_) hn₂ hsb
      · obtain ⟨fe, outer, f1, f2, f3⟩ := X.env.fr
        rw [hl] at f1; cases f1
        obtain ⟨_, L, o, g1, _, _, g4, _⟩ := f3 e he
        rw [g1] at q; cases q
        rw [hCs] at g4; cases g4
      · exact hCo (lookup_own q)
  · obtain ⟨c, μ', β', q1, q2, q3⟩ := q
    exact ⟨c, ρ, μ', β', by simp only [sSet, q1]; rfl, q2.own X.env.live, q3, X.env.post X.inv q2⟩
theorem SimX.setComp {i : Nat} {x : Str} {px spos : Pos} {Bc : Blk} {scope : Scope} {locs : List Nat} {elt target iter : Expr} {ifs : List Expr} {pos : Pos} {dI : DI} {bd : Bd} {dc : DT} {de : DE} (ht : B.tab[i]? = some (some (x, .local))) (hw : swB (.ListComp elt [⟨target, iter, ifs, 0⟩] scope pos) x px spos.line B.sc = true)
    (K : CompOk B Bc scope locs Option.none) (hI : SimI P B Bc iter target bd (fun env => [env.locals]) dI) (hc : SimIfs P Bc ifs dc) (he : SimE P Bc elt de)
    (hρ : ∀ v ρ ρ', bd v ρ = some ρ' → ∀ i w, ρ i = some w → ρ' i = some w) (hs : ∀ env x, foldedSetIterable iter env x = pure x) :
    SimX P B (.Assign [.Name x px] (.ListComp elt [⟨target, iter, ifs, 0⟩] scope pos) spos) (sSet i (dComp locs dI bd dc de)) := SimX.setCompG ht hw K hI hc he hρ hs
end
end
end Mine
end
section
set_option autoImplicit false
set_option tactic.hygienic false
set_option backward.eqns.nonrecursive false
namespace Mine
noncomputable section
open PySem PyProof.Rows PySem.SeqAt

inductive BT where
  | list | bool | int | str | tuple
noncomputable def BT.id : BT → String
  | .list => "list" | .bool => "bool" | .int => "int" | .str => "str" | .tuple => "tuple"
noncomputable def BT.nm (T : BT) : Str := Str.ofString T.id
noncomputable def isT (T : BT) (μ : Mem) : V → Option Bool
  | .none => some false
  | .bool _ => some (match T with | .bool | .int => true | _ => false)
  | .int _ => some (match T with | .int => true | _ => false)
  | .str _ => some (match T with | .str => true | _ => false)
  | .tup _ => some (match T with | .tuple => true | _ => false)
  | .scr _ => some (match T with | .list => true | _ => false)
  | .ref a => match μ[a]? with
    | some (.list _) => some (match T with | .list => true | _ => false)
    | some .dic => some false
    | _ => Option.none
noncomputable def bIsi (T : BT) (μ : Mem) (v : V) : R V := (R.opt μ (isT T μ v)).bind fun b μ => .ok (.bool b) μ
noncomputable def bList (μ : Mem) : V → R V
  | .tup xs => newL μ xs
  | .ref a => match μ[a]? with
    | some (.list xs) => newL μ xs
    | _ => .bad
  | .scr ns => newL μ (ns.map V.int)
  | _ => .bad
noncomputable def bTuple (μ : Mem) : V → R V
  | .tup xs => newT μ xs
  | .ref a => match μ[a]? with
    | some (.list xs) => newT μ xs
    | _ => .bad
  | _ => .bad
noncomputable def truths (μ : Mem) : List V → Option (List Bool)
  | [] => some []
  | v :: r => match truth μ v, truths μ r with
    | some b, some bs => some (b :: bs)
    | _, _ => Option.none
noncomputable def bAny (μ : Mem) : V → R V
  | .ref a => match μ[a]? with
    | some (.list xs) => (R.opt μ (truths μ xs)).bind fun bs μ => .ok (.bool (bs.any _root_.id)) μ
    | _ => .bad
  | _ => .bad
noncomputable def bAll (μ : Mem) : V → R V
  | .ref a => match μ[a]? with
    | some (.list xs) => (R.opt μ (truths μ xs)).bind fun bs μ => .ok (.bool (bs.all _root_.id)) μ
    | _ => .bad
  | _ => .bad

section
variable {P : Pg} {B : Blk}

theorem OkE.toks {β : Bk} {μ : Mem} {s : Shared} {v : V} {x : Value} (I : Inv P.toPl β μ s.heap) (tk : Nat) (r : Rel P.toPl β s.heap v x) : OkE P.toPl β s (.ok v μ) x { s with toks := tk } :=
  ⟨v, μ, β, rfl, Post.toks I tk, r⟩
theorem OkE.same {β : Bk} {μ : Mem} {s : Shared} {v : V} {x : Value} (I : Inv P.toPl β μ s.heap) (r : Rel P.toPl β s.heap v x) : OkE P.toPl β s (.ok v μ) x s :=
  ⟨v, μ, β, rfl, Post.refl I, r⟩
theorem lim63 {k : Nat} (h : k ≤ lim) : (k : Int) < 2 ^ 63 := by
  have : lim = 1000000 := rfl
  omega

theorem RelL.size {β : Bk} {h : Heap} {xs : List V} {vs : Array Value} (r : RelL P.toPl β h xs vs.toList) : vs.size = xs.length := by
  have := r.length; simp at this; exact this.symm

theorem len_ok : B1Ok P (.builtin "len") bLen := fun A β μ s a x L hu hh I r hb => by
  cases r with
  | none => exact absurd rfl hb
  | bool => exact absurd rfl hb
  | int => exact absurd rfl hb
  | @str x t h1 h2 => exact PySem.P.len_str (by have := lim63 h2; omega) (OkE.toks I _ (.int _ _))
  | @tup a vs n xs e r l =>
    have hz := RelL.size r
    refine PySem.P.len_tuple e (by have := lim63 (hz ▸ l); omega) ?_
    have h := OkE.toks (x := .int vs.size (s.toks + 1)) I (s.toks + 1 + 1) (.int (vs.size : Int) (s.toks + 1))
    simp only [bLen]; rw [← hz]; exact h
  | @scr a items ns h1 h2 h3 =>
    have hz := RelL.size h3
    obtain ⟨o, e, c⟩ := h1
    refine Calls.call_len_list ⟨o, I.base _ _ e, c⟩ (lim63 h2) ?_
    have h := OkE.toks (x := .int items.size (s.toks + 1)) I (s.toks + 1 + 1) (.int (items.size : Int) (s.toks + 1))
    simp only [bLen]
    rw [hz] at h ⊢; simpa using h
  | @ref i l e =>
    simp only [bLen] at hb ⊢
    cases hm : μ[i]? with
    | none => rw [hm] at hb; exact absurd rfl hb
    | some o =>
      have ro := I.obj i _ l hm e
      rw [hm] at hb
      cases ro with
      | @list _ vs n xs a1 a2 a3 =>
        have hz := RelL.size a2
        refine Calls.call_len_list ⟨_, a1, rfl, n, rfl⟩ (lim63 (hz ▸ a3)) ?_
        have h := OkE.toks (x := .int vs.size (s.toks + 1)) I (s.toks + 1 + 1) (.int (vs.size : Int) (s.toks + 1))
        simp only []
        rw [← hz]; exact h
      | inst => exact absurd rfl hb
      | ns => exact absurd rfl hb
      | dic => exact absurd rfl hb

theorem isi_list {A : Around} {s : Shared} {E : Value → Shared → Prop} {a : Addr} {o : Obj} (T : BT) {Q : Value → Shared → Prop} (e : s.heap.get? a = some o) (hc : o.cls = .type "list") (h : ∀ tk, Q (.bool (match T with | .list => true | _ => false)) { s with toks := tk }) : wpAny P.M A (PySem.call (.builtin "isinstance") [.ref a, .type T.id]) Q E s := by
  cases T with
  | list => exact IsiPair.list_list e hc (h s.toks)
  | bool => exact IsiPair.list_bool e hc (h _)
  | int => exact IsiPair.list_int e hc (h _)
  | str => exact IsiPair.list_str e hc (h _)
  | tuple => exact IsiPair.list_tuple e hc (h _)
theorem isi_noneC {A : Around} {s : Shared} {E : Value → Shared → Prop} {Q : Value → Shared → Prop} (T : BT) (h : ∀ tk, Q (.bool false) { s with toks := tk }) : wpAny P.M A (PySem.call (.builtin "isinstance") [.none, .type T.id]) Q E s := by
  cases T with
  | list => exact IsiPair.NoneType_list (h _)
  | bool => exact IsiPair.NoneType_bool (h _)
  | int => exact IsiPair.NoneType_int (h _)
  | str => exact IsiPair.NoneType_str (h _)
  | tuple => exact IsiPair.NoneType_tuple (h _)
theorem isi_boolC {A : Around} {s : Shared} {E : Value → Shared → Prop} {Q : Value → Shared → Prop} (T : BT) {c : Bool} (h : ∀ tk, Q (.bool (match T with | .bool | .int => true | _ => false)) { s with toks := tk }) : wpAny P.M A (PySem.call (.builtin "isinstance") [(.bool c), .type T.id]) Q E s := by
  cases T with
  | list => exact IsiPair.bool_list (h _)
  | bool => exact IsiPair.bool_bool (h s.toks)
  | int => exact IsiPair.bool_int (h s.toks)
  | str => exact IsiPair.bool_str (h _)
  | tuple => exact IsiPair.bool_tuple (h _)
theorem isi_intC {A : Around} {s : Shared} {E : Value → Shared → Prop} {Q : Value → Shared → Prop} (T : BT) {c : Int} {u : Tok} (h : ∀ tk, Q (.bool (match T with | .int => true | _ => false)) { s with toks := tk }) : wpAny P.M A (PySem.call (.builtin "isinstance") [(.int c u), .type T.id]) Q E s := by
  cases T with
  | list => exact IsiPair.int_list (h _)
  | bool => exact IsiPair.int_bool (h _)
  | int => exact IsiPair.int_int (h s.toks)
  | str => exact IsiPair.int_str (h _)
  | tuple => exact IsiPair.int_tuple (h _)
theorem isi_strC {A : Around} {s : Shared} {E : Value → Shared → Prop} {Q : Value → Shared → Prop} (T : BT) {c : Str} {u : Tok} (h : ∀ tk, Q (.bool (match T with | .str => true | _ => false)) { s with toks := tk }) : wpAny P.M A (PySem.call (.builtin "isinstance") [(.str c u), .type T.id]) Q E s := by
  cases T with
  | list => exact IsiPair.str_list (h _)
  | bool => exact IsiPair.str_bool (h _)
  | int => exact IsiPair.str_int (h _)
  | str => exact IsiPair.str_str (h s.toks)
  | tuple => exact IsiPair.str_tuple (h _)
theorem isi_tupleC {A : Around} {s : Shared} {E : Value → Shared → Prop} {Q : Value → Shared → Prop} (T : BT) {a : Addr} {o : Obj} (e : s.heap.get? a = some o) (hc : o.cls = .type "tuple") (h : ∀ tk, Q (.bool (match T with | .tuple => true | _ => false)) { s with toks := tk }) : wpAny P.M A (PySem.call (.builtin "isinstance") [.ref a, .type T.id]) Q E s := by
  cases T with
  | list => exact IsiPair.tuple_list e hc (h _)
  | bool => exact IsiPair.tuple_bool e hc (h _)
  | int => exact IsiPair.tuple_int e hc (h _)
  | str => exact IsiPair.tuple_str e hc (h _)
  | tuple => exact IsiPair.tuple_tuple e hc (h s.toks)
theorem isi_ok {A : Around} {β : Bk} {μ : Mem} {s : Shared} {E : Value → Shared → Prop} {v : V} {x : Value} {b : Bool} (T : BT) {Q : Value → Shared → Prop} (I : Inv P.toPl β μ s.heap) (r : Rel P.toPl β s.heap v x) (hb : isT T μ v = some b) (h : ∀ tk, Q (.bool b) { s with toks := tk }) : wpAny P.M A (PySem.call (.builtin "isinstance") [x, .type T.id]) Q E s := by
  cases v with
  | none =>
    obtain rfl := Option.some.inj hb
    obtain rfl := r.none'
    exact isi_noneC T h
  | bool c =>
    obtain rfl := Option.some.inj hb
    obtain rfl := r.bool'
    exact isi_boolC T h
  | int c =>
    obtain rfl := Option.some.inj hb
    obtain ⟨u, rfl⟩ := r.int'
    exact isi_intC T h
  | str c =>
    obtain rfl := Option.some.inj hb
    obtain ⟨u, rfl, _, _⟩ := r.str'
    exact isi_strC T h
  | tup xs =>
    obtain rfl := Option.some.inj hb
    obtain ⟨a, vs, n, rfl, e, _, _⟩ := r.tup'
    exact isi_tupleC T e rfl h
  | scr ns =>
    obtain rfl := Option.some.inj hb
    obtain ⟨a, items, rfl, ⟨o, e, c, _⟩, _⟩ := r.scr'
    exact isi_list T (I.base _ _ e) c h
  | ref i =>
    obtain ⟨l, rfl, e⟩ := r.ref'
    simp only [isT] at hb
    cases hm : μ[i]? with
    | none => rw [hm] at hb; cases hb
    | some o =>
      have ro := I.obj i _ l hm e
      rw [hm] at hb
      cases ro with
      | list a1 _ _ => exact isi_list T a1 rfl (Option.some.inj hb ▸ h)
      | inst => cases hb
      | ns => cases hb
      | dic e =>
        obtain rfl := Option.some.inj hb
        cases T with
        | list => exact IsiPair.dict_list e rfl (h _)
        | bool => exact IsiPair.dict_bool e rfl (h _)
        | int => exact IsiPair.dict_int e rfl (h _)
        | str => exact IsiPair.dict_str e rfl (h _)
        | tuple => exact IsiPair.dict_tuple e rfl (h _)
theorem BT.mem (T : BT) : T.nm ∈ bnames ∧ bootBuiltins T.nm = some (.type T.id) ∧ (T.nm == ("__debug__" : Str)) = false := by cases T <;> refine ⟨by decide, by decide, by decide⟩

theorem SimE.isi {e : Expr} {d : DE} (T : BT) {p q pos : Pos} (hx : B.sc.names.lookup (Str.ofString "isinstance") = some .globalImplicit) (hT : B.sc.names.lookup T.nm = some .globalImplicit) (hp : plainArgs [e, .Name T.nm q] = true)
    (hn : ∀ env, starEach [e, .Name T.nm q] env = [(false, eval e env), (false, eval (.Name T.nm q) env)]) (h : SimE P B e d) : SimE P B (.Call (.Name (Str.ofString "isinstance") p) [e, .Name T.nm q] [] pos) (dB1 (bIsi T) d) := fun n A env β ρ μ s X hb => by
  obtain ⟨m1, m2, m3⟩ := T.mem
  refine Call_Name rfl (X.blt hx (by decide) (by decide) (v := .builtin "isinstance") (by decide) ?_)
  refine callWith_plain (fun _ q => by cases q) (plain_trees hp) ?_
  refine wpAny_items_cons (useE h X hb (fun a μ₁ β₁ u s₁ e₁ p₁ r₁ hb₁ X₁ => ?_) fun u s₁ q => q) (hn env)
  refine wpAny_items_cons (X₁.blt hT m3 m1 m2 ?_) rfl
  refine wpAny_items_nil ?_
  have e : dB1 (bIsi T) d (P.cx n) ρ μ = bIsi T μ₁ a := by simp only [dB1, e₁]; rfl
  rw [e]
  cases hi : isT T μ₁ a with
  | none => simp only [bIsi, hi] at hb₁; exact absurd rfl hb₁
  | some b =>
    refine isi_ok T X₁.inv r₁ hi fun tk => ?_
    simp only [bIsi, hi]
    exact OkE.after p₁ (OkE.toks X₁.inv tk (.bool b))

theorem list_new_ok {A : Around} {β : Bk} {μ : Mem} {s : Shared} {E : Value → Shared → Prop} {it : Addr} {o : Obj} {T : String} {items : Array Value} {n : Nat} {xs : List V} (hT : T = "list" ∨ T = "tuple") (I : Inv P.toPl β μ s.heap) (e : s.heap.get? it = some o) (hc : o.cls = .type T) (hd : o.data = .seq items n) (r : RelL P.toPl β s.heap xs items.toList) (hx : xs.length ≤ lim) :
    wpAny P.M A (PySem.call (.type "list") [.ref it]) (OkE P.toPl β s (newL μ xs)) E s := by
  have hz := RelL.size r
  refine call_list_seq it hT e hc hd (fun h' c' hk hn => ?_) (lim_line (hz ▸ hx))
  have p : Post P.toPl β β μ s { s with heap := h', toks := s.toks } := Post.other I s.toks hk
  have nb : s.heap.objs.size ∉ β := fun q => by
    obtain ⟨ob, e, _⟩ := I.there q
    rw [get_size] at e; cases e
  have h0 : P.h₀.get? s.heap.objs.size = none := by
    cases e : P.h₀.get? s.heap.objs.size with
    | none => rfl
    | some o => exact absurd (I.base _ _ e) (by rw [get_size]; simp)
  refine ⟨.ref μ.length, μ ++ [.list xs], β ++ [s.heap.objs.size], by simp only [newL, hx, if_true], Post.adopt p nb (get_size _) h0 hn (r.post I p) hx, .ref ?_⟩
  rw [← I.len, List.getElem?_append_right (Nat.le_refl _)]; simp

theorem list_ok : B1Ok P (.type "list") bList := fun A β μ s a x L hu hh I r hb => by
  cases r with
  | none => exact absurd rfl hb
  | bool => exact absurd rfl hb
  | int => exact absurd rfl hb
  | str => exact absurd rfl hb
  | tup e r l => exact list_new_ok (.inr rfl) I e rfl rfl r l
  | @scr a items ns h1 h2 h3 =>
    have hz := RelL.size h3
    obtain ⟨o, e, c, n, hd⟩ := h1
    exact list_new_ok (.inl rfl) I (I.base _ _ e) c hd h3 (hz ▸ h2)
  | @ref i l e =>
    simp only [bList] at hb ⊢
    cases hm : μ[i]? with
    | none => rw [hm] at hb; exact absurd rfl hb
    | some o =>
      have ro := I.obj i _ l hm e
      rw [hm] at hb
      cases ro with
      | list a1 a2 a3 => exact list_new_ok (.inl rfl) I a1 rfl rfl a2 a3
      | inst => exact absurd rfl hb
      | ns => exact absurd rfl hb
      | dic => exact absurd rfl hb

theorem tuple_ok : B1Ok P (.type "tuple") bTuple := fun A β μ s a x L hu hh I r hb => by
  cases r with
  | none => exact absurd rfl hb
  | bool => exact absurd rfl hb
  | int => exact absurd rfl hb
  | str => exact absurd rfl hb
  | scr => exact absurd rfl hb
  | @tup t vs n xs e r l =>
    refine PyProof.Rows.call_tuple_tup ⟨_, e, rfl, n, rfl⟩ ?_
    simp only [bTuple, newT, l, if_true]
    exact OkE.same I (.tup e r l)
  | @ref i l e =>
    simp only [bTuple] at hb ⊢
    cases hm : μ[i]? with
    | none => rw [hm] at hb; exact absurd rfl hb
    | some o =>
      have ro := I.obj i _ l hm e
      rw [hm] at hb
      cases ro with
      | @list _ vs n xs a1 a2 a3 =>
        have hz := RelL.size a2
        refine call_tuple_list ⟨_, a1, rfl, n, rfl⟩ (fun h' hk => ?_) (lim_line (hz ▸ a3))
        have p1 : Post P.toPl β β μ s { s with heap := h', toks := s.toks } := Post.other I s.toks hk
        have p2 : Post P.toPl β β μ { s with heap := h', toks := s.toks } { s with heap := h'.push { cls := .type "tuple", data := .seq vs }, toks := s.toks } := Post.other p1.inv s.toks fun a o e => Heap.get?_push_of_some _ e
        simp only [newT, a3, if_true]
        exact ⟨.tup xs, μ, β, rfl, p1.trans p2, .tup (Heap.get?_push_size _ rfl) ((a2.post I p1).post p1.inv p2) a3⟩
      | inst => exact absurd rfl hb
      | ns => exact absurd rfl hb
      | dic => exact absurd rfl hb

theorem truth_any {A : Around} {β : Bk} {μ : Mem} {h : Heap} {s : Shared} {v : V} {x : Value} {t : Bool} {Q : Bool → Shared → Prop} {E : Value → Shared → Prop} (r : Rel P.toPl β h v x) (ht : truth μ v = some t)
    (k : Q t s) : wpAny P.M A (truthy x) Q E s := by
  cases r with
  | none => exact truth_ok (β := β) .none ht k
  | bool b => exact truth_ok (β := β) (.bool b) ht k
  | int i t => exact truth_ok (β := β) (.int i t) ht k
  | str => cases ht
  | tup => cases ht
  | ref => cases ht
  | scr => cases ht

set_option tactic.hygienic true in
theorem truths_get {μ : Mem} : ∀ {xs : List V} {bs : List Bool}, truths μ xs = some bs → xs.length = bs.length ∧ ∀ (i : Nat) (v : V), xs[i]? = some v → ∃ b, bs[i]? = some b ∧ truth μ v = some b
  | [], bs, h => by cases h; exact ⟨rfl, fun i v e => by cases e⟩
  | v :: r, bs, h => by
    simp only [truths] at h
    split at h
    · rename_i b bs' h1 h2
      cases h
      obtain ⟨i1, i2⟩ := truths_get h2
      refine ⟨by simp [i1], fun i u e => ?_⟩
      cases i with
      | zero => simp at e; subst e; exact ⟨b, rfl, h1⟩
      | succ i => simp at e; obtain ⟨c, c1, c2⟩ := i2 i u e; exact ⟨c, by simpa using c1, c2⟩
    · cases h

theorem range_getD (bs : List Bool) : (List.range bs.length).map (fun i => bs[i]?.getD false) = bs := by
  apply List.ext_getElem
  · simp
  · intro i h1 h2
    simp [List.getElem?_eq_getElem h2]
theorem range_all (bs : List Bool) : (List.range bs.length).all (fun i => bs[i]?.getD false) = bs.all _root_.id := by
  conv => rhs; rw [← range_getD bs]
  rw [List.all_map]; rfl


set_option tactic.hygienic true in
set_option tactic.hygienic true in
theorem all_ok : B1Ok P (.builtin "all") bAll := fun A β μ s a x L hu hh I r hb => by
  cases r <;> first | exact absurd rfl hb | skip
  rename_i i l e
  simp only [bAll] at hb ⊢
  cases hm : μ[i]? with
  | none => rw [hm] at hb; exact absurd rfl hb
  | some o =>
    have ro := I.obj i _ l hm e
    rw [hm] at hb
    cases ro with
    | @list _ vs n xs a1 a2 a3 =>
      simp only at hb ⊢
      cases ht : truths μ xs with
      | none => rw [ht] at hb; exact absurd rfl hb
      | some bs =>
        have hz := RelL.size a2
        obtain ⟨t1, t2⟩ := truths_get ht
        refine call_all_walk (wpAny_pyIter_list ⟨_, a1, rfl, n, rfl⟩ ?_)
        have hne : l ≠ s.heap.objs.size := fun q => by rw [q, get_size] at a1; cases a1
        refine ⟨_, _, _, _, _, _, fun i => bs[i]?.getD false, rfl, Walks.list (A := A.in1) hh s.heap.objs.size l hne vs, ⟨⟨_, Heap.get?_push_size _ rfl, rfl, rfl⟩, ⟨_, Heap.get?_push_of_some _ a1, rfl, n, rfl⟩⟩, fun i v s' Q E hv hq => ?_, fun h' tk hk => ?_⟩
        · have hi : i < xs.length := by
            have := (Array.getElem?_eq_some_iff.mp hv).1
            omega
          obtain ⟨b, b1, b2⟩ := t2 i xs[i] (List.getElem?_eq_getElem hi)
          obtain ⟨u, u1, u2⟩ := a2.get (List.getElem?_eq_getElem hi)
          have : v = u := by
            rw [Array.getElem?_toList] at u1
            rw [hv] at u1; cases u1; rfl
          subst this
          simp only [b1, Option.getD_some] at hq
          exact truth_any u2 b2 hq
        · have : (List.range vs.size).all (fun i => bs[i]?.getD false) = bs.all _root_.id := by rw [hz, t1]; exact range_all bs
          rw [this]
          refine ⟨.bool (bs.all _root_.id), μ, β, rfl, ?_, .bool _⟩
          exact Post.other I tk fun a o e => hk a o (fun q => by rw [List.mem_singleton.mp q, get_size] at e; cases e) (Heap.get?_push_of_some _ e)
    | inst => exact absurd rfl hb
    | ns => exact absurd rfl hb
    | dic => exact absurd rfl hb

end
end
end Mine
end
section
set_option autoImplicit false
set_option tactic.hygienic false
set_option backward.eqns.nonrecursive false
namespace Mine
noncomputable section
open PySem PyProof.Rows PySem.SeqAt

inductive MK where
  | list | str | tuple
noncomputable def MK.id : MK → String
  | .list => "list" | .str => "str" | .tuple => "tuple"
noncomputable def hasK (μ : Mem) (v : V) : MK → Bool
  | .list => match v with
    | .ref a => match μ[a]? with | some (.list _) => true | _ => false
    | _ => false
  | .str => match v with | .str _ => true | _ => false
  | .tuple => match v with | .tup _ => true | _ => false
noncomputable def dM1 (K : MK) (f : Mem → V → V → R V) (o e : DE) : DE := fun c ρ μ => (o c ρ μ).bind fun v μ => if hasK μ v K then (e c ρ μ).bind fun u μ => f μ v u else .bad
noncomputable def dM0 (K : MK) (f : Mem → V → R V) (o : DE) : DE := fun c ρ μ => (o c ρ μ).bind fun v μ => if hasK μ v K then f μ v else .bad

noncomputable def bAppend (μ : Mem) (a v : V) : R V := match a with
  | .ref i => match μ[i]? with
    | some (.list xs) => if xs.length < lim then .ok .none (μ.set i (.list (xs ++ [v]))) else .bad
    | _ => .bad
  | _ => .bad
noncomputable def strsOf : List V → Option (List Str)
  | [] => some []
  | .str x :: r => (strsOf r).map (x :: ·)
  | _ :: _ => Option.none
noncomputable def bJoin (μ : Mem) (a v : V) : R V := match a, v with
  | .str sep, .ref i => match μ[i]? with
    | some (.list xs) => match strsOf xs with
      | some ts => if JoinOk sep ts && PyData.strOk (Txt.join sep ts) && decide ((Txt.join sep ts).length ≤ lim) then .ok (.str (Txt.join sep ts)) μ else .bad
      | Option.none => .bad
    | _ => .bad
  | _, _ => .bad
noncomputable def bSplit (μ : Mem) (a v : V) : R V := match a, v with
  | .str x, .str y => if !(y.length == 0) && decide ((Txt.split x y).length ≤ lim) && (Txt.split x y).all (fun t => PyData.strOk t && decide (t.length ≤ lim)) then newL μ ((Txt.split x y).map V.str) else .bad
  | _, _ => .bad

noncomputable def B2Ok (P : Pg) (id : Value) (f : Mem → V → V → R V) : Prop :=
  ∀ A β μ s a x b y L, A.units + 200 < cLine → A.handled = none → Inv P.toPl β μ s.heap → Rel P.toPl β s.heap a x → Rel P.toPl β s.heap b y → f μ a b ≠ .bad →
    wpAny P.M A (PySem.call id [x, y]) (OkE P.toPl β s (f μ a b)) (ExE P.toPl L β s (f μ a b)) s

structure MId (K : MK) (name : Str) (id : String) : Prop where
  slot : Slot K.id name id
  ty : typeOf (.builtin id) = pure (.type "method_descriptor")

theorem MK.plain (K : MK) : PlainAttrs K.id := by
  cases K
  · exact F.plainAttrs_list
  · exact F.plainAttrs_str
  · exact F.plainAttrs_tuple

section
variable {P : Pg} {B : Blk}

theorem type_at {s : Shared} {a : Addr} {o : Obj} {T : String} (e : s.heap.get? a = some o) (hc : o.cls = .type T) (hd : o.dict = Option.none) : s.TypeIs (.ref a) T ∧ ∀ b, Value.ref a = .ref b → ∃ o, s.heap.get? b = some o ∧ o.dict = Option.none :=
  ⟨⟨o, e, hc⟩, fun b q => ⟨o, Value.ref.inj q ▸ e, hd⟩⟩
set_option tactic.hygienic true in
theorem hasK_type {β : Bk} {μ : Mem} {s : Shared} {v : V} {x : Value} (I : Inv P.toPl β μ s.heap) (r : Rel P.toPl β s.heap v x) (K : MK) (h : hasK μ v K = true) : s.TypeIs x K.id ∧ ∀ a, x = .ref a → ∃ o, s.heap.get? a = some o ∧ o.dict = none := by
  cases K with
  | list =>
    cases v with
    | ref i =>
      obtain ⟨l, rfl, e⟩ := r.ref'
      simp only [hasK] at h
      split at h
      · rename_i xs hm
        cases I.obj i _ l hm e with
        | list a1 => exact type_at a1 rfl rfl
      · cases h
    | _ => cases h
  | str =>
    cases v with
    | str y =>
      obtain ⟨t, rfl, _, _⟩ := r.str'
      exact ⟨rfl, fun a q => by cases q⟩
    | _ => cases h
  | tuple =>
    cases v with
    | tup xs =>
      obtain ⟨a, vs, n, rfl, e, _, _⟩ := r.tup'
      exact type_at e rfl rfl
    | _ => cases h

theorem SimE.m1 {o e : Expr} {name : Str} {apos pos : Pos} {do' de : DE} {id : String} {f : Mem → V → V → R V} (K : MK) (i : MId K name id) (k : B2Ok P (.builtin id) f) (hbase : ∀ env, attributeBase o name env (eval o env) = eval o env) (hline : (apos.endLine == pos.line) = true)
    (htrees : ∀ env, backTo pos (starEach [e] env) = [(false, eval e env)]) (h1 : SimE P B o do') (h2 : SimE P B e de) : SimE P B (.Call (.Attribute o name apos) [e] [] pos) (dM1 K f do' de) := fun n A env β ρ μ s X hb => by
  refine wpAny_Call_method1_late (hbase env) hline (htrees env) (useE h1 X hb (fun v μ₁ β₁ x s₁ e₁ p₁ r₁ hb₁ X₁ => ?_) fun u s₁ q => q)
  have hk : hasK μ₁ v K = true := by
    by_cases q : hasK μ₁ v K = true
    · exact q
    · rw [if_neg q] at hb₁; exact absurd rfl hb₁
  rw [if_pos hk] at hb₁
  obtain ⟨t1, t2⟩ := hasK_type X₁.inv r₁ K hk
  refine ⟨K.id, id, K.plain, i.slot, i.ty, t1, t2, ?_⟩
  refine callWith_plain (fun _ q => by cases q) (fun p hp => by rw [List.mem_singleton.mp hp]) ?_
  have e0 : dM1 K f do' de (P.cx n) ρ μ = (de (P.cx n) ρ μ₁).bind fun u μ => f μ v u := by simp only [dM1, e₁, R.bind, hk, if_true]
  refine Calls.spliced_cons (useE h2 X₁ hb₁ (fun u μ₂ β₂ y s₂ e₂ p₂ r₂ hb₂ X₂ => ?_) fun y s₂ q => ?_)
  · refine Calls.spliced_nil ?_
    have e3 : dM1 K f do' de (P.cx n) ρ μ = f μ₂ v u := by rw [e0, e₂]; rfl
    rw [e3]
    exact wpAny_mono (k A β₂ μ₂ s₂ v x u y env.frame X₂.units X₂.room.2.2 X₂.inv (r₁.post X₁.inv p₂) r₂ hb₂) (fun _ _ q => q.after (p₁.trans p₂)) fun _ _ q => q.after (p₁.trans p₂)
  · rw [e0]; exact q.after p₁

set_option tactic.hygienic true in
theorem app_in {μ : Mem} {a v : V} (hb : bAppend μ a v ≠ .bad) : ∃ i xs, a = .ref i ∧ μ[i]? = some (.list xs) ∧ xs.length < lim ∧ bAppend μ a v = .ok .none (μ.set i (.list (xs ++ [v]))) := by
  cases a with
  | ref i =>
    simp only [bAppend] at hb ⊢
    split at hb
    · rename_i xs hm
      by_cases q : xs.length < lim
      · exact ⟨i, xs, rfl, hm, q, if_pos q⟩
      · rw [if_neg q] at hb; exact absurd rfl hb
    · exact absurd rfl hb
  | _ => exact absurd rfl hb
theorem append_ok : B2Ok P (.builtin "list.append") bAppend := fun A β μ s a x b y L hu hh I r r' hb => by
  obtain ⟨i, xs, rfl, hm, hl, e0⟩ := app_in hb
  rw [e0]
  obtain ⟨l, rfl, e⟩ := r.ref'
  obtain ⟨_, vs, n, q, a1, a2, a3⟩ := (I.obj i _ l hm e).lst
  obtain rfl := Value.ref.inj q
  have hz := RelL.size a2
  refine append_exact a1 ?_ (lim_line (by omega))
  have hs : Heap.SameBut l s.heap (s.heap.update l (Obj.mapSeq fun a => a.push y)) := Heap.SameBut.update ..
  have hk : Keep β s.heap (s.heap.update l (Obj.mapSeq fun a => a.push y)) := fun b ob e' hb => ⟨ob, (hs.2 b fun q => hb (q ▸ List.mem_of_getElem? e)).trans e', .refl _⟩
  have a2' : RelL P.toPl β (s.heap.update l (Obj.mapSeq fun a => a.push y)) (xs ++ [b]) (vs.push y).toList := by
    rw [Array.toList_push]
    exact (a2.append (.cons r' .nil)).mono I (List.prefix_refl _) hk fun _ h n => absurd h n
  exact ⟨.none, _, β, rfl, Post.upd I s.toks e hs (.list (IsL.update a1 (fun a => a.push y)) a2' (by simp; omega)), .none⟩

theorem strs_vals {β : Bk} {h : Heap} : ∀ {xs : List V} {vs : List Value} {ts : List Str}, RelL P.toPl β h xs vs → strsOf xs = some ts → ∃ l : List (Str × Tok), vs = strValues l ∧ l.map (·.1) = ts
  | _, _, _, .nil, hs => by cases hs; exact ⟨[], rfl, rfl⟩
  | _, _, ts, .cons (v := v) (vs := r) a b, hs => by
    cases v with
    | str x =>
      simp only [strsOf] at hs
      cases hr : strsOf r with
      | none => rw [hr] at hs; cases hs
      | some us =>
        rw [hr] at hs; cases hs
        obtain ⟨l, e1, e2⟩ := strs_vals b hr
        obtain ⟨t, e3, _, _⟩ := a.str'
        exact ⟨(x, t) :: l, by rw [e1, e3]; rfl, by rw [← e2]; rfl⟩
    | _ => cases hs

inductive JoinIn (μ : Mem) (a b : V) : Prop
  | mk (sep : Str) (i : Nat) (xs : List V) (ts : List Str) (ea : a = .str sep) (eb : b = .ref i) (hm : μ[i]? = some (.list xs)) (hs : strsOf xs = some ts) (c1 : JoinOk sep ts = true) (c2 : PyData.strOk (Txt.join sep ts) = true) (c3 : (Txt.join sep ts).length ≤ lim) (e : bJoin μ a b = .ok (.str (Txt.join sep ts)) μ)
set_option tactic.hygienic true in
theorem join_in {μ : Mem} {a b : V} (hb : bJoin μ a b ≠ .bad) : JoinIn μ a b := by
  cases a with
  | str sep => cases b with
    | ref i =>
      simp only [bJoin] at hb
      split at hb
      · rename_i xs hm
        split at hb
        · rename_i ts hs
          by_cases q : (JoinOk sep ts && PyData.strOk (Txt.join sep ts) && decide ((Txt.join sep ts).length ≤ lim)) = true
          · have q' := q
            simp only [Bool.and_eq_true, decide_eq_true_eq] at q'
            exact ⟨sep, i, xs, ts, rfl, rfl, hm, hs, q'.1.1, q'.1.2, q'.2, by simp only [bJoin, hm, hs]; exact if_pos q⟩
          · rw [if_neg q] at hb; exact absurd rfl hb
        · exact absurd rfl hb
      · exact absurd rfl hb
    | _ => exact absurd rfl hb
  | _ => exact absurd rfl hb
theorem join_ok : B2Ok P (.builtin "str.join") bJoin := fun A β μ s a x b y L hu hh I r r' hb => by
  obtain ⟨sep, i, xs, ts, rfl, rfl, hm, hs, c1, c2, c3, e0⟩ := join_in hb
  rw [e0]
  obtain ⟨t, rfl, h1, h2⟩ := r.str'
  obtain ⟨l, vs, n, rfl, a1, a2, a3⟩ := I.lst r' hm
  obtain ⟨lt, q1, q2⟩ := strs_vals a2 hs
  subst q2
  have hv : vs = (strValues lt).toArray := by rw [← q1]
  have c1' : Builtin.Str.tooLong ((lt.map (·.1)).toArray.foldl (· + ·.length + sep.length) 0) = false := by
    unfold JoinOk at c1
    rw [Bool.not_eq_true'] at c1; exact c1
  refine call_meets F.slot_str_join (typeIs_str _ _ _) F.entry_str_join (F.args_str_join_2 _ _) (meets_str_join_list sep t l lt c1') ⟨⟨_, a1, rfl, n, by rw [hv]⟩, post_join lt ⟨joinFit_length c1', fun t' k => ?_⟩⟩
  exact OkE.toks I k (.str c2 c3)

end
end
end Mine
end
section
set_option autoImplicit false
set_option tactic.hygienic false
set_option backward.eqns.nonrecursive false
namespace Mine
noncomputable section
open PySem PyProof.Rows PySem.SeqAt

noncomputable def putItem (μ : Mem) (a k v : V) : Option Mem := match a, k with
  | .ref l, .int i => match μ[l]? with
    | some (.list xs) => if 0 ≤ i ∧ i < xs.length then some (μ.set l (.list (xs.set i.toNat v))) else Option.none
    | _ => Option.none
  | _, _ => Option.none
noncomputable def sPut (o i e : DE) : DS := fun c ρ μ => (e c ρ μ).thenS ρ fun v μ => (o c ρ μ).thenS ρ fun a μ => (i c ρ μ).thenS ρ fun k μ => match putItem μ a k v with
  | some μ => .next ρ μ
  | Option.none => .bad

section
variable {P : Pg} {B : Blk}

theorem setItem_exact {prog : Program} {w : World} {A : Around} {E : Value → Shared → Prop} {s : Shared} {l : Addr} {items : Array Value} {n : Nat} {k : Int} {t : Tok} {v : Value} {Q : Unit → Shared → Prop} (hl : IsL s.heap l items n) (h0 : 0 ≤ k) (hj : k < items.size) (hfit : k < 2 ^ 63)
    (hQ : Q () { s with heap := s.heap.update l (Obj.mapSeq (·.setIfInBounds k.toNat v)) }) : wpAny (model prog w) A (setItem (.ref l) (.int k t) v) Q E s := by
  have hT : s.TypeIs (.ref l) "list" := ⟨_, hl, rfl⟩
  unfold setItem
  try with_reducible refine wpAny_holding ?_
  first | refine wpAny_bind (wpAny_pure ?_) | skip
  refine wpAny_bind (wpAny_sequenceKey hT (by decide) ?_)
  refine wpAny_bind (wpAny_callSpecial?_slot (name := Str.ofString "__setitem__") hT slot_list_setitem (wpAny_call_entry slot_list_setitem hT entry_list_setitem ?_ (args_list_setitem _ _ _)))
  show wpAny _ _ (Builtin.List.listSubscript? (.int k t) >>= _) _ _ s
  refine wpAny_bind (wpAny_listSubscript_int (fitsIndex_of h0 hfit) ?_)
  clear hfit
  obtain ⟨j, rfl⟩ := Int.eq_ofNat_of_zero_le h0
  have hj : j < items.size := by omega
  show wpAny _ _ ((seqItemAt l j >>= fun r => pure (r.map (j, ·))) >>= _) _ _ s
  refine wpAny_bind (wpAny_bind (wpAny_seqItemAt hl rfl (wpAny_pure ?_)))
  rw [Array.getElem?_eq_getElem hj]
  show wpAny _ _ (setSeqItemAt l j v >>= _) _ _ s
  refine wpAny_bind (wpAny_setSeqItemAt hl rfl ?_)
  first
    | exact wpAny_bind (wpAny_pure (wpAny_pure ⟨.none, rfl, wpAny_pure hQ⟩))
    | exact wpAny_pure ⟨.none, rfl, wpAny_pure hQ⟩

inductive PutIn (μ μ' : Mem) (a k v : V) : Prop
  | mk (i : Nat) (xs : List V) (j : Nat) (ea : a = .ref i) (ek : k = .int (j : Int)) (hm : μ[i]? = some (.list xs)) (hj : j < xs.length) (e : μ' = μ.set i (.list (xs.set j v)))
set_option tactic.hygienic true in
theorem put_in {μ μ' : Mem} {a k v : V} (h : putItem μ a k v = some μ') : PutIn μ μ' a k v := by
  cases a with
  | ref i => cases k with
    | int n =>
      simp only [putItem] at h
      split at h
      · rename_i xs hm
        split at h
        · rename_i hn
          obtain ⟨j, rfl⟩ := Int.eq_ofNat_of_zero_le hn.1
          exact ⟨i, xs, j, rfl, rfl, hm, Int.ofNat_lt.mp hn.2, (Option.some.inj h).symm⟩
        · cases h
      · cases h
    | _ => cases h
  | _ => cases h
theorem put_ok {A : Around} {β : Bk} {μ μ' : Mem} {s : Shared} {E : Value → Shared → Prop} {a k v : V} {x y z : Value} {Q : Unit → Shared → Prop} (I : Inv P.toPl β μ s.heap) (ra : Rel P.toPl β s.heap a x) (rk : Rel P.toPl β s.heap k y) (rv : Rel P.toPl β s.heap v z) (h : putItem μ a k v = some μ')
    (hQ : ∀ s', Post P.toPl β β μ' s s' → Q () s') : wpAny P.M A (setItem x y z) Q E s := by
  obtain ⟨i, xs, j, rfl, rfl, hm, hj, rfl⟩ := put_in h
  obtain ⟨l, rfl, e⟩ := ra.ref'
  obtain ⟨t, rfl⟩ := rk.int'
  obtain ⟨_, vs, m, q, a1, a2, a3⟩ := (I.obj i _ l hm e).lst
  obtain rfl := Value.ref.inj q
  have hz : xs.length = vs.size := a2.length
  have hj' : j < vs.size := hz ▸ hj
  refine setItem_exact a1 (Int.natCast_nonneg j) (Int.ofNat_lt.mpr hj') (lim63 (k := j) (Nat.le_trans (Nat.le_of_lt hj) a3)) (hQ _ ?_)
  have hs : Heap.SameBut l s.heap (s.heap.update l (Obj.mapSeq (·.setIfInBounds j z))) := Heap.SameBut.update ..
  have hk : Keep β s.heap (s.heap.update l (Obj.mapSeq (·.setIfInBounds j z))) := fun b ob e' hb => ⟨ob, (hs.2 b fun q => hb (q ▸ List.mem_of_getElem? e)).trans e', .refl _⟩
  refine Post.upd I s.toks e hs (.list (IsL.update a1 (·.setIfInBounds j z)) ?_ (by rw [List.length_set]; exact a3))
  rw [Array.toList_setIfInBounds]
  exact (a2.set rv j).mono I (List.prefix_refl _) hk fun _ h n => absurd h n

theorem SimX.put {o i e : Expr} {do' di de : DE} {p pos : Pos} (hw : ∀ env, swapsWith e (some (.Subscript o i p)) pos.line env = pure false) (h1 : SimE P B o do') (h2 : SimE P B i di) (h3 : SimE P B e de) : SimX P B (.Assign [.Subscript o i p] e pos) (sPut do' di de) := fun n A env β ρ μ s X hb => by
  refine wpAny_Assign_Subscript (useES h3 X hb (fun v μ₁ β₁ z s₁ e₁ p₁ r₁ hb₁ X₁ => ?_) fun u s₁ q => q) (hw env)
  have q₁ : sPut do' di de (P.cx n) ρ μ = (do' (P.cx n) ρ μ₁).thenS ρ fun a μ => (di (P.cx n) ρ μ).thenS ρ fun k μ => match putItem μ a k v with
    | some μ => .next ρ μ
    | Option.none => .bad := by simp only [sPut, e₁]; rfl
  rw [q₁]
  refine useES h1 X₁ hb₁ (fun a μ₂ β₂ x s₂ e₂ p₂ r₂ hb₂ X₂ => ?_) fun u s₁ q => q.after (p₁.own X.env.live) X₁.env.live
  have q₂ : ((do' (P.cx n) ρ μ₁).thenS ρ fun a μ => (di (P.cx n) ρ μ).thenS ρ fun k μ => match putItem μ a k v with
    | some μ => .next ρ μ
    | Option.none => .bad) = (di (P.cx n) ρ μ₂).thenS ρ fun k μ => match putItem μ a k v with
    | some μ => .next ρ μ
    | Option.none => .bad := by rw [e₂]; rfl
  rw [q₂]
  have p12 := p₁.trans p₂
  refine useES h2 X₂ hb₂ (fun k μ₃ β₃ y s₃ e₃ p₃ r₃ hb₃ X₃ => ?_) fun u s₁ q => q.after (p12.own X.env.live) X₂.env.live
  have q₃ : ((di (P.cx n) ρ μ₂).thenS ρ fun k μ => match putItem μ a k v with
    | some μ => .next ρ μ
    | Option.none => .bad) = match putItem μ₃ a k v with
    | some μ => .next ρ μ
    | Option.none => .bad := by rw [e₃]; rfl
  rw [q₃]
  cases hp : putItem μ₃ a k v with
  | none => rw [hp] at hb₃; exact absurd rfl hb₃
  | some μ₄ =>
    refine put_ok X₃.inv (r₂.post X₂.inv p₃) r₃ ((r₁.post X₁.inv p₂).post X₂.inv p₃) hp fun s₄ p₄ => ?_
    exact .inl ⟨ρ, μ₄, β₃, rfl, rfl, ((p12.trans p₃).trans p₄).own X.env.live, X₃.env.post X₃.inv p₄⟩
end
end
end Mine
end
section
set_option autoImplicit false
set_option tactic.hygienic false
set_option backward.eqns.nonrecursive false
namespace Mine
noncomputable section
open PySem PyProof.Rows PySem.SeqAt

noncomputable def boolsOf : List V → Option (List Bool)
  | [] => some []
  | .bool b :: r => (boolsOf r).map (b :: ·)
  | _ :: _ => Option.none
noncomputable def bZip (f : Bool → Bool → Bool) (μ : Mem) (a b : V) : R V := match a, b with
  | .ref i, .ref j => match μ[i]?, μ[j]? with
    | some (.list xs), some (.list ys) => match boolsOf xs, boolsOf ys with
      | some bs, some cs => newL μ ((List.zipWith f bs cs).map V.bool)
      | _, _ => .bad
    | _, _ => .bad
  | _, _ => .bad

section
variable {P : Pg} {B : Blk} {A : Around}

theorem zipLoop {z C D : Addr} {fp wr : List Addr} {n : Nat} {bs cs : Nat → Bool} {Pt : Nat → Array Value → Prop} {St : Nat → Heap → Prop} {Mid : Nat → Addr → Heap → Prop} {cenv : Env} {x1 x2 : Str} {p1 p2 pt : Pos} {kt : Nat} {iter elt : Expr} {scope : Scope} {pos : Pos} {f : Bool → Bool → Bool}
    (W : WalksT P.prog P.w A z fp wr n Pt St Mid) (hPt : ∀ i v, Pt i v → v = #[.bool (bs i), .bool (cs i)]) (hh : A.handled = none) (hC : cenv.locals = C) (hkd : cenv.scope.kind = .function) (hk1 : cenv.kindOf x1 = some .local) (hk2 : cenv.kindOf x2 = some .local) (hx : x1 ≠ x2)
    (hCf : C ∉ fp) (hDf : D ∉ fp) (hDC : D ≠ C) (hn : n ≤ lim)
    (helt : ∀ s m b c (Q : Value → Shared → Prop) (E : Value → Shared → Prop), s.heap.Ns C m → m x1 = some (.bool b) → m x2 = some (.bool c) → Q (.bool (f b c)) s → wpAny P.M A (eval elt cenv) Q E s) :
    ∀ (k i : Nat) (s : Shared) (acc : Array Value) (cnt : Nat) (m : Str → Option Value) (R : Result → Shared → Prop), n - i = k → i ≤ n → St i s.heap → s.heap.Ns C m → IsL s.heap D acc cnt → acc.size = i →
      (∀ h' tk acc' cnt' m', (∀ b o, b ∉ wr → b ≠ C → b ≠ D → s.heap.get? b = some o → h'.get? b = some o) → h'.Ns C m' → IsL h' D acc' cnt' → acc'.toList = acc.toList ++ (List.range' i (n - i)).map (fun j => Value.bool (f (bs j) (cs j))) → R (.ok .next) { s with heap := h', toks := tk }) →
      codeAny P.M A (.compLoop (.ListComp elt [⟨.Tuple [.Name x1 p1, .Name x2 p2] kt pt, iter, [], 0⟩] scope pos) 0 (.ref z) (.ref D) cenv) R s := by
  have hp : (cenv.scope.kind == .class || (cenv.scope.kind == .module && cenv.locals != cenv.globals)) = false := by rw [hkd]; rfl
  have hCw : C ∉ wr := fun q => hCf (W.sub C q)
  have hDw : D ∉ wr := fun q => hDf (W.sub D q)
  intro k
  induction k with
  | zero =>
    intro i s acc cnt m R hk hi hst hns hD hacc hR
    obtain rfl : i = n := by omega
    refine codeAny_of_tree ?_
    show wpAny P.M A ((compTurn (.ListComp elt [⟨.Tuple [.Name x1 p1, .Name x2 p2] kt pt, iter, [], 0⟩] scope pos) 0 (.ref z) (.ref D) cenv).onRaise (fun x => do noteFrame x cenv; theTreesLotGoes x)) _ _ s
    refine wpAny_noted ?_
    rw [compTurn_list]
    refine wpAny_bind (wpAny_standAt (wpAny_bind (W.done s _ _ hst fun h' tk hkp => wpAny_pure ?_)))
    refine hR h' tk acc cnt m (fun b o hb _ _ e => hkp b o hb e) (hns.at' fun o e => hkp C o hCw e) (hkp D _ hDw hD) (by simp)
  | succ k ih =>
    intro i s acc cnt m R hk hi hst hns hD hacc hR
    have hlt : i < n := by omega
    refine codeAny_of_tree ?_
    show wpAny P.M A ((compTurn (.ListComp elt [⟨.Tuple [.Name x1 p1, .Name x2 p2] kt pt, iter, [], 0⟩] scope pos) 0 (.ref z) (.ref D) cenv).onRaise (fun x => do noteFrame x cenv; theTreesLotGoes x)) _ _ s
    refine wpAny_noted ?_
    rw [compTurn_list]
    refine wpAny_bind (wpAny_standAt (wpAny_bind (W.item i s _ _ hlt hst fun T vals h₁ tk₁ hP hT hTup hM k₁ => ?_)))
    obtain rfl := hPt i vals hP
    refine wpAny_bind (W.go _ _ _ i T _ _ _ hM fun h₂ hst₂ k₂ => ?_)
    have hTw : T ∉ wr := W.apart _ _ _ hM
    have hTup₂ : h₂.IsTuple T #[.bool (bs i), .bool (cs i)] := hTup.at fun o e => k₂ T o hTw e
    refine wpAny_bind (wpAny_assign_Tuple hh hTup₂ rfl rfl fun h₃ k₃ => ?_)
    have k₃' : ∀ b o, h₂.get? b = some o → h₃.get? b = some o := fun b o e => k₃ b o (fun q => by rw [q] at e; exact absurd (Heap.lt_size e) (Nat.lt_irrefl _)) e
    have hn₃ : h₃.Ns C m := hns.at' fun o e => k₃' C o (k₂ C o hCw (k₁ C o hCw e))
    show wpAny P.M A (holding _ (assign (.Name x1 p1) cenv (.bool (bs i))) >>= fun _ => holding _ (assign (.Name x2 p2) cenv (.bool (cs i))) >>= fun _ => pure ()) _ _ _
    subst hC
    refine wpAny_bind (wpAny_holding (wpAny_assign_Name (wpAny_storeName_local hk1 hn₃ (fun h₄ hn₄ hs₄ => ?_) hp)))
    refine wpAny_bind (wpAny_holding (wpAny_assign_Name (wpAny_storeName_local hk2 hn₄ (fun h₅ hn₅ hs₅ => ?_) hp)))
    have kk : ∀ b o, b ∉ wr → b ≠ cenv.locals → s.heap.get? b = some o → h₅.get? b = some o := fun b o hb hbC e => (hs₅.2 b hbC).trans ((hs₄.2 b hbC).trans (k₃' b o (k₂ b o hb (k₁ b o hb e))))
    have hD₅ : IsL h₅ D acc cnt := kk D _ hDw hDC hD
    have hst₅ : St (i + 1) h₅ := W.frame _ _ _ hst₂ fun b hb o e => by
      have hbC : b ≠ cenv.locals := fun q => hCf (q ▸ hb)
      exact (hs₅.2 b hbC).trans ((hs₄.2 b hbC).trans (k₃' b o e))
    refine wpAny_pure (wpAny_bind (wpAny_tests_nil ?_))
    rw [if_pos rfl]
    refine wpAny_bind (wpAny_bind (helt _ _ (bs i) (cs i) _ _ hn₅ (by simp [hx]) (by simp) ?_))
    refine wpAny_bind (append_exact hD₅ (wpAny_pure (wpAny_pure ⟨rfl, ?_⟩)) (lim_line (by omega)))
    have hs₆ : Heap.SameBut D h₅ (h₅.update D (Obj.mapSeq fun a => a.push (.bool (f (bs i) (cs i))))) := Heap.SameBut.update ..
    refine ih (i + 1) _ _ _ _ R (by omega) hlt (W.frame _ _ _ hst₅ fun b hb o e => (hs₆.2 b fun q => hDf (q ▸ hb)).trans e) (hn₅.sameBut hs₆ (Ne.symm hDC)) (IsL.update hD₅ _) (by simp [hacc]) fun h' tk acc' cnt' m' kf hn' hD' hacc' => ?_
    refine hR h' tk acc' cnt' m' (fun b o hb hbC hbD e => kf b o hb hbC hbD ((hs₆.2 b hbD).trans (kk b o hb hbC e))) hn' hD' ?_
    rw [hacc', Array.toList_push, List.append_assoc]
    congr 1
    have : n - i = (n - (i + 1)) + 1 := by omega
    rw [this, List.range'_succ]; rfl
end
end
end Mine
end
section
set_option autoImplicit false
set_option tactic.hygienic false
set_option backward.eqns.nonrecursive false
namespace Mine
noncomputable section
open PySem PyProof.Rows PySem.SeqAt

section
variable {P : Pg} {B : Blk}

theorem bools_vals {β : Bk} {h : Heap} : ∀ {xs : List V} {vs : List Value} {bs : List Bool}, RelL P.toPl β h xs vs → boolsOf xs = some bs → vs = bs.map Value.bool
  | _, _, _, .nil, hs => by cases hs; rfl
  | _, _, ts, .cons (v := v) (vs := r) a b, hs => by
    cases v with
    | bool c =>
      simp only [boolsOf] at hs
      cases hr : boolsOf r with
      | none => rw [hr] at hs; cases hs
      | some us =>
        rw [hr] at hs; cases hs
        rw [bools_vals b hr, a.bool']; rfl
    | _ => cases hs
theorem bools_rel {β : Bk} {h : Heap} : ∀ (bs : List Bool), RelL P.toPl β h (bs.map V.bool) (bs.map Value.bool)
  | [] => .nil
  | b :: r => .cons (.bool b) (bools_rel r)

theorem zip_range (f : Bool → Bool → Bool) (bs cs : List Bool) : (List.range' 0 (min bs.length cs.length)).map (fun j => Value.bool (f (bs[j]?.getD false) (cs[j]?.getD false))) = (List.zipWith f bs cs).map Value.bool := by
  apply List.ext_getElem
  · simp
  · intro i h1 h2
    simp at h1 h2
    have l1 : i < bs.length := by omega
    have l2 : i < cs.length := by omega
    simp [List.getElem?_eq_getElem l1, List.getElem?_eq_getElem l2]

noncomputable def EltOk (P : Pg) (scope : Scope) (x1 x2 : Str) (elt : Expr) (f : Bool → Bool → Bool) : Prop :=
  ∀ (A : Around) (env : Env) s m b c (Q : Value → Shared → Prop) (E : Value → Shared → Prop), env.scope.kind = .function → env.kindOf x1 = some .local → env.kindOf x2 = some .local → s.heap.Ns env.locals m → m x1 = some (.bool b) → m x2 = some (.bool c) → Q (.bool (f b c)) s → wpAny P.M A (eval elt env) Q E s
theorem EltOk.and {scope : Scope} {x1 x2 : Str} {p q r : Pos} (h1 : (x1 == ("__debug__" : Str)) = false) (h2 : (x2 == ("__debug__" : Str)) = false) : EltOk P scope x1 x2 (.BoolOp .And [.Name x1 p, .Name x2 q] r) (· && ·) := fun A env s m b c Q E hk k1 k2 hn e1 e2 h => by
  refine wpAny_And2 (wpAny_Name (wpAny_loadName_local hk k1 hn e1 (wpAny_truthy_bool ?_)) h1)
  cases b with
  | true => exact wpAny_Name (wpAny_loadName_local hk k2 hn e2 h) h2
  | false => exact h
theorem EltOk.or {scope : Scope} {x1 x2 : Str} {p q r : Pos} (h1 : (x1 == ("__debug__" : Str)) = false) (h2 : (x2 == ("__debug__" : Str)) = false) : EltOk P scope x1 x2 (.BoolOp .Or [.Name x1 p, .Name x2 q] r) (· || ·) := fun A env s m b c Q E hk k1 k2 hn e1 e2 h => by
  refine wpAny_Or2 (wpAny_Name (wpAny_loadName_local hk k1 hn e1 (wpAny_truthy_bool ?_)) h1)
  cases b with
  | true => exact h
  | false => exact wpAny_Name (wpAny_loadName_local hk k2 hn e2 h) h2

inductive ZipAt (β : Bk) (μ : Mem) (h : Heap) (f : Bool → Bool → Bool) (a b : V) (u v : Value) : Prop
  | mk (l1 l2 : Addr) (vs ws : Array Value) (nv nw : Nat) (bs cs : List Bool) (h0 : u = .ref l1) (h1 : v = .ref l2) (h2 : h.get? l1 = some ⟨.type "list", none, .seq vs nv, #[]⟩) (h3 : h.get? l2 = some ⟨.type "list", none, .seq ws nw, #[]⟩) (h4 : vs = (bs.map Value.bool).toArray) (h5 : ws = (cs.map Value.bool).toArray) (h6 : bs.length ≤ lim) (h7 : bZip f μ a b = newL μ ((List.zipWith f bs cs).map V.bool))
inductive ZipIn (f : Bool → Bool → Bool) (μ : Mem) (a b : V) : Prop
  | mk (i j : Nat) (xs ys : List V) (bs cs : List Bool) (ea : a = .ref i) (eb : b = .ref j) (h1 : μ[i]? = some (.list xs)) (h2 : μ[j]? = some (.list ys)) (e1 : boolsOf xs = some bs) (e2 : boolsOf ys = some cs) (e : bZip f μ a b = newL μ ((List.zipWith f bs cs).map V.bool))
set_option tactic.hygienic true in
theorem zip_in {f : Bool → Bool → Bool} {μ : Mem} {a b : V} (hb : bZip f μ a b ≠ .bad) : ZipIn f μ a b := by
  cases a with
  | ref i => cases b with
    | ref j =>
      simp only [bZip] at hb
      split at hb
      · rename_i xs ys h1 h2
        split at hb
        · rename_i bs cs e1 e2
          exact ⟨i, j, xs, ys, bs, cs, rfl, rfl, h1, h2, e1, e2, by simp only [bZip, h1, h2, e1, e2]⟩
        · exact absurd rfl hb
      · exact absurd rfl hb
    | _ => exact absurd rfl hb
  | _ => exact absurd rfl hb
theorem zip_facts {β : Bk} {μ : Mem} {h : Heap} {a b : V} {u v : Value} {f : Bool → Bool → Bool} (I : Inv P.toPl β μ h) (ra : Rel P.toPl β h a u) (rb : Rel P.toPl β h b v) (hb : bZip f μ a b ≠ .bad) : ZipAt β μ h f a b u v := by
  obtain ⟨i, j, xs, ys, bs, cs, rfl, rfl, h1, h2, e1, e2, e⟩ := zip_in hb
  obtain ⟨l1, vs, nv, rfl, a1, a2, a3⟩ := I.lst ra h1
  obtain ⟨l2, ws, nw, rfl, b1, b2, _⟩ := I.lst rb h2
  refine ⟨l1, l2, vs, ws, nv, nw, bs, cs, rfl, rfl, a1, b1, by rw [← bools_vals a2 e1], by rw [← bools_vals b2 e2], ?_, e⟩
  have := a2.length
  rw [bools_vals a2 e1, List.length_map] at this
  rw [← this]; exact a3

theorem SimE.zip {e1 e2 elt : Expr} {d1 d2 : DE} {x1 x2 : Str} {p1 p2 pt p cp : Pos} {kt : Nat} {scope : Scope} {pos : Pos} {f : Bool → Bool → Bool} (hel : EltOk P scope x1 x2 elt f) (hkind : scope.kind = .function) (hnames : ∀ x ∈ scope.names, x.2 = .local → scope.names.lookup x.1 = some .local) (hnocell : ∀ x ∈ scope.names, x.2 ≠ .cell)
    (hnofree : ∀ x ∈ scope.names, x.2 ≠ .free) (hx1 : scope.names.lookup x1 = some .local) (hx2 : scope.names.lookup x2 = some .local) (hx : x1 ≠ x2) (hz : B.sc.names.lookup (Str.ofString "zip") = some .globalImplicit) (hp : plainArgs [e1, e2] = true)
    (hn1 : ∀ env, starEach [e1, e2] env = (false, eval e1 env) :: starEach [e2] env) (hn2 : ∀ env, starEach [e2] env = [(false, eval e2 env)]) (h1 : SimE P B e1 d1) (h2 : SimE P B e2 d2) :
    SimE P B (.ListComp elt [⟨.Tuple [.Name x1 p1, .Name x2 p2] kt pt, .Call (.Name (Str.ofString "zip") p) [e1, e2] [] cp, [], 0⟩] scope pos) (dB2 (bZip f) d1 d2) := fun n A env β ρ μ s X hb => by
  rw [eval_ListComp]
  refine wpAny_comprehension_free (use := Option.none) rfl (fun _ => rfl) (closure_of (env := env) fun y hy => absurd rfl (hnofree _ hy)) hkind hnames ?_
  refine Call_Name rfl (X.blt hz (by decide) (by decide) (v := .type "zip") (by decide) ?_)
  refine callWith_plain (fun _ q => by cases q) (plain_trees hp) ?_
  refine wpAny_items_cons (useE h1 X hb (fun a μ₁ β₁ u s₁ e₁ p₁ r₁ hb₁ X₁ => ?_) fun u s₁ q => q) (hn1 env)
  have q₁ : dB2 (bZip f) d1 d2 (P.cx n) ρ μ = (d2 (P.cx n) ρ μ₁).bind fun u μ => bZip f μ a u := by simp only [dB2, e₁]; rfl
  rw [q₁]
  refine wpAny_items_cons (useE h2 X₁ hb₁ (fun b μ₂ β₂ v s₂ e₂ p₂ r₂ hb₂ X₂ => ?_) fun u s₁ q => q.after p₁) (hn2 env)
  refine wpAny_items_nil ?_
  have q₂ : ((d2 (P.cx n) ρ μ₁).bind fun u μ => bZip f μ a u) = bZip f μ₂ a b := by rw [e₂]; rfl
  rw [q₂]
  have p12 := p₁.trans p₂
  have ra := r₁.post X₁.inv p₂
  obtain ⟨l1, l2, vs, ws, nv, nw, bs, cs, rfl, rfl, a1, b1, hvs, hws, lz1, ez⟩ := zip_facts X₂.inv ra r₂ hb₂
  rw [ez]
  have lx : vs.size = bs.length := by rw [hvs]; simp
  have ly : ws.size = cs.length := by rw [hws]; simp
  have lt1 := Heap.lt_size a1
  have lt2 := Heap.lt_size b1
  refine call_zip_2 ⟨_, a1, rfl, nv, rfl⟩ ⟨_, b1, rfl, nw, rfl⟩ fun h₃ z1 z2 z3 z4 z5 z6 z7 => ?_
  refine wpAny_pyIter_zip z1 ?_
  refine wpAny_newList ?_
  have fr : ∀ {a : Addr}, s₂.heap.objs.size ≤ a → s₂.heap.get? a = Option.none := fun {a} ha => by
    cases e : s₂.heap.get? a with
    | none => rfl
    | some o => exact absurd (Heap.lt_size e) (Nat.not_lt.mpr ha)
  have hD₄ := Heap.get?_push_size h₃ (o := { cls := .type "list", data := .seq ([] : List Value).toArray }) rfl
  refine wpAny_newFunctionEnv hnocell (by intro y hy; simp at hy) (fun h₅ hn₅ hsb₅ => ?_) hkind
  dsimp only at hn₅ hsb₅ ⊢
  generalize hH4 : h₃.push { cls := .type "list", data := .seq ([] : List Value).toArray } = h₄ at hn₅ hsb₅ hD₄ ⊢
  have hDn : s₂.heap.get? h₃.objs.size = Option.none := fr (by rw [z6]; exact Nat.le_add_right _ _)
  have hC4 : h₄.get? h₄.objs.size = Option.none := get_size _
  have k34 : ∀ a o, h₃.get? a = some o → h₄.get? a = some o := fun a o e => by rw [← hH4]; exact Heap.get?_push_of_some _ e
  have k45 : ∀ a o, h₄.get? a = some o → h₅.get? a = some o := fun a o e => (hsb₅.2 a fun q => by rw [q, hC4] at e; cases e).trans (Heap.get?_push_of_some _ e)
  have hCn : s₂.heap.get? h₄.objs.size = Option.none := by
    cases e : s₂.heap.get? h₄.objs.size with
    | none => rfl
    | some o => rw [k34 _ _ (z7 _ _ e)] at hC4; cases hC4
  have hDC : h₃.objs.size ≠ h₄.objs.size := fun q => by rw [q] at hD₄; rw [hC4] at hD₄; cases hD₄
  have Wk := WalksT.zip2 (prog := P.prog) (w := P.w) (A := A) X.room.2.2 _ _ _ _ _ l1 l2 (zipApart_new lt1 lt2) vs ws
  have st₃ : _ ∧ _ := (⟨z1, z2, ⟨_, _, z3⟩, z4, z5, ⟨_, z7 _ _ a1, rfl, nv, rfl⟩, ⟨_, z7 _ _ b1, rfl, nw, rfl⟩⟩ : IsZip h₃ _ _ _ Value.none ∧ IsPair h₃ _ _ _ ∧ (∃ a b, IsPair h₃ _ a b) ∧ h₃.IsListIter _ l1 0 ∧ h₃.IsListIter _ l2 0 ∧ h₃.IsList l1 vs ∧ h₃.IsList l2 ws)
  have st₅ := Wk.frame 0 h₃ h₅ st₃ fun b _ o e => k45 b o (k34 b o e)
  have live : ∀ b ∈ [s₂.heap.objs.size + 4, s₂.heap.objs.size + 2, s₂.heap.objs.size + 3, s₂.heap.objs.size, s₂.heap.objs.size + 1, l1, l2], ∃ o, h₃.get? b = some o := fun b hb => by
    simp only [List.mem_cons, List.not_mem_nil, or_false] at hb
    rcases hb with rfl | rfl | rfl | rfl | rfl | rfl | rfl
    · exact ⟨_, z1⟩
    · exact ⟨_, z2⟩
    · exact ⟨_, z3⟩
    · exact let ⟨o, e, _⟩ := z4; ⟨o, e⟩
    · exact let ⟨o, e, _⟩ := z5; ⟨o, e⟩
    · exact ⟨_, z7 _ _ a1⟩
    · exact ⟨_, z7 _ _ b1⟩
  have ck1 : (compEnvC scope (clOf env scope.names []) h₄.objs.size env).kindOf x1 = some .local := lookup_relabel_local hx1
  have ck2 : (compEnvC scope (clOf env scope.names []) h₄.objs.size env).kindOf x2 = some .local := lookup_relabel_local hx2
  have loop : codeAny P.M A (.compLoop (.ListComp elt [⟨.Tuple [.Name x1 p1, .Name x2 p2] kt pt, .Call (.Name (Str.ofString "zip") p) [e1, e2] [] cp, [], 0⟩] scope pos) 0 (.ref (s₂.heap.objs.size + 4)) (.ref h₃.objs.size) (compEnvC scope (clOf env scope.names []) h₄.objs.size env))
      (compPost P.M A (ExE P.toPl env.frame β s (newL μ₂ ((List.zipWith f bs cs).map V.bool))) Option.none (OkE P.toPl β s (newL μ₂ ((List.zipWith f bs cs).map V.bool))) (.ref h₃.objs.size) h₄.objs.size) { s₂ with heap := h₅, toks := s₂.toks + ([] : List (Str × Value)).length } := by
    refine zipLoop (f := f) (bs := fun i => bs[i]?.getD false) (cs := fun i => cs[i]?.getD false) Wk (fun i v hv => ?_) X.room.2.2 (C := h₄.objs.size) rfl hkind ck1 ck2 hx (fun q => ?_) (fun q => ?_) hDC (by rw [lx, ly]; omega)
      (fun s m b c Q E hns m1 m2 hq => hel A (compEnvC scope (clOf env scope.names []) h₄.objs.size env) s m b c Q E hkind ck1 ck2 hns m1 m2 hq) _ 0 _ #[] _ _ _ rfl (Nat.zero_le _) st₅ hn₅ (k45 _ _ hD₄) rfl fun h₆ tk acc' cnt' m' kf hn' hD' hacc' => ?_
    · obtain ⟨x, y, ex, ey, rfl⟩ := hv
      rw [hvs] at ex
      rw [hws] at ey
      simp only [List.getElem?_toArray, List.getElem?_map, Option.map_eq_some_iff] at ex ey
      obtain ⟨b, eb, rfl⟩ := ex
      obtain ⟨c, ec, rfl⟩ := ey
      rw [eb, ec]; rfl
    · obtain ⟨o, e⟩ := live _ q
      rw [k34 _ _ e] at hC4; cases hC4
    · obtain ⟨o, e⟩ := live _ q
      rw [get_size] at e; cases e
    · refine ⟨m', hn', fun h₇ hs₇ => ?_⟩
      have hall : ∀ a o, s₂.heap.get? a = some o → h₇.get? a = some o := fun a o e => by
        have hlt := Heap.lt_size e
        have haC : a ≠ h₄.objs.size := fun q => by rw [q, hCn] at e; cases e
        refine (hs₇.2 a haC).trans (kf a o (fun q => ?_) haC (fun q => by rw [q, hDn] at e; cases e) (k45 a o (k34 a o (z7 a o e))))
        simp only [List.mem_cons, List.not_mem_nil, or_false] at q
        rcases q with rfl | rfl | rfl | rfl
        · rw [fr (Nat.le_add_right _ _)] at e; cases e
        · rw [fr (Nat.le_add_right _ _)] at e; cases e
        · rw [fr (Nat.le_refl _)] at e; cases e
        · rw [fr (Nat.le_add_right _ _)] at e; cases e
      have p7 : Post P.toPl β₂ β₂ μ₂ s₂ { s₂ with heap := h₇, toks := tk } := Post.other X₂.inv tk hall
      have hzl : (List.zipWith f bs cs).length ≤ lim := by simp; omega
      have hD₇ : IsL h₇ h₃.objs.size acc' cnt' := (hs₇.2 _ hDC).trans hD'
      have hacc : acc'.toList = (List.zipWith f bs cs).map Value.bool := by
        rw [hacc', lx, ly, Nat.sub_zero]
        exact zip_range f bs cs
      have hDb : h₃.objs.size ∉ β₂ := fun q => by
        obtain ⟨ob, e, _⟩ := X₂.inv.there q
        rw [hDn] at e; cases e
      have hD0 : P.h₀.get? h₃.objs.size = Option.none := by
        cases e : P.h₀.get? h₃.objs.size with
        | none => rfl
        | some o => rw [X₂.inv.base _ _ e] at hDn; cases hDn
      refine OkE.after p12 ⟨.ref μ₂.length, μ₂ ++ [.list ((List.zipWith f bs cs).map V.bool)], β₂ ++ [h₃.objs.size], by simp only [newL, List.length_map, hzl, if_true], Post.adopt p7 hDb hDn hD0 hD₇ (by rw [hacc]; exact bools_rel _) (by simpa using hzl), .ref ?_⟩
      rw [← X₂.inv.len, List.getElem?_append_right (Nat.le_refl _)]; simp
  exact codeAny_compStart_list loop (wpAny_pyIter_zip (k45 _ _ (k34 _ _ z1)) loop)
end
end
end Mine
end
section
set_option autoImplicit false
set_option tactic.hygienic false
set_option backward.eqns.nonrecursive false
namespace Mine
noncomputable section
open PySem

noncomputable def cellsB (xc : Option Str) : List (Str × NameKind) → Bool
  | [] => xc.isNone
  | (n, k) :: r => if k == .cell then xc == some n && cellsB none r else cellsB xc r
theorem cells_of : ∀ {names : List (Str × NameKind)} {xc : Option Str}, cellsB xc names = true → (∀ n acc, cellsFrom n names acc = ncl xc n ++ acc) ∧ ∀ h : Heap, (∀ a o, h.get? a = some o → (pushCells h names).get? a = some o) ∧ ∀ y, xc = some y → (pushCells h names).IsCell h.objs.size none
  | [], xc, hr => by
    cases xc with
    | none => exact ⟨fun _ _ => rfl, fun _ => ⟨fun _ _ e => e, fun _ q => by cases q⟩⟩
    | some _ => cases hr
  | (x, k) :: r, xc, hr => by
    unfold cellsB at hr
    unfold cellsFrom pushCells
    by_cases hk : (k == NameKind.cell) = true
    · rw [if_pos hk, Bool.and_eq_true] at hr
      obtain ⟨i1, i2⟩ := cells_of hr.2
      obtain rfl := beq_iff_eq.mp hr.1
      simp only [hk, if_true]
      exact ⟨fun n acc => i1 _ _, fun h => ⟨fun a o e => (i2 _).1 a o (Heap.get?_push_of_some _ e), fun _ _ => ⟨_, (i2 _).1 _ _ (Heap.get?_push_size _ rfl), rfl⟩⟩⟩
    · rw [if_neg hk] at hr
      simp only [hk, Bool.false_eq_true, if_false]
      exact cells_of hr
noncomputable def kB (x : Str) : Option (Str × NameKind) → Bool
  | some (y, k) => y == x && (k == .cell || k == .free)
  | none => false
theorem kB_of {x : Str} {e : Option (Str × NameKind)} (h : kB x e = true) : ∃ k : NameKind, e = some (x, k) ∧ (k = .cell ∨ k = .free) := by
  cases e with
  | none => cases h
  | some p =>
    obtain ⟨y, k⟩ := p
    simp only [kB, Bool.and_eq_true, Bool.or_eq_true, beq_iff_eq] at h
    obtain ⟨rfl, hk⟩ := h
    exact ⟨k, rfl, hk⟩
noncomputable def compB (B : Blk) (tab : List (Option (Str × NameKind))) (scope : Scope) (locs : List Nat) (xc : Option Str) : Bool :=
  scope.kind == .function && scope.names.all (fun x => !(x.2 == .local) || scope.names.lookup x.1 == some .local) && cellsB xc scope.names && Blk.ok ⟨relabelS scope B.sc, tab⟩ &&
  scope.names.all (fun x => !(x.2 == .free) || (!(xc == some x.1) && B.tab.any (kB x.1))) &&
  (List.range tab.length).all (fun i => match tab[i]? with
    | some (some (x, k)) => if k == .cell || k == .free then (xc == some x && locs.contains i) || (scope.names.contains (x, .free) && kB x (B.tab[i]?.getD none)) else locs.contains i
    | _ => true)
theorem CompOk.of {B : Blk} {tab : List (Option (Str × NameKind))} {scope : Scope} {locs : List Nat} {xc : Option Str} (h : compB B tab scope locs xc = true) : CompOk B ⟨relabelS scope B.sc, tab⟩ scope locs xc := by
  simp only [compB, Bool.and_eq_true] at h
  obtain ⟨⟨⟨⟨⟨h1, h2⟩, h3⟩, h4⟩, h5⟩, h6⟩ := h
  have h6 : ∀ (i : Nat) (x : Str) (k : NameKind), tab[i]? = some (some (x, k)) → (if k == .cell || k == .free then (xc == some x && locs.contains i) || (scope.names.contains (x, .free) && kB x (B.tab[i]?.getD none)) else locs.contains i) = true := fun i x k ht => by
    have := List.all_eq_true.mp h6 i (List.mem_range.mpr (List.getElem?_eq_some_iff.mp ht).1)
    rw [ht] at this
    exact this
  refine ⟨beq_iff_eq.mp h1, fun x hx hl => ?_, cells_of h3, h4, rfl, fun x hx => ?_, fun i x k ht hk => ?_, fun i x ht => ?_⟩
  · have := List.all_eq_true.mp h2 x hx
    rw [hl] at this
    exact beq_iff_eq.mp this
  · have := List.all_eq_true.mp h5 (x, .free) hx
    rw [show (!((x, NameKind.free).2 == NameKind.free)) = false from rfl, Bool.false_or, Bool.and_eq_true] at this
    refine ⟨fun q => ?_, ?_⟩
    · rw [q, beq_self_eq_true] at this; cases this.1
    · obtain ⟨e, he, hq⟩ := List.any_eq_true.mp this.2
      obtain ⟨k, rfl, hk⟩ := kB_of hq
      obtain ⟨i, hi⟩ := List.getElem?_of_mem he
      exact ⟨i, k, hi, hk⟩
  · have := h6 i x k ht
    rw [if_pos (by rcases hk with rfl | rfl <;> rfl), Bool.or_eq_true, Bool.and_eq_true, Bool.and_eq_true] at this
    rcases this with ⟨a, b⟩ | ⟨a, b⟩
    · exact .inl ⟨beq_iff_eq.mp a, List.contains_iff_mem.mp b⟩
    · refine .inr ⟨List.contains_iff_mem.mp a, ?_⟩
      obtain ⟨k', e, hk'⟩ := kB_of b
      refine ⟨k', ?_, hk'⟩
      cases hB : B.tab[i]? with
      | none => rw [hB] at e; cases e
      | some e' => rw [hB] at e; exact congrArg some e
  · have := h6 i x .local ht
    rw [if_neg (by decide)] at this
    exact List.contains_iff_mem.mp this

set_option tactic.hygienic true in
theorem cb1_keeps (i : Nat) : ∀ v ρ ρ', cb1 i v ρ = some ρ' → ∀ j w, ρ j = some w → ρ' j = some w := fun v ρ ρ' h j w hw => by
  simp only [cb1] at h
  split at h
  · rename_i hi
    cases h
    by_cases q : j = i
    · subst q; rw [hi] at hw; cases hw
    · rw [Fr.set_ne _ _ q]; exact hw
  · cases h

noncomputable def zipB (scope : Scope) (x1 x2 : Str) : Bool :=
  scope.kind == .function && scope.names.all (fun x => !(x.2 == .local) || scope.names.lookup x.1 == some .local) && scope.names.all (fun x => !(x.2 == .cell) && !(x.2 == .free)) && scope.names.lookup x1 == some .local && scope.names.lookup x2 == some .local && !(x1 == x2)
noncomputable def fnB (sc : Scope) (tab : List (Option (Str × NameKind))) (ps : List Str) : Bool :=
  Blk.ok ⟨sc, tab⟩ && (List.range ps.length).all (fun i => match ps[i]?, tab[i]? with
    | some x, some (some (y, k)) => x == y && (k == .local || k == .cell)
    | _, _ => false) && tab.all (fun e => match e with | some (_, k) => !(k == .free) | none => true) && decide (((cellsFrom 0 sc.names []).map (·.1)).Nodup) && !sc.isCoroutine && !sc.isGenerator
theorem FnOk.of {P : Pg} {f : Nat} {F : Fn} {tab : List (Option (Str × NameKind))} {ps : List Str} {bd : List Stmt} {sc : Scope} (hs : (P.fd f).scope = sc) (hb : (P.fd f).body = .stmts bd) (h : fnB sc tab ps = true) (hnp : ps.length = F.np)
    (hbind : ∀ vals : List Value, vals.length = F.np → bindArgs (P.fd f) ⟨vals, []⟩ = pure (ps.zip vals)) (sim : SimS P ⟨sc, tab⟩ bd F.body) : FnOk P f F tab ps bd := by
  subst hs
  simp only [fnB, Bool.and_eq_true, decide_eq_true_eq, Bool.not_eq_true'] at h
  obtain ⟨⟨⟨⟨⟨h1, h2⟩, h3⟩, h4⟩, h5⟩, h6⟩ := h
  refine ⟨hb, h1, hnp, fun i x hx => ?_, fun i x ht => ?_, hbind, h4, h5, h6, sim⟩
  · have := List.all_eq_true.mp h2 i (List.mem_range.mpr (List.getElem?_eq_some_iff.mp hx).1)
    rw [hx] at this
    cases ht : tab[i]? with
    | none => rw [ht] at this; cases this
    | some e =>
      rw [ht] at this
      cases e with
      | none => cases this
      | some p =>
        obtain ⟨y, k⟩ := p
        simp only [Bool.and_eq_true, Bool.or_eq_true, beq_iff_eq] at this
        obtain ⟨rfl, hk⟩ := this
        exact ⟨k, rfl, hk⟩
  · have := List.all_eq_true.mp h3 _ (List.mem_of_getElem? ht)
    cases this

theorem i_append : MId .list (Str.ofString "append") "list.append" := ⟨F.slot_list_append, F.type_list_append⟩
theorem i_join : MId .str (Str.ofString "join") "str.join" := ⟨F.slot_str_join, F.type_str_join⟩
theorem SimE.len {P : Pg} {B : Blk} {e : Expr} {d : DE} {p pos : Pos} (hx : B.sc.names.lookup (Str.ofString "len") = some .globalImplicit) (hp : plainArgs [e] = true) (hn : ∀ env, starEach [e] env = [(false, eval e env)]) (h : SimE P B e d) : SimE P B (.Call (.Name (Str.ofString "len") p) [e] [] pos) (dB1 bLen d) :=
  SimE.b1 len_ok (fun _ q => by cases q) hx (by decide) (by decide) (by decide) hp hn h
theorem SimE.listOf {P : Pg} {B : Blk} {e : Expr} {d : DE} {p pos : Pos} (hx : B.sc.names.lookup (Str.ofString "list") = some .globalImplicit) (hp : plainArgs [e] = true) (hn : ∀ env, starEach [e] env = [(false, eval e env)]) (h : SimE P B e d) : SimE P B (.Call (.Name (Str.ofString "list") p) [e] [] pos) (dB1 bList d) :=
  SimE.b1 list_ok (fun _ q => by cases q) hx (by decide) (by decide) (by decide) hp hn h
theorem SimE.tupleOf {P : Pg} {B : Blk} {e : Expr} {d : DE} {p pos : Pos} (hx : B.sc.names.lookup (Str.ofString "tuple") = some .globalImplicit) (hp : plainArgs [e] = true) (hn : ∀ env, starEach [e] env = [(false, eval e env)]) (h : SimE P B e d) : SimE P B (.Call (.Name (Str.ofString "tuple") p) [e] [] pos) (dB1 bTuple d) :=
  SimE.b1 tuple_ok (fun _ q => by cases q) hx (by decide) (by decide) (by decide) hp hn h
theorem SimE.allOf {P : Pg} {B : Blk} {e : Expr} {d : DE} {p pos : Pos} (hx : B.sc.names.lookup (Str.ofString "all") = some .globalImplicit) (hp : plainArgs [e] = true) (hn : ∀ env, starEach [e] env = [(false, eval e env)]) (h : SimE P B e d) : SimE P B (.Call (.Name (Str.ofString "all") p) [e] [] pos) (dB1 bAll d) :=
  SimE.b1 all_ok (fun _ q => by cases q) hx (by decide) (by decide) (by decide) hp hn h
end
end Mine
end
section
set_option autoImplicit false
set_option tactic.hygienic false
set_option backward.eqns.nonrecursive false
namespace Mine
noncomputable section
open PySem PyProof.Rows PySem.SeqAt

noncomputable def whileS (t : DT) (body : DS) (c : Cx) : Nat → Fr → Mem → RS
  | 0, _, _ => .bad
  | k + 1, ρ, μ => match t c ρ μ with
    | .ok b μ' => if b then match body c ρ μ' with
        | .next ρ'' μ'' => whileS t body c k ρ'' μ''
        | .ret v μ'' => .ret v μ''
        | .exc _ _ _ => .bad
        | .bad => .bad
      else .next ρ μ'
    | .exc _ _ => .bad
    | .bad => .bad
noncomputable def sWhile (k : Nat) (t : DT) (body : DS) : DS := fun c ρ μ => whileS t body c k ρ μ

section
variable {P : Pg} {B : Blk}

noncomputable def cIs (_ : Mem) (a : V) : V → Option Bool
  | .none => some (match a with | .none => true | _ => false)
  | _ => Option.none
noncomputable def cIsNot (μ : Mem) (a b : V) : Option Bool := (cIs μ a b).map (!·)
noncomputable def bInt (μ : Mem) : V → R V
  | .bool b => .ok (.int (if b then 1 else 0)) μ
  | _ => .bad
set_option tactic.hygienic true in
noncomputable def bExtend (μ : Mem) (a v : V) : R V := match a, v with
  | .ref i, .ref j => match μ[i]?, μ[j]? with
    | some (.list xs), some (.list ys) => if xs.length + ys.length ≤ lim then .ok .none (μ.set i (.list (xs ++ ys))) else .bad
    | _, _ => .bad
  | _, _ => .bad
inductive ExtIn (μ : Mem) (a v : V) : Prop
  | mk (i j : Nat) (xs ys : List V) (ea : a = .ref i) (ev : v = .ref j) (h1 : μ[i]? = some (.list xs)) (h2 : μ[j]? = some (.list ys)) (l : xs.length + ys.length ≤ lim) (e : bExtend μ a v = .ok .none (μ.set i (.list (xs ++ ys))))
set_option tactic.hygienic true in
noncomputable def bIndex (μ : Mem) (a v : V) : R V := match a with
  | .ref i => match μ[i]? with
    | some (.list xs) => match toD deep μ v, allD (toD deep μ) xs with
      | some d, some ds => match ds.findIdx? fun y => PyData.eqv y d with
        | some j => .ok (.int (j : Int)) μ
        | none => .bad
      | _, _ => .bad
    | _ => .bad
  | _ => .bad
inductive IdxIn (μ : Mem) (a v : V) : Prop
  | mk (i : Nat) (xs : List V) (d : PyData) (ds : List PyData) (j : Nat) (ea : a = .ref i) (hm : μ[i]? = some (.list xs)) (h1 : toD deep μ v = some d) (h2 : allD (toD deep μ) xs = some ds) (h3 : (ds.findIdx? fun y => PyData.eqv y d) = some j) (e : bIndex μ a v = .ok (.int (j : Int)) μ)
set_option tactic.hygienic true in
end
end
end Mine
end
section
set_option autoImplicit false
set_option tactic.hygienic false
set_option backward.eqns.nonrecursive false
namespace Mine
noncomputable section
open PySem PySem.W PyProof.Rows

structure FnIn (h : Heap) (mg : Str → Option Value) (nm : Str) (sc : Scope) (bd : List Stmt) (ps : List Str) (a : Addr) (fd : FuncData) : Prop where
  ns : mg nm = some (.ref a)
  obj : ∃ o, h.get? a = some o ∧ o.data = .func fd
  code : h.CodeRec fd.code fd.qualname
  name : fd.name = nm
  sc : fd.scope = sc
  bd : fd.body = .stmts bd
  cl : fd.closure = []
  gl : fd.globals = mainGlobals
  bt : fd.builtins = builtinsNs
  bind : ∀ vals : List Value, vals.length = ps.length → bindArgs fd ⟨vals, []⟩ = pure (ps.zip vals)
noncomputable def fnRec (q : Program) (nm : Str) : Option (Scope × List Stmt × Arguments) := ((recsOf q).find? fun d => d.name == nm).map fun d => (d.scope, d.body, d.params)
theorem fnIn_of {q : Program} {loose : List Str} {mean : ExcName → Option Value} {mg mb : Str → Option Value} {h : Heap} (T : Top q loose mean mg mb h) {nm : Str} {sc : Scope} {bd : List Stmt} {pa : Arguments} (ps : List Str) (hr : fnRec q nm = some (sc, bd, pa))
    (hb : ∀ (pm cd doc : Value) (vals : List Value), vals.length = ps.length → bindArgs (Calls.docDef nm pa bd sc pm cd doc) ⟨vals, []⟩ = pure (ps.zip vals)) : ∃ a fd, FnIn h mg nm sc bd ps a fd := by
  unfold fnRec at hr
  obtain ⟨d, hd, e⟩ := Option.map_eq_some_iff.mp hr
  have hn : d.name = nm := beq_iff_eq.mp (List.find?_some (p := fun d : DefRec => d.name == nm) hd)
  obtain ⟨a, o, pm, cd, doc, h1, h2, h3, h4⟩ := T.fn d (List.mem_of_find?_eq_some hd)
  simp only [Prod.mk.injEq] at e
  obtain ⟨rfl, rfl, rfl⟩ := e
  subst hn
  exact ⟨a, _, h1, ⟨o, h2, h3⟩, h4, rfl, rfl, rfl, rfl, rfl, rfl, hb pm cd doc⟩

noncomputable def freeB (q : Program) (loose : List Str) (x : Str) : Bool := !startupNames.contains x && !loose.contains x && !((recsOf q).map (·.name)).contains x && !((litsOf q).map (·.1)).contains x && !((clssOf q loose).map (·.name)).contains x
theorem free_of {q : Program} {loose : List Str} {mean : ExcName → Option Value} {mg mb : Str → Option Value} {h : Heap} (T : Top q loose mean mg mb h) {x : Str} (hx : freeB q loose x = true) : mg x = none := by
  simp only [freeB, Bool.and_eq_true, Bool.not_eq_true', List.contains_eq_mem, decide_eq_false_iff_not] at hx
  obtain ⟨⟨⟨⟨h1, h2⟩, h3⟩, h4⟩, h5⟩ := hx
  exact T.free x h1 h2 h3 h4 h5
theorem ints_rel {P : Pl} {β : Bk} {h : Heap} : ∀ {vs : List Value} {ns : List Int}, IntsAre vs ns → RelL P β h (ns.map V.int) vs
  | _, _, .nil => .nil
  | _, _, .cons n t r => .cons (.int n t) (ints_rel r)

theorem law_call {P : Pg} (G : Good P) (hF : ∀ f F, P.Φ f = some F → ∃ tab ps body, FnOk P f F tab ps body) {A : Around} {n f : Nat} {l : Addr} {vs : List Value} {ns : List Int} {μ' : Mem} {s : Shared} (hs : P.h₀ = s.heap) (room : Room A n) (hfr : A.frames = some []) (hl : s.heap.IsList l vs.toArray) (hi : IntsAre vs ns) (hn : ns.length ≤ 63)
    (hc : P.call n f [.scr ns] [] = .ok (.bool true) μ') :
    wpAny P.M A (PySem.call (.ref (P.fnA f)) [.ref l]) (fun v s' => v = .bool true ∧ ∃ h' tk, s' = { s with heap := h', toks := tk } ∧ ∀ a o, s.heap.get? a = some o → h'.get? a = some o) (fun _ _ => False) s := by
  have I : Inv P.toPl [] [] s.heap := ⟨rfl, List.nodup_nil, fun i o a e => by simp at e, fun a o e => by rw [← hs]; exact e, fun a ha => by cases ha⟩
  have hlen := hi.length
  have r : RelL P.toPl [] s.heap [.scr ns] [.ref l] := .cons (.scr (by rw [hs]; exact hl) (by simp only [List.size_toArray, lim]; omega) (ints_rel hi)) .nil
  refine wpAny_call (codeAny_mono (callOk G hF n n (Nat.le_refl n) f A [.scr ns] [.ref l] [] [] s room.c ⟨[], hfr, fun e he => by cases he⟩ I r (by rw [hc]; exact fun q => by cases q)) fun res s' q => ?_)
  match res, q with
  | .ok (.ret u), q =>
    obtain ⟨v, μ₁, β₁, e, p, rv⟩ := q
    rw [hc] at e; cases e
    cases rv
    obtain ⟨h', tk, e⟩ := p.st
    refine ⟨rfl, h', tk, e, fun a o ea => ?_⟩
    have := p.inv.base a o (by rw [hs]; exact ea)
    rw [e] at this; exact this
  | .ok .next, q => exact q.elim
  | .ok .brk, q => exact q.elim
  | .ok .cont, q => exact q.elim
  | .error u, q =>
    obtain ⟨c, μ₁, β₁, e, _⟩ := q
    rw [hc] at e; cases e

theorem good_end {c : ClaimW} {cl : Str → Option Addr} {mean : ExcName → Option Value} {args : List WData} {s₁ : Shared} {h : Heap} {tk : Nat} (hr : ∀ cls, c.raises args cls = false) (hp : c.post args (.bool true) args = true) (hb : AllBare s₁.gens)
    (hk : ∀ a o, s₁.heap.get? a = some o → h.get? a = some o) : GoodWG c cl mean args s₁ (.ok (.ret (.bool true))) { s₁ with heap := h, toks := tk } :=
  ⟨.inl ⟨_, _, [], rfl, hr, ReadsW.bool true, hp, fun _ => ⟨List.nodup_nil, fun _ hm => (nomatch hm)⟩⟩, .of_keep hk, rfl, hb⟩
theorem len_succ {α : Type} {l : List α} {n : Nat} (h : l.length = n + 1) : ∃ a r, l = a :: r ∧ r.length = n := by
  cases l with
  | nil => cases h
  | cons a r => exact ⟨a, r, rfl, Nat.succ.inj h⟩
theorem skolem {Φ : Nat → Option Fn} {p : Nat → Addr → FuncData → Prop} (h : ∀ f F, Φ f = some F → ∃ a d, p f a d) {f₀ : Nat} {F₀ : Fn} (h₀ : Φ f₀ = some F₀) : ∃ (A : Nat → Addr) (D : Nat → FuncData), ∀ f F, Φ f = some F → p f (A f) (D f) := by
  obtain ⟨a₀, d₀, _⟩ := h f₀ F₀ h₀
  have h' : ∀ f, ∃ x : Addr × FuncData, ∀ F, Φ f = some F → p f x.1 x.2 := fun f => by
    cases e : Φ f with
    | none => exact ⟨(a₀, d₀), fun F q => by cases q⟩
    | some F =>
      obtain ⟨a, d, k⟩ := h f F e
      exact ⟨(a, d), fun _ _ => k⟩
  exact ⟨fun f => (Classical.choose (h' f)).1, fun f => (Classical.choose (h' f)).2, fun f => Classical.choose_spec (h' f)⟩
end
end Mine
end
section
set_option autoImplicit false
set_option backward.eqns.nonrecursive false
namespace Mine
noncomputable section
open PySem PyProof.Rows PySem.SeqAt

noncomputable def getA (c : Nat) (name : Str) (μ : Mem) : V → R V
  | .ref i => match μ[i]? with
    | some (.inst c' d) => if c' = c then match μ[d]? with
        | some (.ns fs) => R.opt μ (fs.lookup name)
        | _ => .bad
      else .bad
    | _ => .bad
  | _ => .bad
noncomputable def dAttr (c : Nat) (name : Str) (e : DE) : DE := fun cx ρ μ => (e cx ρ μ).bind fun v μ => getA c name μ v
noncomputable def putA (c : Nat) (name : Str) (μ : Mem) (v : V) : V → Option Mem
  | .ref i => match μ[i]? with
    | some (.inst c' d) => if c' = c then match μ[d]? with
        | some (.ns fs) => if fs.length < 1000 then some (μ.set d (.ns ((name, v) :: fs))) else none
        | _ => none
      else none
    | _ => none
  | _ => none
noncomputable def sSetA (c : Nat) (name : Str) (o v : DE) : DS := fun cx ρ μ => (v cx ρ μ).thenS ρ fun v μ => (o cx ρ μ).thenS ρ fun x μ => match putA c name μ v x with
  | some μ' => .next ρ μ'
  | none => .bad
noncomputable def dNew (c f : Nat) (args : DL) : DE := fun cx ρ μ => (args cx ρ μ).bind fun vs μ => (cx.call f (.ref (μ.length + 1) :: vs) (μ ++ [.ns []] ++ [.inst c μ.length])).bind fun r μ' => match r with
  | .none => .ok (.ref (μ.length + 1)) μ'
  | _ => .bad
noncomputable def isA (c : Nat) (name : Str) (μ : Mem) : V → Bool
  | .ref i => match μ[i]? with
    | some (.inst c' d) => c' == c && (match μ[d]? with
        | some (.ns fs) => (fs.lookup name).isNone
        | _ => false)
    | _ => false
  | _ => false
noncomputable def dMeth (c f : Nat) (name : Str) (o : DE) (args : DL) : DE := fun cx ρ μ => (o cx ρ μ).bind fun v μ => if isA c name μ v then (args cx ρ μ).bind fun vs μ => cx.call f (v :: vs) μ else .bad

structure ObjCls (P : Pg) (c : Nat) (ats : List Str) (ms : List (Str × Nat)) : Prop where
  cls : ∃ N mN, ClsAt P.h₀ (P.cls c) N mN ∧ mN "__getattribute__" = none ∧ mN "__getattr__" = none ∧ mN "__setattr__" = none ∧ (∀ x ∈ ats, mN x = none ∧ typeLookup (.type "object") x = pure none) ∧
    ∀ p ∈ ms, mN p.1 = some (.ref (P.fnA p.2)) ∧ (∃ y, typeLookup (.type "object") p.1 = pure y) ∧ ∃ o, P.h₀.get? (P.fnA p.2) = some o ∧ o.cls = .type "function"

inductive InstIs (P : Pg) (β : Bk) (h : Heap) (c i d : Nat) (fs : List (Str × V)) (x : Value) : Prop
  | mk (a dx : Addr) (o : Obj) (m : Str → Option Value) (e : x = .ref a) (b1 : β[i]? = some a) (b2 : β[d]? = some dx) (g : h.get? a = some o) (k : InstO P.toPl c dx o) (n : h.Ns1 dx m) (f : FldRel P.toPl β h fs m) (ne : dx ≠ a)
theorem InstIs.inst {P : Pg} {h : Heap} {a dx : Addr} {o : Obj} {c : Nat} {m : Str → Option Value} (g : h.get? a = some o) (k : InstO P.toPl c dx o) (n : h.Ns1 dx m) (ne : dx ≠ a) : h.Inst a (P.cls c) m :=
  ⟨o, g, k.cls, k.no, .inr ⟨dx, k.dict, ne, n⟩⟩
theorem Inv.inst {P : Pg} {β : Bk} {μ : Mem} {h : Heap} (I : Inv P.toPl β μ h) {c i d : Nat} {fs : List (Str × V)} {x : Value} (r : Rel P.toPl β h (.ref i) x) (h1 : μ[i]? = some (.inst c d)) (h2 : μ[d]? = some (.ns fs)) : InstIs P β h c i d fs x := by
  obtain ⟨a, rfl, e⟩ := r.ref'
  cases I.obj i _ a h1 e with
  | @inst _ _ _ dx o g k b =>
    have r2 := I.obj d _ dx h2 b
    cases r2 with
    | @ns _ _ m n f =>
      refine ⟨a, dx, o, m, rfl, e, b, g, k, n, f, fun q => ?_⟩
      obtain ⟨o', es, ep, e', d', _⟩ := n
      subst q
      have hid : i = d := by
        obtain ⟨l1, q1⟩ := List.getElem?_eq_some_iff.mp e
        obtain ⟨l2, q2⟩ := List.getElem?_eq_some_iff.mp b
        exact nodup_inj I.nd l1 l2 (q1.trans q2.symm)
      subst hid
      rw [h1] at h2; cases h2
theorem Rel.handed {P : Pl} {β : Bk} {h : Heap} {v : V} {x : Value} (r : Rel P β h v x) : handedOut x = pure x := by cases r <;> rfl

theorem lookup_mem_V {l : List (Str × V)} {x : Str} {c : V} (h : l.lookup x = some c) : (x, c) ∈ l := by
  induction l with
  | nil => cases h
  | cons p r ih =>
    obtain ⟨y, d⟩ := p
    rw [List.lookup_cons] at h
    cases q : x == y with
    | true => rw [q] at h; cases h; rw [beq_iff_eq.mp q]; exact List.mem_cons_self
    | false => rw [q] at h; exact List.mem_cons_of_mem _ (ih h)
theorem getA_in {c : Nat} {name : Str} {μ : Mem} {v : V} (hb : getA c name μ v ≠ .bad) : ∃ i d fs u, v = .ref i ∧ μ[i]? = some (.inst c d) ∧ μ[d]? = some (.ns fs) ∧ fs.lookup name = some u ∧ getA c name μ v = .ok u μ := by
  cases v with
  | ref i =>
    simp only [getA] at hb ⊢
    cases h1 : μ[i]? with
    | none => rw [h1] at hb; exact absurd rfl hb
    | some o =>
      rw [h1] at hb
      cases o with
      | inst c' d =>
        simp only at hb ⊢
        by_cases hc : c' = c
        · subst hc
          rw [if_pos rfl] at hb ⊢
          cases h2 : μ[d]? with
          | none => rw [h2] at hb; exact absurd rfl hb
          | some o2 =>
            rw [h2] at hb
            cases o2 with
            | ns fs =>
              simp only at hb ⊢
              cases h3 : fs.lookup name with
              | none => rw [h3] at hb; exact absurd rfl hb
              | some u => exact ⟨i, d, fs, u, rfl, h1, h2, h3, rfl⟩
            | list => exact absurd rfl hb
            | inst => exact absurd rfl hb
            | dic => exact absurd rfl hb
        · rw [if_neg hc] at hb; exact absurd rfl hb
      | list => exact absurd rfl hb
      | ns => exact absurd rfl hb
      | dic => exact absurd rfl hb
  | _ => exact absurd rfl hb
theorem isA_in {c : Nat} {name : Str} {μ : Mem} {v : V} (hb : isA c name μ v = true) : ∃ i d fs, v = .ref i ∧ μ[i]? = some (.inst c d) ∧ μ[d]? = some (.ns fs) ∧ fs.lookup name = none := by
  cases v with
  | ref i =>
    simp only [isA] at hb
    cases h1 : μ[i]? with
    | none => rw [h1] at hb; cases hb
    | some o =>
      rw [h1] at hb
      cases o with
      | inst c' d =>
        simp only [Bool.and_eq_true, beq_iff_eq] at hb
        obtain ⟨rfl, hb⟩ := hb
        cases h2 : μ[d]? with
        | none => rw [h2] at hb; cases hb
        | some o2 =>
          rw [h2] at hb
          cases o2 with
          | ns fs => exact ⟨i, d, fs, rfl, h1, h2, by simpa using hb⟩
          | list => cases hb
          | inst => cases hb
          | dic => cases hb
      | list => cases hb
      | ns => cases hb
      | dic => cases hb
  | _ => cases hb
theorem putA_in {c : Nat} {name : Str} {μ μ' : Mem} {v x : V} (h : putA c name μ v x = some μ') : ∃ i d fs, x = .ref i ∧ μ[i]? = some (.inst c d) ∧ μ[d]? = some (.ns fs) ∧ fs.length < 1000 ∧ μ' = μ.set d (.ns ((name, v) :: fs)) := by
  cases x with
  | ref i =>
    simp only [putA] at h
    cases h1 : μ[i]? with
    | none => rw [h1] at h; cases h
    | some o =>
      rw [h1] at h
      cases o with
      | inst c' d =>
        simp only at h
        by_cases hc : c' = c
        · subst hc
          rw [if_pos rfl] at h
          cases h2 : μ[d]? with
          | none => rw [h2] at h; cases h
          | some o2 =>
            rw [h2] at h
            cases o2 with
            | ns fs =>
              simp only at h
              by_cases hl : fs.length < 1000
              · rw [if_pos hl] at h; cases h; exact ⟨i, d, fs, rfl, h1, h2, hl, rfl⟩
              · rw [if_neg hl] at h; cases h
            | list => cases h
            | inst => cases h
            | dic => cases h
        · rw [if_neg hc] at h; cases h
      | list => cases h
      | ns => cases h
      | dic => cases h
  | _ => cases h

section
variable {P : Pg} {B : Blk}

theorem attrOf {M : Model} {A : Around} {env : Env} {s : Shared} {E : Value → Shared → Prop} {o : Expr} {attr : Str} {pos : Pos} {Q : Value → Shared → Prop} (hbase : attributeBase o attr env (eval o env) = eval o env) (hlet : ∀ x r, letTemporaryGo o x r = pure ())
    (h : wpAny M A (eval o env) (fun o s₁ => wpAny M A (getAttr o attr true) Q E s₁) E s) : wpAny M A (eval (.Attribute o attr pos) env) Q E s := by
  rw [arm_eval_Attribute, hbase]
  refine wpAny_bind (wpAny_mono h (fun o s₁ h₁ => wpAny_bind (wpAny_standAt (wpAny_bind (wpAny_holding (wpAny_mono h₁ (fun r s₂ h₂ => ?_) fun _ _ y => y))))) fun _ _ y => y)
  rw [hlet]
  exact wpAny_bind (wpAny_pure (wpAny_pure h₂))

theorem SimE.attr {o : Expr} {name : Str} {pos : Pos} {c : Nat} {ats : List Str} {ms : List (Str × Nat)} {d : DE} (O : ObjCls P c ats ms) (hm : name ∈ ats) (hbase : ∀ env, attributeBase o name env (eval o env) = eval o env) (hlet : ∀ x r, letTemporaryGo o x r = pure ())
    (h : SimE P B o d) : SimE P B (.Attribute o name pos) (dAttr c name d) := fun n A env β ρ μ s X hb => by
  refine attrOf (hbase env) hlet (useE h X hb (fun v μ₁ β₁ x s₁ e₁ p₁ r₁ hb₁ X₁ => ?_) fun u s₁ q => q)
  obtain ⟨i, d', fs, u, rfl, h1, h2, h3, h4⟩ := getA_in hb₁
  obtain ⟨a, dx, ob, m, rfl, b1, b2, g, k, nn, f, ne⟩ := X₁.inv.inst r₁ h1 h2
  obtain ⟨N, mN, C, g1, g2, g3, g4, g5⟩ := O.cls
  obtain ⟨w, w1, w2⟩ := f.2 name u h3
  obtain ⟨hp, gs, dr, tk, os⟩ := s₁
  obtain ⟨nm, q, bs, sn, sub, col, dd, k0, k1, k2, k3, k5, hC⟩ := (C.keeps X₁.inv.base).obj
  refine load_attr hC (C.keeps X₁.inv.base).ns g1 (g4 name hm).1 (g4 name hm).2 (InstIs.inst g k nn ne) w1 w2.handed ?_
  have e : dAttr c name d (P.cx n) ρ μ = .ok u μ₁ := by simp only [dAttr, e₁]; exact h4
  rw [e]
  exact ⟨u, μ₁, β₁, rfl, p₁.trans (Post.toks X₁.inv _), w2⟩

theorem Inv.updK {P : Pl} {β : Bk} {μ : Mem} {h h' : Heap} (I : Inv P β μ h) {i : Nat} {a : Addr} {o : O} (ha : β[i]? = some a) (hs : ∀ b ob, b ≠ a → h.get? b = some ob → h'.get? b = some ob) (hr : ObjRel P β h' o a) : Inv P β (μ.set i o) h' := by
  have hk : Keep β h h' := fun b ob e hb => ⟨ob, hs b ob (fun q => hb (q ▸ List.mem_of_getElem? ha)) e, .refl _⟩
  refine ⟨by simp [I.len], I.nd, fun j oj b h1 h2 => ?_, fun b ob e => hs b ob (fun q => ?_) (I.base b ob e), I.new⟩
  · by_cases hj : j = i
    · subst hj
      rw [ha] at h2; injection h2 with h2; subst h2
      have hl : j < μ.length := by rw [← I.len]; exact (List.getElem?_eq_some_iff.mp ha).1
      rw [List.getElem?_set_self hl] at h1
      injection h1 with h1; rw [← h1]; exact hr
    · rw [List.getElem?_set_ne (Ne.symm hj)] at h1
      have r := I.obj j oj b h1 h2
      obtain ⟨ob, e, _⟩ := r.at
      refine r.mono I (List.prefix_refl _) hk (fun _ h n => absurd h n) ((hs b ob (fun q => hj ?_) e).trans e.symm)
      subst q
      obtain ⟨l1, q1⟩ := List.getElem?_eq_some_iff.mp ha
      obtain ⟨l2, q2⟩ := List.getElem?_eq_some_iff.mp h2
      exact nodup_inj I.nd l2 l1 (q2.trans q1.symm)
  · subst q
    rw [I.new b (List.mem_of_getElem? ha)] at e; cases e
theorem Post.updK {P : Pl} {β : Bk} {μ : Mem} {s : Shared} {h' : Heap} (I : Inv P β μ s.heap) {i : Nat} {a : Addr} {o : O} (t : Nat) (ha : β[i]? = some a) (hs : ∀ b ob, b ≠ a → s.heap.get? b = some ob → h'.get? b = some ob) (hr : ObjRel P β h' o a) :
    Post P β β (μ.set i o) s { s with heap := h', toks := t } :=
  ⟨⟨h', t, rfl⟩, I.updK ha hs hr, List.prefix_refl _, fun b ob e hb => ⟨ob, hs b ob (fun q => hb (q ▸ List.mem_of_getElem? ha)) e, .refl _⟩, fun _ h n => absurd h n⟩

theorem SimX.setA {o e : Expr} {name : Str} {pos' pos : Pos} {c : Nat} {ats : List Str} {ms : List (Str × Nat)} {d de : DE} (O : ObjCls P c ats ms) (hm : name ∈ ats) (hw : ∀ env, swapsWith e (some (.Attribute o name pos')) pos.line env = pure false)
    (h : SimE P B o d) (h' : SimE P B e de) : SimX P B (.Assign [.Attribute o name pos'] e pos) (sSetA c name d de) := fun n A env β ρ μ s X hb => by
  refine plainObj_wpAny_Assign_Attribute (useES h' X hb (fun v μ₁ β₁ x s₁ e₁ p₁ r₁ hb₁ X₁ => ?_) fun u s₁ q => q) (hw env)
  have e0 : sSetA c name d de (P.cx n) ρ μ = (d (P.cx n) ρ μ₁).thenS ρ fun x μ => match putA c name μ v x with | some μ' => .next ρ μ' | none => .bad := by simp only [sSetA, e₁]; rfl
  refine useES h X₁ hb₁ (fun u μ₂ β₂ y s₂ e₂ p₂ r₂ hb₂ X₂ => ?_) fun u s₂ q => by rw [e0]; exact q.after (p₁.own X.env.live) X₁.env.live
  cases hp : putA c name μ₂ v u with
  | none => rw [hp] at hb₂; exact absurd rfl hb₂
  | some μ₃ =>
    have e3 : sSetA c name d de (P.cx n) ρ μ = .next ρ μ₃ := by rw [e0, e₂]; simp only [R.thenS, hp]
    obtain ⟨i, d', fs, rfl, h1, h2, hl, rfl⟩ := putA_in hp
    obtain ⟨a, dx, ob, m, rfl, b1, b2, g, k, nn, f, ne⟩ := X₂.inv.inst r₂ h1 h2
    obtain ⟨N, mN, C, g1, g2, g3, g4, g5⟩ := O.cls
    have p12 := p₁.trans p₂
    obtain ⟨hh, gs, dr, tk, os⟩ := s₂
    obtain ⟨nm, q, bs, sn, sub, col, dd, k0, k1, k2, k3, k5, hC⟩ := C.obj
    have hxC : a ≠ P.cls c := fun q => by rw [← q, X₂.inv.new a (List.mem_of_getElem? b1)] at hC; cases hC
    refine store_attr (ns := fs.map (·.1)) PySem.F.store_object (X₂.inv.base _ _ hC) (C.keeps X₂.inv.base).ns g3 (g4 name hm).1 (g4 name hm).2 hxC (InstIs.inst g k nn ne) (fun h₃ tk' I' hk hsame => ?_) ?_ ?_
    · have kk : ∀ b o, b ≠ dx → hh.get? b = some o → h₃.get? b = some o := fun b o hbd e => by
        by_cases hba : b = a
        · subst hba
          obtain ⟨o₁, z1, z2, z3, z4, z5⟩ := hsame o e
          have : o₁ = o := by
            rw [g] at e; cases e
            obtain ⟨c1, c2, c3, c4⟩ := o₁
            obtain ⟨d1, d2, d3, d4⟩ := ob
            simp only at z2 z3 z4
            have := z5 dx k.dict
            have kd := k.dict
            simp only at this kd
            rw [z2, z3, z4, this, kd]
          rw [this] at z1; exact z1
        · exact hk b o hba (fun o₀ d₀ e₀ ed => by rw [g] at e₀; cases e₀; rw [k.dict] at ed; cases ed; exact hbd) e
      have r3 : Rel P.toPl β₂ hh v x := r₁.post X₁.inv p₂
      have hKeep : Keep β₂ hh h₃ := fun b o e hb => ⟨o, kk b o (fun q => hb (q ▸ List.mem_of_getElem? b2)) e, .refl _⟩
      have up : ∀ {v : V} {u : Value}, Rel P.toPl β₂ hh v u → Rel P.toPl β₂ h₃ v u := fun r => r.mono X₂.inv (List.prefix_refl _) hKeep fun _ h n => absurd h n
      have nn3 : h₃.Ns1 dx (fun y => if y = name then some x else m y) := by
        obtain ⟨o', z1, z2, z3, z4⟩ := I'
        obtain ⟨o₁, y1, _, _, _, y5⟩ := hsame ob g
        rw [z1] at y1; cases y1
        rcases z4 with ⟨z, _⟩ | ⟨dz, z5, _, z6⟩
        · rw [y5 dx k.dict] at z; cases z
        · rw [y5 dx k.dict] at z5; cases z5; exact z6
      have f3 : FldRel P.toPl β₂ h₃ ((name, v) :: fs) (fun y => if y = name then some x else m y) := by
        refine ⟨fun y hy => ?_, fun y w hy => ?_⟩
        · rw [List.lookup_cons] at hy
          cases q : y == name with
          | true => rw [q] at hy; cases hy
          | false =>
            rw [q] at hy
            simp only [beq_eq_false_iff_ne, ne_eq] at q
            simp only [q, if_false]
            exact f.1 y hy
        · rw [List.lookup_cons] at hy
          cases q : y == name with
          | true =>
            rw [q] at hy
            cases hy
            exact ⟨x, by simp [beq_iff_eq.mp q], up r3⟩
          | false =>
            rw [q] at hy
            simp only [beq_eq_false_iff_ne, ne_eq] at q
            obtain ⟨w', w1, w2⟩ := f.2 y w hy
            exact ⟨w', by simp only [q, if_false]; exact w1, up w2⟩
      have p₃ := Post.updK (s := ⟨hh, gs, dr, tk, os⟩) (o := .ns ((name, v) :: fs)) X₂.inv tk' b2 kk (.ns nn3 f3)
      rw [e3]
      exact .inl ⟨ρ, _, β₂, rfl, rfl, (p12.trans p₃).own X.env.live, X₂.env.post X₂.inv p₃⟩
    · intro y hy
      by_cases q : y ∈ fs.map (·.1)
      · exact q
      · refine absurd (f.1 y ?_) hy
        cases z : fs.lookup y with
        | none => rfl
        | some w => exact absurd (List.mem_map.mpr ⟨(y, w), lookup_mem_V z, rfl⟩) q
    · rw [List.length_map]; exact lim_line (by have : lim = 1000000 := rfl; omega)
end
end
end Mine
end
section
set_option autoImplicit false
set_option backward.eqns.nonrecursive false
namespace Mine
noncomputable section
open PySem PyProof.Rows PySem.SeqAt

section
variable {P : Pg} {B : Blk}

theorem callPost {n f : Nat} {A A' : Around} {env : Env} {β : Bk} {ρ : Fr} {μ : Mem} {s : Shared} {args : List V} {vals : List Value} {Q : Value → Shared → Prop} {E : Value → Shared → Prop} (X : At P B n A env β ρ μ s) (hr : RoomC A' n) (hfr : A'.frames = A.frames)
    (r : RelL P.toPl β s.heap args vals) (hb : P.call n f args μ ≠ .bad) (ok : ∀ x s', OkE P.toPl β s (P.call n f args μ) x s' → Q x s') (ex : ∀ x s', ExE P.toPl env.frame β s (P.call n f args μ) x s' → E x s') :
    wpAny P.M A' (PySem.call (.ref (P.fnA f)) vals) Q E s := by
  obtain ⟨fe, outer, f1, f2, f3⟩ := X.env.fr
  refine wpAny_call (codeAny_mono (X.call n (Nat.le_refl n) f A' args vals β μ s hr ⟨_, hfr.trans f1, f3⟩ X.inv r hb) fun r s' q => ?_)
  match r, q with
  | .ok (.ret u), q => exact ok u s' q
  | .ok .next, q => exact q.elim
  | .ok .brk, q => exact q.elim
  | .ok .cont, q => exact q.elim
  | .error u, q =>
    obtain ⟨c, μ', β', q1, q2, q3⟩ := q
    exact ex u s' ⟨c, μ', β', q1, q2, q3.up⟩

theorem made_post {c : Nat} {β : Bk} {μ : Mem} {s : Shared} {h' : Heap} {x dx : Addr} (I : Inv P.toPl β μ s.heap) (m : Heap.MadeObj s.heap h' x dx (P.cls c)) :
    Post P.toPl β (β ++ [dx] ++ [x]) (μ ++ [.ns []] ++ [.inst c μ.length]) s { s with heap := h' } ∧ (β ++ [dx] ++ [x])[μ.length + 1]? = some x := by
  have p₁ : Post P.toPl β β μ s { s with heap := h', toks := s.toks } := Post.other I s.toks m.keeps
  obtain ⟨ox, hx, hcx, hncx, hdx⟩ := m.inst
  have hdd := m.dict ox hx
  obtain ⟨hnsd, hne⟩ : h'.Ns1 dx (fun _ => none) ∧ dx ≠ x := by
    rcases hdx with ⟨hn0, _⟩ | ⟨d', hd', hne, hns'⟩
    · rw [hn0] at hdd; cases hdd
    · rw [hd'] at hdd; cases hdd; exact ⟨hns', hne⟩
  have nb : ∀ {a : Addr}, s.heap.get? a = none → a ∉ β := fun h q => by
    obtain ⟨ob, e, _⟩ := I.there q
    rw [h] at e; cases e
  have n0 : ∀ {a : Addr}, s.heap.get? a = none → P.h₀.get? a = none := fun {a} h => by
    cases e : P.h₀.get? a with
    | none => rfl
    | some o => rw [I.base _ _ e] at h; cases h
  have I₂ : Inv P.toPl (β ++ [dx]) (μ ++ [.ns []]) h' := Inv.adopt p₁.inv (nb m.newD) (n0 m.newD) (.ns hnsd ⟨fun _ _ => rfl, fun _ _ e => by cases e⟩)
  have hx' : x ∉ β ++ [dx] := fun q => by
    rcases List.mem_append.mp q with q | q
    · exact nb m.newX q
    · exact hne (List.mem_singleton.mp q).symm
  have I₃ : Inv P.toPl (β ++ [dx] ++ [x]) (μ ++ [.ns []] ++ [.inst c μ.length]) h' := Inv.adopt I₂ hx' (n0 m.newX) (.inst hx ⟨hcx, hdd, hncx⟩ (by
    rw [← I.len, List.append_assoc, List.getElem?_append_right (Nat.le_refl _)]; simp))
  refine ⟨⟨⟨h', s.toks, rfl⟩, I₃, by rw [List.append_assoc]; exact List.prefix_append _ _, p₁.keep, fun a ha hn => ?_⟩, ?_⟩
  · rcases List.mem_append.mp ha with q | q
    · rcases List.mem_append.mp q with q | q
      · exact absurd q hn
      · rw [List.mem_singleton.mp q]; exact m.newD
    · rw [List.mem_singleton.mp q]; exact m.newX
  · rw [← I.len, List.append_assoc, List.getElem?_append_right (Nat.le_succ _)]; simp

theorem SimE.new {x : Str} {c f : Nat} {ats : List Str} {ms : List (Str × Nat)} {e : Expr} {es : List Expr} {ds : DL} {p pos : Pos} (O : ObjCls P c ats ms) (hi : ((Str.ofString "__init__", f) : Str × Nat) ∈ ms) (hg : P.mg x = some (.ref (P.cls c))) (hx : B.sc.names.lookup x = some .globalImplicit) (hd : (x == ("__debug__" : Str)) = false)
    (hs : ∀ env, starEach (e :: es) env = (false, eval e env) :: starEach es env) (hp : plainArgs es = true) (h : SimL P B (e :: es) ds) : SimE P B (.Call (.Name x p) (e :: es) [] pos) (dNew c f ds) := fun n A env β ρ μ s X hb => by
  obtain ⟨N, mN, C, g1, g2, g3, g4, g5⟩ := O.cls
  obtain ⟨i1, _, oI, i2, i3⟩ := g5 _ hi
  refine Call_Name rfl (X.glob hx hd hg ?_)
  refine callWith_cls (e := e) (rest := es) C (useL h X hb (fun vs μ₁ β₁ xs s₁ e₁ p₁ r₁ hb₁ X₁ => ?_) fun u s₁ q => q) (hs env) ?_
  · refine ⟨X₁.inv.base, ?_⟩
    obtain ⟨hh, gs, dr, tk, os⟩ := s₁
    obtain ⟨nm, q, bs, sn, sub, col, dd, k0, k1, k2, k3, k5, hC⟩ := (C.keeps X₁.inv.base).obj
    refine wpAny_call_obj_init PySem.F.objNew hC (C.keeps X₁.inv.base).ns i1 (X₁.inv.base _ _ i2) i3 fun h' x' dx m => ?_
    obtain ⟨p₂, hx'⟩ := made_post (P := P) (s := ⟨hh, gs, dr, tk, os⟩) X₁.inv m
    have X₂ := X₁.post p₂
    have e0 : dNew c f ds (P.cx n) ρ μ = (P.call n f (.ref (μ₁.length + 1) :: vs) (μ₁ ++ [.ns []] ++ [.inst c μ₁.length])).bind fun r μ' => match r with | .none => .ok (.ref (μ₁.length + 1)) μ' | _ => .bad := by simp only [dNew, e₁]; rfl
    rw [e0]
    have rr : RelL P.toPl (β₁ ++ [dx] ++ [x']) h' (.ref (μ₁.length + 1) :: vs) (.ref x' :: xs) := .cons (.ref hx') (r₁.post X₁.inv p₂)
    have hr : RoomC (A.under (.builtin "type.__call__" ⟨.ref (P.cls c) :: xs, []⟩)) n := by
      have := X.room
      refine ⟨?_, ?_, this.2.2⟩
      · show A.depth + 1 + 2 * n + 9 < _; have := this.1; omega
      · show A.units + 1 + 20 * n + 190 < _; have := this.2.1; omega
    refine callPost X₂ hr rfl rr (fun q => hb₁ (by rw [show (P.cx n).call = P.call n from rfl, q]; rfl)) (fun u s' q => ?_) fun u s' q => ?_
    · obtain ⟨v, μ', β', q1, q2, q3⟩ := q
      have hb₂ : (R.ok v μ').bind (fun r μ' => match r with | .none => R.ok (V.ref (μ₁.length + 1)) μ' | _ => .bad) ≠ .bad := q1 ▸ hb₁
      cases v with
      | none =>
        refine ⟨q3.none', ?_⟩
        rw [q1]
        exact ⟨.ref (μ₁.length + 1), μ', β', rfl, (p₁.trans p₂).trans q2, .ref (prefix_get q2.pre hx')⟩
      | _ => exact absurd rfl hb₂
    · obtain ⟨c', μ', β', q1, q2, q3⟩ := q
      exact ⟨c', μ', β', by rw [q1]; rfl, (p₁.trans p₂).trans q2, q3.lower fun _ => (p₁.trans p₂).back⟩
  · rw [List.any_eq_false]
    intro p hp'
    rw [plain_trees hp p hp']; simp

theorem Call_own {M : Model} {A : Around} {env : Env} {s : Shared} {E : Value → Shared → Prop} {o : Expr} {name : Str} {apos pos : Pos} {args : List Expr} {Q : Value → Shared → Prop} (hbase : attributeBase o name env (eval o env) = eval o env)
    (hfew : methodCallForm (args.length + ([] : List Keyword).length) (backTo pos (starEach args env)) (backToKw pos (keywordEach [] env)) = true) (hline : (apos.endLine == pos.line) = true)
    (h : wpAny M A (eval o env) (fun ov s₁ => ∀ pl, wpAny M A (getMethod ov name pl) (fun fv s₂ => wpAny M A (callWith pos fv.1 fv.2 (backTo pos (starEach args env)) []) Q E s₂) E s₁) E s) :
    wpAny M A (eval (.Call (.Attribute o name apos) args [] pos) env) Q E s := by
  rw [arm_eval_Call, hbase]
  refine wpAny_bind (wpAny_mono h (fun ov s₁ h₁ => ?_) fun _ _ e => e)
  refine wpAny_bind (wpAny_standAt ?_)
  have hpos : methodCallPos true o env apos pos = pure pos := by unfold methodCallPos; simp [hline]
  unfold methodCall
  rw [hfew]
  refine wpAny_bind (wpAny_holding ?_)
  exact wpAny_mono (h₁ _) (fun fv s₂ h₂ => wpAny_bind (wpAny_of_eq hpos h₂)) fun _ _ e => e

theorem SimE.meth {o : Expr} {name : Str} {apos pos : Pos} {c f : Nat} {F : Fn} {ats : List Str} {ms : List (Str × Nat)} {es : List Expr} {d : DE} {ds : DL} (O : ObjCls P c ats ms) (hm : (name, f) ∈ ms) (hf : P.Φ f = some F) (hbase : ∀ env, attributeBase o name env (eval o env) = eval o env) (hline : (apos.endLine == pos.line) = true)
    (hp : plainArgs es = true) (hlen : es.length < 20) (h : SimE P B o d) (h' : SimL P B es ds) : SimE P B (.Call (.Attribute o name apos) es [] pos) (dMeth c f name d ds) := fun n A env β ρ μ s X hb => by
  refine Call_own (hbase env) ?_ hline (useE h X hb (fun v μ₁ β₁ x s₁ e₁ p₁ r₁ hb₁ X₁ => ?_) fun u s₁ q => q)
  · have h1 : (backTo pos (starEach es env)).all (fun x => !x.1) = true := List.all_eq_true.mpr fun p hp' => by rw [plain_trees hp p hp']; rfl
    unfold methodCallForm
    rw [h1]
    show (true && true && decide (es.length + 0 + 0 < 30)) = true
    simp; omega
  have hk : isA c name μ₁ v = true := by
    by_cases q : isA c name μ₁ v = true
    · exact q
    · rw [if_neg q] at hb₁; exact absurd rfl hb₁
  rw [if_pos hk] at hb₁
  have e0 : dMeth c f name d ds (P.cx n) ρ μ = (ds (P.cx n) ρ μ₁).bind fun vs μ => P.call n f (v :: vs) μ := by simp only [dMeth, e₁, R.bind, hk, if_true]; rfl
  obtain ⟨i, d', fs, rfl, h1, h2, h3⟩ := isA_in hk
  obtain ⟨a, dx, ob, m, rfl, b1, b2, g, k, nn, ff, ne⟩ := X₁.inv.inst r₁ h1 h2
  obtain ⟨N, mN, C, g1, g2, g3, g4, g5⟩ := O.cls
  obtain ⟨i1, ⟨y, hy⟩, oI, i2, i3⟩ := g5 _ hm
  obtain ⟨o', w1, w2, w3, w4⟩ := X₁.good.fn f F hf
  intro pl
  obtain ⟨hh, gs, dr, tk, os⟩ := s₁
  obtain ⟨nm, q, bs, sn, sub, col, dd, k0, k1, k2, k3, k5, hC⟩ := (C.keeps X₁.inv.base).obj
  refine method_of hC (C.keeps X₁.inv.base).ns g1 g2 i1 (X₁.inv.base _ _ i2) i3 hy (InstIs.inst g k nn ne) (ff.1 name h3) ?_
  refine Calls.callWith_function (fd := P.fd f) (o := o') (evalArgs_of (plain_trees hp) (useL h' X₁ hb₁ (fun vs μ₂ β₂ xs s₂ e₂ p₂ r₂ hb₂ X₂ => ?_) fun u s₂ q => by rw [e0]; exact q.after p₁))
  refine ⟨⟨X₂.inv.base _ _ w1, w2⟩, ?_⟩
  have e3 : dMeth c f name d ds (P.cx n) ρ μ = P.call n f (.ref i :: vs) μ₂ := by rw [e0, e₂]; rfl
  rw [e3]
  exact callPost X₂ X₂.room.c rfl (.cons (r₁.post X₁.inv p₂) r₂) hb₂ (fun u s' q => q.after (p₁.trans p₂)) fun u s' q => q.after (p₁.trans p₂)
end
end
end Mine
end
section
set_option autoImplicit false
set_option backward.eqns.nonrecursive false
namespace Mine
noncomputable section
open PySem PyProof.Rows PySem.SeqAt

noncomputable def bmVE : List Value := [.type "ValueError", .type "Exception", .type "BaseException", .type "object"]
noncomputable def sRaise (c : Nat) (args : DL) : DS := fun cx ρ μ => (args cx ρ μ).thenS ρ fun vs μ => if vs.length ≤ lim then .exc c ρ μ else .bad

section
variable {P : Pg} {B : Blk}
theorem SimX.raise {x : Str} {c : Nat} {es : List Expr} {ds : DL} {np cpos pos : Pos} (K : OwnCls x (P.cls c) bmVE "ValueError.__new__" P.mg P.h₀) (hx : B.sc.names.lookup x = some .globalImplicit) (hd : (x == ("__debug__" : Str)) = false) (hp : plainArgs es = true) (h : SimL P B es ds) :
    SimX P B (.Raise (some (.Call (.Name x np) es [] cpos)) none pos) (sRaise c ds) := fun n A env β ρ μ s X hb => by
  obtain ⟨tl, N, nm, q, bs, hdct, sn, sub, ab, col, dd, k0, k1, k2, k3, k5, mN, hC, hN, hni, T⟩ := K.obj
  refine wpAny_Raise_call_subT (C := P.cls c) (nm := nm) (q := q) (N := N) (bs := bs) (bm := tl) (hdct := hdct) (sn := sn) (sub := sub) (ab := ab) (col := col) (dd := dd) (k0 := k0) (k1 := k1) (k2 := k2) (k3 := k3) (k5 := k5)
    PySem.F.excBase_ValueError (mN := mN) (T.hasType PySem.F.excBase_ValueError.hasBase) X.room.2.2 ?_ hni (X.glob hx hd K.bound ⟨rfl, ?_⟩)
  · rw [List.any_eq_false]
    intro p hp'
    rw [plain_trees hp p hp']; simp
  refine evalArgs_of (plain_trees hp) (wpAny_mono (h n A env β ρ μ s cpos X (fun q => hb (by simp only [sRaise, q]; rfl))) (fun xs s₁ q => ?_) fun u s₁ q => ?_)
  · obtain ⟨vs, μ₁, β₁, e₁, p₁, r₁⟩ := q
    have hl : vs.length ≤ lim := by
      by_cases q : vs.length ≤ lim
      · exact q
      · simp only [sRaise, e₁, R.thenS, q, if_false] at hb; exact absurd rfl hb
    have e : sRaise c ds (P.cx n) ρ μ = .exc c ρ μ₁ := by simp only [sRaise, e₁, R.thenS, hl, if_true]
    have X₁ := X.post p₁
    refine ⟨rfl, lim_line (r₁.length ▸ hl), X₁.inv.base _ _ hC, hN.keeps X₁.inv.base, T.keeps X₁.inv.base, fun h' a m => ?_⟩
    obtain ⟨t, ht, _, _⟩ := m.there
    have p₂ : Post P.toPl β₁ β₁ μ₁ s₁ { s₁ with heap := h', toks := s₁.toks } := Post.other X₁.inv s₁.toks m.keeps
    rw [e]
    exact ⟨c, ρ, μ₁, β₁, rfl, (p₁.trans p₂).own X.env.live, ⟨a, _, _, rfl, p₁.back m.new, ht, ⟨rfl, rfl⟩, rfl, X₁.inv.out m.new, X₁.inv.out0 m.new, .inl rfl⟩, X₁.env.post X₁.inv p₂⟩
  · obtain ⟨c', μ₁, β₁, e1, p, r⟩ := q
    exact ⟨c', ρ, μ₁, β₁, by simp only [sRaise, e1]; rfl, p.own X.env.live, r, X.env.post X.inv p⟩
end
end
end Mine
end
section
set_option autoImplicit false
set_option maxRecDepth 100000
namespace Mine
noncomputable section
open PySem PySem.W PyProof.Rows PySem.SeqAt

structure ExcK (K : Frag) (D : Addr) : Prop where
  ga : findIn K (.ref D) "__getattribute__" = some (some (.builtin "BaseException.__getattribute__"))
  gt : findIn K (.ref D) "__getattr__" = some none
  sb : subIn K (.ref D) (.type "BaseException") = some true
  hdct : hasDictIn K D = true
  ha : findIn K (.ref D) "__class__" = some (some (.builtin "object.__class__"))
  hn : specialIn K (.builtin "object.__class__") "__get__" = some (some (.builtin "getset_descriptor.__get__"))
  htk : takesIn K (.builtin "object.__class__") = some true
  hm : mroIn K D (.type "object") = some true

theorem exc_check {M : Model} {A : Around} {E : Value → Shared → Prop} {x D : Addr} {nameV : Value} {h : Heap} {g : Array GenState} {d : Drawn} {t : Nat} {os : OsState} {Q : Unit → Shared → Prop} (L0 : Looks M h (typeOf (.ref x)) (.ref D)) (L4 : Looks M h (isSubtype (.ref D) (.type "BaseException")) true) (hq : Q () ⟨h, g, d, t, os⟩) :
    wpAny M A (checkBuiltinCall "BaseException.__getattribute__" ⟨[.ref x, nameV], []⟩) Q E ⟨h, g, d, t, os⟩ := by
  have hk : builtinKind "BaseException.__getattribute__" = some .slot := by decide +kernel
  have hsplit : splitId "BaseException.__getattribute__" = some ("BaseException", "__getattribute__") := by decide +kernel
  have ha := F.args_bexc_ga (.ref x) nameV
  simp only [checkBuiltinCall, hk, hsplit]
  refine wpAny_bind ?_
  unfold isInstance
  refine wpAny_bind (L0.at (L4.at ?_))
  repeat wp_step
  exact hq
theorem exc_class {prog : Program} {w : World} {A : Around} {E : Value → Shared → Prop} {s : Shared} {K : Frag} {x D : Addr} {ox : Obj} {Q : Option Value → Shared → Prop} (Z : ExcK K D) (X : K.In s.heap) (I : InstAt s.heap x ox D none) (h : Q (some (.ref D)) { s with toks := s.toks + 1 }) :
    wpAny (model prog w) A (getAttr? (.ref x) "__class__") Q E s := by
  have hf : findObj K D none "__class__" = some (.bind (.builtin "getset_descriptor.__get__") (.builtin "object.__class__")) := by
    obtain ⟨cd, hc, _⟩ := any_some Z.hdct
    unfold findObj
    rw [hc, Option.bind_some, Z.ha, Option.bind_some]
    simp [Z.hn, Z.htk]
  obtain ⟨hh, g, d, t, os⟩ := s
  have L0 := I.type (M := model prog w)
  have L1 := looks_findIn (M := model prog w) X Z.ga
  have L2 := looks_findIn (M := model prog w) X Z.gt
  have L3 := looks_find (M := model prog w) X I hf
  have L4 := looks_subIn (M := model prog w) X Z.sb
  unfold getAttr? getAttrBy? getAttrBy
  refine wpAny_bind (wpAny_mkText (wpAny_bind (wpAny_attempt (wpAny_holding (wpAny_bind (L0.at (wpAny_bind (L1.at ?_))))))))
  show wpAny _ _ (getAttrByItsOwn _ _ _ _ _ _) _ _ _
  unfold getAttrByItsOwn
  refine wpAny_bind (L2.at (wpAny_bind (wpAny_attempt (wpAny_holding ?_))))
  show wpAny _ _ (boundAndCalled _ _ _) _ _ _
  unfold boundAndCalled
  refine wpAny_bind ?_
  rw [PySem.F.attrBase_ValueError.ga.bind]
  refine wpAny_pure ?_
  show wpAny _ _ (call (.builtin "BaseException.__getattribute__") [.ref x, .str "__class__" t]) _ _ _
  refine wpAny_call (codeAny_call_builtin PySem.F.attrBase_ValueError.ga.plain F.entry_bexc_ga (exc_check L0 L4 ?_))
  unfold Builtin.«object.__getattribute__»
  refine wpAny_bind (wpAny_pure (wpAny_bind (wpAny_pure (wpAny_bind (L0.at (wpAny_bind (L3.at ?_)))))))
  show wpAny _ _ (holding [.builtin "object.__class__"] (call (.builtin "getset_descriptor.__get__") [.builtin "object.__class__", .ref x, .ref D]) >>= ret) _ _ _
  refine wpAny_bind (wpAny_holding (wpAny_call (class_get (ox := ox) (od := none) X I Z.hm ?_)))
  exact wpAny_pure (show wpAny _ _ (handedOut (.ref D)) _ _ _ from wpAny_pure (wpAny_pure h))
end
end Mine
end
section
set_option autoImplicit false
set_option backward.eqns.nonrecursive false
namespace Mine
noncomputable section
open PySem PySem.W PyProof.Rows PySem.SeqAt

noncomputable def sTryIsi (hit : Nat → Option Bool) (body : DS) : DS := fun cx ρ μ => match body cx ρ μ with
  | .exc c _ μ' => (match hit c with
    | some b => .ret (.bool b) μ'
    | none => .bad)
  | r => r

theorem kitx_exc {K : Frag} {x D : Addr} (Z : ExcK K D) : KitX K (.ref x) (.ref D) (fun h => ∃ ox, InstAt h x ox D none) where
  ty := fun _ _ _ ⟨_, I⟩ => I.type
  it := fun _ _ X _ => by
    obtain ⟨cdD, hcD, _⟩ := any_some Z.hdct
    unfold clsIn at hcD
    split at hcD
    · rename_i c' d' cd' sl' ho
      intro A' Q' E' s' k q
      unfold isType loadHead
      exact wpAny_bind (wpAny_loadPart (k _ _ (X _ _ ho)) (wpAny_pure q))
    · cases hcD
  ne := fun h tp dd its n sl X htp => by
    obtain ⟨cdD, hcD, _⟩ := any_some Z.hdct
    refine Bool.eq_false_iff.mpr fun q => ?_
    have e : D = tp := Value.ref.inj (beq_iff_eq.mp q)
    subst e
    unfold clsIn at hcD
    split at hcD
    · rename_i c' d' cd' sl' ho
      have z := (X _ _ ho).symm.trans htp
      cases z
    · cases hcD
  ca := fun {prog w A E Q s} X I k => I.elim fun _ I => exc_class Z X I k

section
variable {P : Pg} {B : Blk}

theorem touch {A : Around} {env : Env} {β : Bk} {ρ : Fr} {μ : Mem} {s : Shared} {h' : Heap} {m m' : Str → Option Value} (tk : Nat) (x : EnvOk P B A env β ρ s.heap) (I : Inv P.toPl β μ s.heap) (hn : s.heap.Ns env.locals m) (hn' : h'.Ns env.locals m') (hs : Heap.SameBut env.locals s.heap h') :
    PostS P.toPl (own env) β β μ s { s with heap := h', toks := tk } ∧ EnvOk P B A env β (fun _ => none) h' := by
  have hWo : ∀ o, s.heap.get? env.locals = some o → (∃ es n, o.data = .dict es n) ∨ ∃ v, o.data = .cell v := fun o e => by
    obtain ⟨o', es, n, e', hd, _⟩ := hn
    rw [e] at e'; cases e'; exact .inl ⟨es, n, hd⟩
  have base : ∀ a o, P.h₀.get? a = some o → h'.get? a = some o := fun a o e => by
    rw [hs.2 a (fun q => by rw [q, x.loc.2] at e; cases e)]; exact I.base a o e
  refine ⟨⟨⟨h', tk, rfl⟩, ⟨I.len, I.nd, fun j o a e1 e2 => ?_, base, I.new⟩, List.prefix_refl _, fun a o e _ hw => ⟨o, (hs.2 a fun q => hw (q ▸ List.mem_cons_self)).trans e, .refl _⟩, fun _ q n => absurd q n⟩,
    { x with
      ns := ⟨_, hn', fun j y w hj hw => by cases hw⟩
      cell := fun j y k' hj hk' => ?_
      fr := ?_
      own := fun a ha => ?_ }⟩
  · exact (I.obj j o a e1 e2).but I (fun b ob e q => (hs.2 b q).trans e) x.loc.1 hWo (fun q => x.loc.1 (q ▸ List.mem_of_getElem? e2))
  · obtain ⟨c, u', h1, h2, h3, h4, h5⟩ := x.cell j y k' hj hk'
    refine ⟨c, u', h1, h2, h3, ?_, fun w hw => by cases hw⟩
    obtain ⟨oc, g1, g2⟩ := h4
    refine ⟨oc, (hs.2 c fun q => ?_).trans g1, g2⟩
    obtain ⟨o', es, n, e', hd, _⟩ := hn
    rw [q, e'] at g1; cases g1; rw [hd] at g2; cases g2
  · obtain ⟨fe, outer, f1, f2, f3⟩ := x.fr
    refine ⟨fe, outer, f1, f2, fun e he => ?_⟩
    obtain ⟨k, L, o, g1, g2, g3, g4, es, m', g5⟩ := f3 e he
    by_cases q : L = env.locals
    · obtain ⟨o', es', n', e', hd, _⟩ := hn'
      exact ⟨k, L, o', g1, g2, g3, q ▸ e', es', n', hd⟩
    · exact ⟨k, L, o, g1, g2, g3, (hs.2 L q).trans g4, es, m', g5⟩
  · obtain ⟨g1, g2, o, g3, g4⟩ := x.own a ha
    by_cases q : a = env.locals
    · obtain ⟨o', es', n', e', hd, _⟩ := hn'
      exact ⟨g1, g2, o', q ▸ e', .inl ⟨es', n', hd⟩⟩
    · exact ⟨g1, g2, o, (hs.2 a q).trans g3, g4⟩

structure Held (P : Pg) (B : Blk) (A : Around) (env : Env) (β₀ : Bk) (s₀ : Shared) (β : Bk) (μ : Mem) (e : Addr) (c : Nat) (m : Str → Option Value) (s : Shared) : Prop where
  post : PostS P.toPl (own env) β₀ β μ s₀ s
  eo : EnvOk P B A env β (fun _ => none) s.heap
  ns : s.heap.Ns env.locals m
  exc : ∃ oe vs, s.heap.get? e = some oe ∧ (oe.cls = .ref (P.cls c) ∧ oe.dict = none) ∧ oe.data = .fields vs

section
variable {A : Around} {env : Env} {β₀ β : Bk} {s₀ s : Shared} {μ : Mem} {e : Addr} {c : Nat} {m : Str → Option Value}
theorem Held.inst (H : Held P B A env β₀ s₀ β μ e c m s) : ∃ ox, InstAt s.heap e ox (P.cls c) none := by
  obtain ⟨oe, vs, h1, ⟨h2, h3⟩, h4⟩ := H.exc
  exact ⟨oe, h1, h2, by unfold notCls; rw [h4], by rw [h3]; trivial⟩
theorem Held.grow (H : Held P B A env β₀ s₀ β μ e c m s) {h' : Heap} (tk : Nat) (k : ∀ a o, s.heap.get? a = some o → h'.get? a = some o) : Held P B A env β₀ s₀ β μ e c m { s with heap := h', toks := tk } := by
  have p : Post P.toPl β β μ s { s with heap := h', toks := tk } := Post.other H.post.inv tk k
  obtain ⟨oe, vs, h1, h2, h3⟩ := H.exc
  exact ⟨H.post.trans (p.own H.eo.live), H.eo.post H.post.inv p, H.ns.keeps k, oe, vs, k _ _ h1, h2, h3⟩
theorem Held.toks (H : Held P B A env β₀ s₀ β μ e c m s) (tk : Nat) : Held P B A env β₀ s₀ β μ e c m { s with toks := tk } := H.grow tk fun _ _ e => e
theorem Held.local (H : Held P B A env β₀ s₀ β μ e c m s) {h' : Heap} {m' : Str → Option Value} (tk : Nat) (hn' : h'.Ns env.locals m') (hs : Heap.SameBut env.locals s.heap h') : Held P B A env β₀ s₀ β μ e c m' { s with heap := h', toks := tk } := by
  obtain ⟨p, x⟩ := touch tk H.eo H.post.inv H.ns hn' hs
  obtain ⟨oe, vs, h1, h2, h3⟩ := H.exc
  refine ⟨H.post.trans p, x, hn', oe, vs, (hs.2 e fun q => ?_).trans h1, h2, h3⟩
  obtain ⟨o', es, n, e', hd, _⟩ := H.ns
  rw [q, e'] at h1; cases h1; rw [hd] at h3; cases h3
theorem Held.chg (H : Held P B A env β₀ s₀ β μ e c m s) {h' : Heap} (k : Chg P.toPl β s₀.heap s.heap h') (hx : ∃ oe vs, h'.get? e = some oe ∧ (oe.cls = .ref (P.cls c) ∧ oe.dict = none) ∧ oe.data = .fields vs) : Held P B A env β₀ s₀ β μ e c m { s with heap := h' } :=
  ⟨H.post.chg k, H.eo.chg k, k.ns H.ns, hx⟩
theorem Fly.held {L : Option Addr} {h₁ h : Heap} (f : Fly P.toPl β L h₁ h (.ref e) c) : ∃ oe vs, h.get? e = some oe ∧ (oe.cls = .ref (P.cls c) ∧ oe.dict = none) ∧ oe.data = .fields vs := by
  obtain ⟨a, oe, vs, h0, _, h2, h3, h4, _⟩ := f
  cases h0
  exact ⟨oe, vs, h2, h3, h4⟩

theorem Held.glob {A' : Around} {Q : Value → Shared → Prop} {E : Value → Shared → Prop} (G : Good P) (H : Held P B A env β₀ s₀ β μ e c m s) {x : Str} {pos : Pos} {v : Value} (hx : B.sc.names.lookup x = some .globalImplicit) (hd : (x == ("__debug__" : Str)) = false)
    (hv : P.mg x = some v) (h : Q v s) : wpAny P.M A' (eval (.Name x pos) env) Q E s := by
  have hk : env.scope.kind = .function := by
    have := H.eo.ok
    simp only [Blk.ok, Bool.and_eq_true, beq_iff_eq] at this
    rw [H.eo.sc]; exact this.1.1
  refine Calls.Name_function_global hk (by show env.scope.names.lookup x = _; rw [H.eo.sc]; exact hx) (Calls.loadGlobal_global (mg := P.mg) ?_ hv h) hd
  rw [H.eo.glob]; exact G.g.keeps H.post.inv.base
theorem Held.blt {A' : Around} {Q : Value → Shared → Prop} {E : Value → Shared → Prop} (G : Good P) (H : Held P B A env β₀ s₀ β μ e c m s) {x : Str} {pos : Pos} {v : Value} (hx : B.sc.names.lookup x = some .globalImplicit) (hd : (x == ("__debug__" : Str)) = false)
    (hm : x ∈ bnames) (hv : bootBuiltins x = some v) (h : Q v s) : wpAny P.M A' (eval (.Name x pos) env) Q E s := by
  have hk : env.scope.kind = .function := by
    have := H.eo.ok
    simp only [Blk.ok, Bool.and_eq_true, beq_iff_eq] at this
    rw [H.eo.sc]; exact this.1.1
  obtain ⟨g1, g2⟩ := G.blt x hm
  refine Calls.Name_function_global hk (by show env.scope.names.lookup x = _; rw [H.eo.sc]; exact hx) (Calls.loadGlobal_builtin (mg := P.mg) (mb := P.mb) ?_ g1 ?_ (g2.trans hv) h) hd
  · rw [H.eo.glob]; exact G.g.keeps H.post.inv.base
  · rw [H.eo.blt]; exact G.b.keeps H.post.inv.base
theorem Held.var {A' : Around} {Q : Value → Shared → Prop} {E : Value → Shared → Prop} (H : Held P B A env β₀ s₀ β μ e c m s) {x : Str} {pos : Pos} {v : Value} (hx : B.sc.names.lookup x = some .local) (hd : (x == ("__debug__" : Str)) = false) (hv : m x = some v) (h : Q v s) :
    wpAny P.M A' (eval (.Name x pos) env) Q E s := by
  have hk : env.scope.kind = .function := by
    have := H.eo.ok
    simp only [Blk.ok, Bool.and_eq_true, beq_iff_eq] at this
    rw [H.eo.sc]; exact this.1.1
  exact wpAny_Name (wpAny_loadName_local hk (by show env.scope.names.lookup x = some .local; rw [H.eo.sc]; exact hx) H.ns hv h) hd
theorem Held.isi {A' : Around} {Q : Value → Shared → Prop} {E : Value → Shared → Prop} (G : Good P) (H : Held P B A env β₀ s₀ β μ e c m s) {y : Str} {t : Expr} {p p' pos : Pos} (hx : B.sc.names.lookup (Str.ofString "isinstance") = some .globalImplicit) (hy : B.sc.names.lookup y = some .local) (hd : (y == ("__debug__" : Str)) = false) (hv : m y = some (.ref e))
    (hp : plainArgs [.Name y p', t] = true) (hn : ∀ env, starEach [t] env = [(false, eval t env)])
    (h : wpAny P.M A' (eval t env) (fun cv s₁ => wpAny P.M A' (PySem.call (.builtin "isinstance") [.ref e, cv]) Q E s₁) E s) : wpAny P.M A' (eval (.Call (.Name (Str.ofString "isinstance") p) [.Name y p', t] [] pos) env) Q E s := by
  refine Call_Name rfl (H.blt G hx (by decide) (by decide) (v := .builtin "isinstance") (by decide) ?_)
  refine callWith_plain (fun _ q => by cases q) (plain_trees hp) ?_
  refine wpAny_items_cons (H.var hy hd hv ?_) rfl
  exact wpAny_items_cons (wpAny_mono h (fun cv s₁ h₁ => wpAny_items_nil h₁) fun _ _ q => q) (hn env)
end
end
end
end Mine
end
section
set_option autoImplicit false
set_option backward.eqns.nonrecursive false
namespace Mine
noncomputable section
open PySem PySem.W PyProof.Rows PySem.SeqAt

structure HitOk (P : Pg) (K : Frag) (W : Addr) (its : List Value) (D : Value) (c : Nat) (b : Bool) : Prop where
  z : ExcK K (P.cls c)
  m : exmOne K (.ref (P.cls c)) (.ref W) = some true
  o : ∃ b1 b2 b3, kitAny K (.ref (P.cls c)) its = some b1 ∧ kitOne K (.ref (P.cls c)) D = some b2 ∧ kitOne K (.ref (P.cls c)) (.type "ValueError") = some b3 ∧ b = (b2 && (b3 && !b1))

section
variable {P : Pg} {B : Blk}
theorem and_bools {M : Model} {A : Around} {E : Value → Shared → Prop} {s : Shared} {env : Env} {pos : Pos} {e : Expr} {e' : Expr} {es : List Expr} {b1 : Bool} {Q : Value → Shared → Prop}
    (h : wpAny M A (eval e env) (fun v s₁ => v = .bool b1 ∧ if b1 then wpAny M A (boolOp pos .And (evalEach (e' :: es) env)) Q E s₁ else Q (.bool false) s₁) E s) : wpAny M A (boolOp pos .And (evalEach (e :: e' :: es) env)) Q E s := by
  show wpAny M A (do
    let v ← eval e env
    standAt pos
    let t ← holding [v] (truthy v)
    match BoolOp.And, t with
    | .And, false | .Or, true => pure v
    | _, _ => boolOp pos .And (evalEach (e' :: es) env)) _ _ s
  refine wpAny_bind (wpAny_mono h (fun v s₁ q => ?_) fun _ _ q => q)
  obtain ⟨rfl, q⟩ := q
  refine wpAny_bind (wpAny_standAt (wpAny_bind (wpAny_holding ?_)))
  cases b1 with
  | true => exact wpAny_pure q
  | false => exact wpAny_pure (wpAny_pure q)

set_option maxHeartbeats 1000000 in
theorem SimX.tryIsi {body : List Stmt} {db : DS} {hit : Nat → Option Bool} {K : Frag} (KX : K.In P.h₀) {x n y a1 a2 a3 d1 : Str} {W A1 A2 A3 D1 : Addr} {px hpos pos pn p1 p2 p3 p4 p5 p6 p7 p8 p9 p10 p11 p12 p13 p14 p15 p16 p17 p18 p19 p20 : Pos} {kt : Nat}
    (hW : P.mg x = some (.ref W)) (g1 : P.mg a1 = some (.ref A1)) (g2 : P.mg a2 = some (.ref A2)) (g3 : P.mg a3 = some (.ref A3)) (g4 : P.mg d1 = some (.ref D1))
    (hx : [x, a1, a2, a3, d1, Str.ofString "isinstance", Str.ofString "ValueError"].all (fun z => B.sc.names.lookup z == some .globalImplicit && !(z == ("__debug__" : Str))) = true)
    (hl : [n, y].all (fun z => B.sc.names.lookup z == some .local && !(z == ("__debug__" : Str))) = true) (hny : n ≠ y) (hh : ∀ c b, hit c = some b → HitOk P K W [.ref A1, .ref A2, .ref A3] (.ref D1) c b) (hbody : SimS P B body db) :
    SimX P B (.Try body [.ExceptHandler (some (.Name x px)) (some n) [.Assign [.Name y p1] (.Call (.Name (Str.ofString "isinstance") p2) [.Name n p3, .Tuple [.Name a1 p4, .Name a2 p5, .Name a3 p6] kt p7] [] p8) p9,
      .Return (some (.BoolOp .And [.Call (.Name (Str.ofString "isinstance") p10) [.Name n p11, .Name d1 p12] [] p13, .Call (.Name (Str.ofString "isinstance") p14) [.Name n p15, .Name (Str.ofString "ValueError") p16] [] p17, .UnaryOp .Not (.Name y p18) pn] p19)) p20] hpos] [] [] pos) (sTryIsi hit db) := fun k A env β ρ μ s X hb => by
  have G := X.good
  have hnb : db (P.cx k) ρ μ ≠ .bad := fun q => hb (by simp only [sTryIsi, q])
  simp only [List.all_cons, List.all_nil, Bool.and_eq_true, beq_iff_eq, Bool.not_eq_true', Bool.and_true] at hx hl
  obtain ⟨⟨x1, x1'⟩, ⟨x2, x2'⟩, ⟨x3, x3'⟩, ⟨x4, x4'⟩, ⟨x5, x5'⟩, ⟨x6, x6'⟩, x7, x7'⟩ := hx
  obtain ⟨⟨l1, l1'⟩, l2, l2'⟩ := hl
  refine wpAny_Try_except (wpAny_mono (hbody k A env β ρ μ s X hnb) (fun f s₁ q => ?_) fun v s₁ q => ?_)
  · rcases q with ⟨ρ', μ', β', e, rfl, p, kk⟩ | ⟨v, u, μ', β', e, rfl, p, q, kk⟩
    · exact wpAny_execs_nil (.inl ⟨ρ', μ', β', by simp only [sTryIsi, e], rfl, p, kk⟩)
    · exact .inr ⟨v, u, μ', β', by simp only [sTryIsi, e], rfl, p, q, kk⟩
  · obtain ⟨c, ρ', μ', β', e, p, f, kk⟩ := q
    cases hc : hit c with
    | none => exact absurd (by simp only [sTryIsi, e, hc]) hb
    | some b =>
      have ee : sTryIsi hit db (P.cx k) ρ μ = .ret (.bool b) μ' := by simp only [sTryIsi, e, hc]
      obtain ⟨a, rfl⟩ : ∃ a, v = .ref a := by obtain ⟨a, _, _, h0, _⟩ := f; exact ⟨a, h0⟩
      obtain ⟨Z, hm, b1, b2, b3, k1, k2, k3, rfl⟩ := hh c b hc
      refine noted_at kk p.inv (fun a q => p.back kk.live q) f fun h' c1 f1 _ => ?_
      refine setFlight_fly (s := { s₁ with heap := h' }) f1 fun h'' c2 (f2 : Fly P.toPl β' none s.heap h'' (.ref a) c) => ?_
      obtain ⟨m, hn, _⟩ := kk.ns
      have H : Held P B A env β s β' μ' a c m { s₁ with heap := h'' } := ⟨p.chg (c1.trans c2), (kk.chg (c1.trans c2)).forget, (c1.trans c2).ns hn, f2.held⟩
      have KI : ∀ {m : Str → Option Value} {s' : Shared}, Held P B A env β s β' μ' a c m s' → K.In s'.heap := fun H => KX.keeps H.post.inv.base
      refine wpAny_handleBy_cons (codeAny_handlers_test (H.glob G x1 x1' hW ?_)) (by intro q; cases q)
      obtain ⟨ox, Ia⟩ := H.inst
      refine Looks.at (exm_one (KI H) Ia.type hm) ?_
      show codeAny _ _ _ _ _
      refine codeAny_handlers_suite_as (setFlight_fly (s := { s₁ with heap := h'' }) f2 fun h₃ c3 (f3 : Fly P.toPl β' none s.heap h₃ (.ref a) c) => ?_)
      have H₃ : Held P B A env β s β' μ' a c m { s₁ with heap := h₃ } := H.chg c3 f3.held
      have hkd : env.scope.kind = .function := by
        have := H₃.eo.ok
        simp only [Blk.ok, Bool.and_eq_true, beq_iff_eq] at this
        rw [H₃.eo.sc]; exact this.1.1
      have kn : env.kindOf n = some .local := by show env.scope.names.lookup n = _; rw [H₃.eo.sc]; exact l1
      have ky : env.kindOf y = some .local := by show env.scope.names.lookup y = _; rw [H₃.eo.sc]; exact l2
      refine wpAny_storeName_local kn H₃.ns (fun h₄ n4 s4 => ?_) (by rw [hkd]; rfl)
      have H₄ := H₃.local (s₁.toks + 1) n4 s4
      generalize hm4 : (fun z => if z = n then some (Value.ref a) else m z) = m4 at H₄
      have v4 : m4 n = some (.ref a) := by rw [← hm4]; simp
      generalize hS4 : ({ s₁ with heap := h₄, toks := s₁.toks + 1 } : Shared) = S4 at H₄
      show wpAny _ _ (execs _ env) _ _ S4
      refine wpAny_execs_cons ?_
      refine wpAny_Assign_Name (H₄.isi G x6 l1 l1' v4 rfl (fun _ => rfl) (wpAny_Tuple (wpAny_items_cons (H₄.glob G x2 x2' g1 (wpAny_items_cons (H₄.glob G x3 x3' g2 (wpAny_items_cons (H₄.glob G x4 x4' g3 (wpAny_items_nil ⟨lim_line (by show 3 ≤ lim; decide), ?_⟩)) rfl)) rfl)) rfl))) rfl
      have H₅ := H₄.grow (h' := S4.heap.push { cls := .type "tuple", data := .seq [Value.ref A1, .ref A2, .ref A3].toArray }) S4.toks fun _ _ e => Heap.get?_push_of_some _ e
      refine kia_tup (kitx_exc Z) (KI H₅) H₅.inst (Heap.get?_push_size _ rfl) k1 (by intro q; cases q) fun tk => ?_
      have H₆ := H₅.toks tk
      refine wpAny_storeName_local ky H₆.ns (fun h₇ n7 s7 => ?_) (by rw [hkd]; rfl)
      have H₇ := H₆.local (tk + 1) n7 s7
      have v7n : (fun z => if z = y then some (Value.bool b1) else m4 z) n = some (.ref a) := by simp only [hny, if_false]; exact v4
      have v7y : (fun z => if z = y then some (Value.bool b1) else m4 z) y = some (.bool b1) := by simp
      have fin : ∀ (m : Str → Option Value) (s' : Shared), Held P B A env β s β' μ' a c m s' → wpAny P.M A (do bindName env n .none; unbindBehindTheSuite env n hpos) (fun _ s₃ => OkS P B A env β s (sTryIsi hit db (P.cx k) ρ μ) (.ret (.bool (b2 && (b3 && !b1)))) s₃) (ExS P B A env β s (sTryIsi hit db (P.cx k) ρ μ)) s' := fun m s' H => by
        refine wpAny_nameGoes kn H.ns (by rw [hkd]; rfl) fun h' m' hn' hs => ?_
        have H' := H.local (s'.toks + 1) hn' hs
        exact .inr ⟨.bool _, .bool _, μ', β', ee, rfl, H'.post, .bool _, H'.eo⟩
      generalize hS7 : (Shared.mk h₇ _ _ (tk + 1) _) = S7 at H₇
      generalize (fun z => if z = y then some (Value.bool b1) else m4 z) = m7 at H₇ v7n v7y
      show wpAny _ _ (execs _ env) _ _ _
      refine wpAny_execs_cons (wpAny_Return_some ?_)
      show wpAny _ _ (boolOp _ .And (evalEach _ env)) _ _ _
      refine and_bools (b1 := b2) (H₇.isi G x6 l1 l1' v7n rfl (fun _ => rfl) (H₇.glob G x5 x5' g4 (kia_one (kitx_exc Z) (KI H₇) H₇.inst k2 (by intro q; cases q) fun tk => ⟨rfl, ?_⟩)))
      have H₈ := H₇.toks tk
      cases b2 with
      | false => exact fin _ _ H₈
      | true =>
        rw [if_pos rfl]
        refine and_bools (b1 := b3) (H₈.isi G x6 l1 l1' v7n rfl (fun _ => rfl) (H₈.blt G x7 x7' (by decide) (v := .type "ValueError") (by decide) (kia_one (kitx_exc Z) (KI H₈) H₈.inst k3 (by intro q; cases q) fun tk => ⟨rfl, ?_⟩)))
        have H₉ := H₈.toks tk
        cases b3 with
        | false => exact fin _ _ H₉
        | true =>
          rw [if_pos rfl]
          show wpAny _ _ (eval (.UnaryOp .Not (.Name y p18) pn) env) _ _ _
          refine wpAny_UnaryOp (H₉.var l2 l2' v7y (not_value (wpAny_pure ?_)))
          exact fin _ _ H₉
end
end
end Mine
end
section
set_option autoImplicit false
set_option backward.eqns.nonrecursive false
namespace Mine
noncomputable section
open PySem PyProof.Rows PySem.SeqAt

structure Nm where
  i : Nat
  x : Str
  k : NameKind
  p : Pos
noncomputable def Nm.e (z : Nm) : Expr := .Name z.x z.p
noncomputable def Nm.ok (B : Blk) (z : Nm) : Prop := B.tab[z.i]? = some (some (z.x, z.k)) ∧ (z.k = .local ∨ z.k = .cell)
theorem nm_nil {B : Blk} : ∀ z ∈ ([] : List Nm), z.ok B := fun _ h => by cases h
theorem nm_cons {B : Blk} {z : Nm} {zs : List Nm} (h : z.ok B) (hs : ∀ z ∈ zs, z.ok B) : ∀ y ∈ z :: zs, y.ok B := fun y hy => by
  rcases List.mem_cons.mp hy with rfl | hy
  · exact h
  · exact hs y hy
noncomputable def setAll : List Nm → List V → Fr → Fr
  | z :: zs, v :: vs, ρ => setAll zs vs (ρ.set z.i v)
  | _, _, ρ => ρ
noncomputable def setIds : List Nat → List V → Fr → Fr
  | i :: zs, v :: vs, ρ => setIds zs vs (ρ.set i v)
  | _, _, ρ => ρ
theorem setAll_ids : ∀ (zs : List Nm) (vs : List V) (ρ : Fr), setAll zs vs ρ = setIds (zs.map (·.i)) vs ρ
  | [], _, _ => rfl
  | _ :: _, [], _ => rfl
  | _ :: zs, _ :: vs, _ => setAll_ids zs vs _
noncomputable def sUnp (is : List Nat) (d : DE) : DS := fun c ρ μ => (d c ρ μ).thenS ρ fun v μ => match v with
  | .tup vs => if vs.length = is.length then .next (setIds is vs ρ) μ else .bad
  | _ => .bad

section
variable {P : Pg} {B : Blk}
theorem assignEach_names (env : Env) : ∀ zs : List Nm, (assignEach (zs.map Nm.e) env).map (·.2) = zs.map (fun z => assign z.e env) ∧ (assignEach (zs.map Nm.e) env).length = zs.length ∧ (assignEach (zs.map Nm.e) env).findIdx? (·.1) = none
  | [] => ⟨rfl, rfl, rfl⟩
  | z :: zs => by
    obtain ⟨h1, h2, h3⟩ := assignEach_names env zs
    have e : assignEach ((z :: zs).map Nm.e) env = (false, assign z.e env) :: assignEach (zs.map Nm.e) env := rfl
    rw [e]
    refine ⟨by rw [List.map_cons, List.map_cons, h1], by simp [h2], ?_⟩
    rw [List.findIdx?_cons, h3]; rfl

theorem assign_names {n : Nat} {A : Around} {env : Env} {μ : Mem} {Q : Unit → Shared → Prop} {E : Value → Shared → Prop} : ∀ (zs : List Nm) (vs : List V) (us : List Value) (β : Bk) (ρ : Fr) (s : Shared), zs.length = vs.length → (∀ z ∈ zs, z.ok B) → At P B n A env β ρ μ s → RelL P.toPl β s.heap vs us →
    (∀ s', PostS P.toPl (own env) β β μ s s' → EnvOk P B A env β (setAll zs vs ρ) s'.heap → Q () s') → wpAny P.M A (assignInOrder (zs.map (fun z => assign z.e env)) us) Q E s
  | [], vs, us, β, ρ, s, hl, hz, X, r, h => by
    obtain rfl : vs = [] := List.length_eq_zero_iff.mp hl.symm
    exact assignInOrder_nil (h s ((Post.refl X.inv).own X.env.live) X.env)
  | z :: zs, [], us, β, ρ, s, hl, hz, X, r, h => by cases hl
  | z :: zs, v :: vs, us, β, ρ, s, hl, hz, X, r, h => by
    cases r with
    | cons r rs =>
      refine assignInOrder_cons ?_
      obtain ⟨z1, z2⟩ := hz z List.mem_cons_self
      refine wpAny_assign_Name (store_ok X z1 z2 r fun s' p he => ?_)
      have X' := X.next p he
      refine assign_names zs vs _ β _ s' (by simpa using hl) (fun w hw => hz w (List.mem_cons_of_mem _ hw)) X' (rs.monoS X.inv X.env.ownOk p) fun s'' p' he' => ?_
      exact h s'' (p.trans p') he'

theorem assign_tup {n : Nat} {A : Around} {env : Env} {β : Bk} {ρ : Fr} {μ : Mem} {s : Shared} {Q : Unit → Shared → Prop} {E : Value → Shared → Prop} {zs : List Nm} {vs : List V} {u : Value} {kt : Nat} {pt : Pos} (hl : zs.length = vs.length) (hz : ∀ z ∈ zs, z.ok B) (X : At P B n A env β ρ μ s) (r : Rel P.toPl β s.heap (.tup vs) u)
    (h : ∀ s', PostS P.toPl (own env) β β μ s s' → EnvOk P B A env β (setAll zs vs ρ) s'.heap → Q () s') : wpAny P.M A (assign (.Tuple (zs.map Nm.e) kt pt) env u) Q E s := by
  obtain ⟨a, us, m, rfl, g, rs, l⟩ := r.tup'
  obtain ⟨h1, h2, h3⟩ := assignEach_names env zs
  have hz' := rs.length
  refine wpAny_assign_Tuple X.room.2.2 ⟨_, g, rfl, m, rfl⟩ (by rw [h2, hl, hz']; simp) h3 fun h' hk => ?_
  have k : ∀ b o, s.heap.get? b = some o → h'.get? b = some o := fun b o e => hk b o (fun q => by rw [q, get_size] at e; cases e) e
  have p₁ : Post P.toPl β β μ s { s with heap := h', toks := s.toks } := Post.other X.inv s.toks k
  have X₁ := X.post p₁
  rw [h1]
  exact assign_names zs vs _ β ρ _ hl hz X₁ (rs.post X.inv p₁) fun s' p' he => h s' ((p₁.own X.env.live).trans p') he

theorem SimX.unp {zs : List Nm} {e : Expr} {d : DE} {kt : Nat} {pt pos : Pos} (hz : ∀ z ∈ zs, z.ok B) (hs : ∀ env, swapsWithSole [.Tuple (zs.map Nm.e) kt pt] e pos.line env = pure false) (hw : ∀ env, swappedStores [.Tuple (zs.map Nm.e) kt pt] e env = pure none) (h : SimE P B e d) :
    SimX P B (.Assign [.Tuple (zs.map Nm.e) kt pt] e pos) (sUnp (zs.map (·.i)) d) := fun n A env β ρ μ s X hb => by
  refine Assign_Tuple (useES h X hb (fun v μ₁ β₁ u s₁ e₁ p₁ r₁ hb₁ X₁ => ?_) fun u s₁ q => q) (hs env) (hw env)
  cases v with
  | tup vs =>
    simp only at hb₁
    by_cases hl : vs.length = (zs.map (·.i)).length
    · have e0 : sUnp (zs.map (·.i)) d (P.cx n) ρ μ = .next (setIds (zs.map (·.i)) vs ρ) μ₁ := by simp only [sUnp, e₁, R.thenS]; rw [if_pos hl]
      rw [e0]
      refine assign_tup (by rw [hl]; simp) hz X₁ r₁ fun s' p he => ?_
      exact .inl ⟨_, μ₁, β₁, by rw [setAll_ids], rfl, (p₁.own X.env.live).trans p, he⟩
    · rw [if_neg hl] at hb₁; exact absurd rfl hb₁
  | _ => exact absurd rfl hb₁
end
end
end Mine
end
section
set_option autoImplicit false
set_option backward.eqns.nonrecursive false
namespace Mine
noncomputable section
open PySem PyProof.Rows PySem.SeqAt

noncomputable def enumL : Nat → List V → List V
  | _, [] => []
  | k, v :: r => .tup [.int k, v] :: enumL (k + 1) r
theorem enumL_get : ∀ (xs : List V) (k i : Nat), (enumL k xs)[i]? = (xs[i]?).map fun v => V.tup [.int ((k + i : Nat) : Int), v]
  | [], _, _ => by simp [enumL]
  | x :: xs, k, 0 => by simp [enumL]
  | x :: xs, k, i + 1 => by
    have := enumL_get xs (k + 1) i
    simp only [enumL, List.getElem?_cons_succ, this]
    rw [show k + 1 + i = k + (i + 1) by omega]
theorem enumL_length : ∀ (xs : List V) (k : Nat), (enumL k xs).length = xs.length
  | [], _ => rfl
  | _ :: xs, k => by simp [enumL, enumL_length xs (k + 1)]
noncomputable def iEnum (d : DE) : DI := fun c ρ μ => (d c ρ μ).bind fun v μ => match v with
  | .ref a => match μ[a]? with
    | some (.list xs) => .ok ⟨enumL 0 xs, fun μ => decide (μ[a]? = some (.list xs))⟩ μ
    | _ => .bad
  | _ => .bad

section
variable {P : Pg} {B : Blk} {A : Around}
noncomputable def EnumSt (a : Nat) (e it l : Addr) (k : Nat) (β : Bk) (h : Heap) : Prop := (∃ old, IsEnum h e it k old) ∧ h.IsListIter it l k ∧ β[a]? = some l
theorem EnumSt.stay {a : Nat} {e it l : Addr} {k : Nat} {β β' : Bk} {μ' : Mem} {s s' : Shared} {W : List Addr} (st : EnumSt a e it l k β s.heap) (p : PostS P.toPl W β β' μ' s s') (hv : ∀ b ∈ [e, it], b ∉ W ∧ b ∉ β) : EnumSt a e it l k β' s'.heap := by
  obtain ⟨⟨old, h1⟩, ⟨o, h2, h3, h4⟩, h5⟩ := st
  obtain ⟨o1, e1, s1⟩ := p.keep e _ h1 (hv e (by simp)).2 (hv e (by simp)).1
  obtain ⟨o2, e2, s2⟩ := p.keep it _ h2 (hv it (by simp)).2 (hv it (by simp)).1
  rw [s1.eq (by simp)] at e1
  rw [s2.eq (by rw [h4]; simp)] at e2
  exact ⟨⟨old, e1⟩, ⟨o, e2, h3, h4⟩, prefix_get p.pre h5⟩

theorem Turns.enum (hh : A.handled = none) {a : Nat} {e it l : Addr} {xs : List V} {z1 z2 : Nm} {kt : Nat} {pt : Pos} (h1 : z1.ok B) (h2 : z2.ok B) (hei : e ≠ it) :
    Turns P A B (.Tuple [z1.e, z2.e] kt pt) (bd2 z1.i z2.i) own e (enumL 0 xs) (fun μ => decide (μ[a]? = some (.list xs))) [e, it] (EnumSt a e it l) where
  sub := fun _ _ h => h
  stay := fun k β β' μ μ' s s' W st _ _ p hv => st.stay p hv
  here := fun k β h st b hb => by
    obtain ⟨⟨old, g1⟩, ⟨o, g2, g3, g4⟩, _⟩ := st
    rcases List.mem_cons.mp hb with rfl | hb
    · exact ⟨_, g1, ⟨_, rfl⟩, _, rfl⟩
    · rw [List.mem_singleton.mp hb]; exact ⟨o, g2, ⟨_, g4⟩, _, g3⟩
  self := fun k β s Q E st h => by
    obtain ⟨⟨old, g1⟩, _⟩ := st
    exact wpAny_pyIter_enum g1 h
  item := fun k v n env β ρ ρ' μ s Q E hj hc X hv st hρ h => by
    obtain ⟨⟨old, g1⟩, g2, g3⟩ := id st
    obtain ⟨_, vs, m, q, b1, b2, b3⟩ := (X.inv.obj a _ l (of_decide_eq_true hc) g3).lst
    cases q
    rw [enumL_get] at hj
    obtain ⟨x, hx, rfl⟩ := Option.map_eq_some_iff.mp hj
    obtain ⟨u, hu, r⟩ := b2.get hx
    have hV : ∀ b ∈ [e, it], ∀ o, s.heap.get? b = some o → (∃ vs, o.data = .fields vs) ∧ ∃ T, o.cls = .type T := fun b hb o e' => by
      obtain ⟨⟨old, g1⟩, ⟨o', g2, g3, g4⟩, _⟩ := st
      rcases List.mem_cons.mp hb with rfl | hb
      · rw [g1] at e'; cases e'; exact ⟨⟨_, rfl⟩, _, rfl⟩
      · rw [List.mem_singleton.mp hb, g2] at e'; cases e'; exact ⟨⟨_, g4⟩, _, g3⟩
    refine wpAny_pyNext_enum_item g1 g2 ⟨_, b1, rfl, m, rfl⟩ (by simpa using hu) hei fun h' ho hit' ht hsz hk => ?_
    refine wpAny_letOwnedTupleGo_enum ho fun h₂ he₂ hs₂ => ?_
    have hel : s.heap.objs.size ≠ e := fun q => by
      have g1' : s.heap.get? e = _ := g1
      rw [← q, get_size] at g1'; cases g1'
    have hk2 : ∀ b o, s.heap.get? b = some o → b ∉ [e, it] → h₂.get? b = some o := fun b o e' hb => by
      simp only [List.mem_cons, List.not_mem_nil, or_false, not_or] at hb
      exact (hs₂.2 b hb.1).trans (hk b o hb.1 hb.2 e')
    have pV := postV (s.toks + 1) X.inv (fun b hb => (hv b hb).2) hV hk2
    have E₁ := X.env.postV X.inv hV pV
    have X₁ : At P B n A env β ρ μ { s with heap := h₂, toks := s.toks + 1 } := ⟨X.good, X.call, X.room, E₁, pV.inv⟩
    have hO : OwnOk [e, it] s.heap := fun b hb o e' => .inr (.inr (.inl (hV b hb o e')))
    have rt : Rel P.toPl β h₂ (.tup [.int k, x]) (.ref s.heap.objs.size) := .tup ((hs₂.2 _ hel).trans ht) (.cons (.int _ _) (.cons (r.monoS X.inv hO pV) .nil)) (by show 2 ≤ lim; decide)
    have st' : EnumSt a e it l (k + 1) β h₂ := ⟨⟨_, he₂⟩, by
      obtain ⟨o, w1, w2⟩ := hit'
      exact ⟨o, (hs₂.2 it (Ne.symm hei)).trans w1, w2⟩, g3⟩
    have hρ' : ρ' = setAll [z1, z2] [.int k, x] ρ := by
      simp only [bd2, Nat.zero_add, Option.some.injEq] at hρ
      exact hρ.symm
    refine assign_tup (zs := [z1, z2]) rfl (fun z hz => by
      rcases List.mem_cons.mp hz with rfl | hz
      · exact h1
      · rw [List.mem_singleton.mp hz]; exact h2) X₁ rt fun s' p' he => ?_
    have p1 : PostS P.toPl ([e, it] ++ own env) β β μ s { s with heap := h₂, toks := s.toks + 1 } := own_app pV fun b hb => X.env.live b hb
    have p2 : PostS P.toPl ([e, it] ++ own env) β β μ { s with heap := h₂, toks := s.toks + 1 } s' := p'.weaken (fun b hb => List.mem_append_right _ hb) fun b hb hn => absurd hb hn
    exact h s' (p1.trans p2) (hρ' ▸ he) (EnumSt.stay (s := { s with heap := h₂, toks := s.toks + 1 }) st' p' fun b hb => ⟨(hv b hb).1, (hv b hb).2.1⟩)
  done := fun n env β ρ μ s Q E hc X hv st h => by
    obtain ⟨⟨old, g1⟩, g2, g3⟩ := id st
    obtain ⟨_, vs, m, q, b1, b2, b3⟩ := (X.inv.obj a _ l (of_decide_eq_true hc) g3).lst
    cases q
    have hV : ∀ b ∈ [e, it], ∀ o, s.heap.get? b = some o → (∃ vs, o.data = .fields vs) ∧ ∃ T, o.cls = .type T := fun b hb o e' => by
      obtain ⟨⟨old, g1⟩, ⟨o', g2, g3, g4⟩, _⟩ := st
      rcases List.mem_cons.mp hb with rfl | hb
      · rw [g1] at e'; cases e'; exact ⟨⟨_, rfl⟩, _, rfl⟩
      · rw [List.mem_singleton.mp hb, g2] at e'; cases e'; exact ⟨⟨_, g4⟩, _, g3⟩
    rw [enumL_length] at g1 g2
    have hlen := b2.length
    refine wpAny_pyNext_enum_end hh g1 g2 ⟨_, b1, rfl, m, rfl⟩ (by simp at hlen; simp [hlen]) fun h' hk => ?_
    have pV := postV s.toks X.inv (fun b hb => (hv b hb).2) hV (h' := h') fun b o e' hb => hk b o (fun q => hb (by rw [q]; simp)) e'
    exact h _ (own_app pV fun b hb => X.env.live b hb) (X.env.postV X.inv hV pV)

theorem SimI.enum {x : Expr} {d : DE} {z1 z2 : Nm} {kt : Nat} {pt p pos : Pos} (h1 : z1.ok B) (h2 : z2.ok B) (hx : B.sc.names.lookup (Str.ofString "enumerate") = some .globalImplicit) (hp : plainArgs [x] = true) (hn : ∀ env, starEach [x] env = [(false, eval x env)]) (h : SimE P B x d) :
    SimI P B B (.Call (.Name (Str.ofString "enumerate") p) [x] [] pos) (.Tuple [z1.e, z2.e] kt pt) (bd2 z1.i z2.i) own (iEnum d) := fun n A env β ρ μ s E Q X hb ok ex => by
  refine Call_Name rfl (X.blt hx (by decide) (by decide) (v := .type "enumerate") (by decide) ?_)
  refine callWith_plain (fun _ q => by cases q) (plain_trees hp) ?_
  refine wpAny_items_cons (useE h X hb (fun v μ₁ β₁ u s₁ e₁ p₁ r₁ hb₁ X₁ => ?_) ex) (hn env)
  refine wpAny_items_nil ?_
  cases v with
  | ref a =>
    obtain ⟨l, rfl, g⟩ := r₁.ref'
    simp only at hb₁
    cases hm : μ₁[a]? with
    | none => rw [hm] at hb₁; exact absurd rfl hb₁
    | some o =>
      rw [hm] at hb₁
      cases o with
      | list xs =>
        obtain ⟨_, vs, m, q, b1, b2, b3⟩ := (X₁.inv.obj a _ l hm g).lst
        cases q
        refine call_enumerate_1 b1 fun h' ge gi _ hk => ?_
        have p₂ : Post P.toPl β₁ β₁ μ₁ s₁ { s₁ with heap := h', toks := s₁.toks } := Post.other X₁.inv s₁.toks hk
        have hne : s₁.heap.get? (s₁.heap.objs.size + 1) = none := Heap.get?_none_of_le (Nat.le_succ _)
        refine wpAny_pyIter_enum ge ?_
        refine ok ⟨enumL 0 xs, fun μ => decide (μ[a]? = some (.list xs))⟩ μ₁ β₁ _ _ [_, s₁.heap.objs.size] _ (by simp only [iEnum, e₁, R.bind, hm]) (p₁.trans p₂) (Turns.enum (l := l) X.room.2.2 h1 h2 (Nat.ne_of_gt (Nat.lt_succ_self _))) ⟨⟨_, ge⟩, gi, g⟩ fun b hb => ?_
        rcases List.mem_cons.mp hb with rfl | hb
        · exact ⟨p₁.back hne, X₁.inv.out hne⟩
        · rw [List.mem_singleton.mp hb]; exact ⟨p₁.back (get_size _), X₁.inv.out (get_size _)⟩
      | inst => exact absurd rfl hb₁
      | ns => exact absurd rfl hb₁
      | dic => exact absurd rfl hb₁
  | _ => exact absurd rfl hb₁
end
end
end Mine
end
section
set_option autoImplicit false
set_option backward.eqns.nonrecursive false
namespace Mine
noncomputable section
open PySem PyProof.Rows PySem.SeqAt

section
variable {P : Pg} {B : Blk}
theorem Compare2 {M : Model} {A : Around} {E : Value → Shared → Prop} {s : Shared} {env : Env} {l m r : Expr} {o1 o2 : CmpOp} {pos : Pos} {Q : Value → Shared → Prop} (hm : markedEach [o1, o2] [m, r] (evalEach [m, r] env) = [eval m env, eval r env])
    (h : wpAny M A (eval l env) (fun a s₁ => wpAny M A (eval m env) (fun b s₂ => wpAny M A (compareOp o1 a b) (fun c s₃ => ∃ t : Bool, c = .bool t ∧ (t = true → wpAny M A (eval r env) (fun d s₄ => wpAny M A (compareOp o2 b d) Q E s₄) E s₃) ∧ (t = false → Q (.bool false) s₃)) E s₂) E s₁) E s) :
    wpAny M A (eval (.Compare l [o1, o2] [m, r] pos) env) Q E s := by
  rw [arm_eval_Compare, hm]
  refine wpAny_bind (wpAny_mono h (fun a s₁ h₁ => ?_) fun _ _ q => q)
  show wpAny M A (do
    let rv ← holding [a] (eval m env)
    standAt pos
    let c ← holding [a, rv] (compareOp o1 a rv)
    release [a, rv] [c]
    if ← holding [c, rv] (truthy c) then compareChain pos rv [o2] [eval r env] else pure c) Q E s₁
  refine wpAny_bind (wpAny_holding (wpAny_mono h₁ (fun b s₂ h₂ => wpAny_bind (wpAny_standAt (wpAny_bind (wpAny_holding (wpAny_mono h₂ (fun c s₃ h₃ => ?_) fun _ _ q => q))))) fun _ _ q => q))
  obtain ⟨t, rfl, h4, h5⟩ := h₃
  refine wpAny_bind (wpAny_release (wpAny_bind (wpAny_holding (wpAny_truthy_bool ?_))))
  cases t with
  | true =>
    rw [if_pos rfl]
    show wpAny M A (do
      let rv ← holding [b] (eval r env)
      standAt pos
      operate [b, rv] (compareOp o2 b rv)) Q E s₃
    exact wpAny_bind (wpAny_holding (wpAny_mono (h4 rfl) (fun d s₄ h₆ => wpAny_bind (wpAny_standAt (wpAny_operate' h₆))) fun _ _ q => q))
  | false => rw [if_neg (by simp)]; exact wpAny_pure (h5 rfl)
theorem isTrue_Compare2 {M : Model} {A : Around} {E : Value → Shared → Prop} {s : Shared} {env : Env} {l m r : Expr} {o1 o2 : CmpOp} {pos : Pos} {whole : Sem Value} {Q : Bool → Shared → Prop} (hm : markedEach [o1, o2] [m, r] (evalEach [m, r] env) = [eval m env, eval r env])
    (h : wpAny M A (eval l env) (fun a s₁ => wpAny M A (eval m env) (fun b s₂ => wpAny M A (compareOp o1 a b) (fun c s₃ => ∃ t : Bool, c = .bool t ∧ (t = true → wpAny M A (eval r env) (fun d s₄ => wpAny M A (compareOp o2 b d) (fun c s₅ => wpAny M A (truthy c) Q E s₅) E s₄) E s₃) ∧ (t = false → Q false s₃)) E s₂) E s₁) E s) :
    wpAny M A (isTrue (.Compare l [o1, o2] [m, r] pos) env whole) Q E s := by
  show wpAny M A (do testChain pos (← eval l env) [o1, o2] (markedEach [o1, o2] [m, r] (evalEach [m, r] env))) Q E s
  rw [hm]
  refine wpAny_bind (wpAny_mono h (fun a s₁ h₁ => ?_) fun _ _ q => q)
  show wpAny M A (do
    let rv ← holding [a] (eval m env)
    standAt pos
    let c ← holding [a, rv] (compareOp o1 a rv)
    release [a, rv] [c]
    if ← holding [c, rv] (truthy c) then testChain pos rv [o2] [eval r env] else pure false) Q E s₁
  refine wpAny_bind (wpAny_holding (wpAny_mono h₁ (fun b s₂ h₂ => wpAny_bind (wpAny_standAt (wpAny_bind (wpAny_holding (wpAny_mono h₂ (fun c s₃ h₃ => ?_) fun _ _ q => q))))) fun _ _ q => q))
  obtain ⟨t, rfl, h4, h5⟩ := h₃
  refine wpAny_bind (wpAny_release (wpAny_bind (wpAny_holding (wpAny_truthy_bool ?_))))
  cases t with
  | true =>
    rw [if_pos rfl]
    show wpAny M A (do
      let rv ← holding [b] (eval r env)
      standAt pos
      let c ← operate [b, rv] (compareOp o2 b rv)
      holding [c] (truthy c)) Q E s₃
    exact wpAny_bind (wpAny_holding (wpAny_mono (h4 rfl) (fun d s₄ h₆ => wpAny_bind (wpAny_standAt (wpAny_bind (wpAny_operate' (wpAny_mono h₆ (fun c s₅ h₇ => wpAny_holding h₇) fun _ _ q => q))))) fun _ _ q => q))
  | false => rw [if_neg (by simp)]; exact wpAny_pure (h5 rfl)

theorem SimE.cmp2 {l m r : Expr} {o1 o2 : CmpOp} {pos : Pos} {dl dm dr : DE} {f g : Mem → V → V → Option Bool} (k1 : CmpOk P o1 f) (k2 : CmpOk P o2 g) (hm : ∀ env, markedEach [o1, o2] [m, r] (evalEach [m, r] env) = [eval m env, eval r env]) (hl : SimE P B l dl) (hM : SimE P B m dm) (hr : SimE P B r dr) :
    SimE P B (.Compare l [o1, o2] [m, r] pos) (dCmp2 f g dl dm dr) := fun n A env β ρ μ s X hb => by
  refine Compare2 (hm env) (useE hl X hb (fun a μ₁ β₁ x s₁ e₁ p₁ r₁ hb₁ X₁ => ?_) fun u s₁ q => q)
  have e0 : dCmp2 f g dl dm dr (P.cx n) ρ μ = (dm (P.cx n) ρ μ₁).bind fun b μ => (R.opt μ (f μ a b)).bind fun t μ => if t then (dr (P.cx n) ρ μ).bind fun x μ => (R.opt μ (g μ b x)).bind fun t μ => .ok (.bool t) μ else .ok (.bool false) μ := by simp only [dCmp2, e₁]; rfl
  refine useE hM X₁ hb₁ (fun b μ₂ β₂ y s₂ e₂ p₂ r₂ hb₂ X₂ => ?_) fun u s₂ q => by rw [e0]; exact q.after p₁
  have p12 := p₁.trans p₂
  cases ht : f μ₂ a b with
  | none => simp only [ht, R.opt, R.bind] at hb₂; exact absurd rfl hb₂
  | some t =>
    simp only [ht, R.opt, R.bind] at hb₂
    refine k1 A β₂ μ₂ s₂ a b x y t _ _ X₂.units X₂.inv (r₁.post X₁.inv p₂) r₂ ht fun tk => ⟨t, rfl, fun q => ?_, fun q => ?_⟩
    · subst q
      rw [if_pos rfl] at hb₂
      have e3 : dCmp2 f g dl dm dr (P.cx n) ρ μ = (dr (P.cx n) ρ μ₂).bind fun x μ => (R.opt μ (g μ b x)).bind fun t μ => .ok (.bool t) μ := by rw [e0, e₂]; simp only [R.bind, R.opt, ht]; rfl
      have p₃ : Post P.toPl β₂ β₂ μ₂ s₂ { s₂ with toks := tk } := Post.toks X₂.inv tk
      refine useE hr (X₂.post p₃) hb₂ (fun c μ₃ β₃ z s₃ e₃ p₄ r₃ hb₃ X₃ => ?_) fun u s₃ q => by rw [e3]; exact (q.after p₃).after p12
      cases hg : g μ₃ b c with
      | none => simp only [hg, R.opt, R.bind] at hb₃; exact absurd rfl hb₃
      | some t =>
        refine k2 A β₃ μ₃ s₃ b c y z t _ _ X₃.units X₃.inv ((r₂.post X₂.inv p₃).post p₃.inv p₄) r₃ hg fun tk => ?_
        have e4 : dCmp2 f g dl dm dr (P.cx n) ρ μ = .ok (.bool t) μ₃ := by rw [e3, e₃]; simp only [R.bind, R.opt, hg]
        rw [e4]; exact ((okTok tk X₃.inv (.bool t)).after (p₃.trans p₄)).after p12
    · subst q
      have e3 : dCmp2 f g dl dm dr (P.cx n) ρ μ = .ok (.bool false) μ₂ := by rw [e0, e₂]; simp only [R.bind, R.opt, ht]; rfl
      rw [e3]; exact (okTok tk X₂.inv (.bool false)).after p12
theorem SimT.cmp2 {l m r : Expr} {o1 o2 : CmpOp} {pos : Pos} {dl dm dr : DE} {f g : Mem → V → V → Option Bool} (k1 : CmpOk P o1 f) (k2 : CmpOk P o2 g) (hm : ∀ env, markedEach [o1, o2] [m, r] (evalEach [m, r] env) = [eval m env, eval r env]) (hl : SimE P B l dl) (hM : SimE P B m dm) (hr : SimE P B r dr) :
    SimT P B (.Compare l [o1, o2] [m, r] pos) (tCmp2 f g dl dm dr) := fun n A env β ρ μ s X hb => by
  refine isTrue_Compare2 (hm env) (useE hl X hb (fun a μ₁ β₁ x s₁ e₁ p₁ r₁ hb₁ X₁ => ?_) fun u s₁ q => q)
  have e0 : tCmp2 f g dl dm dr (P.cx n) ρ μ = (dm (P.cx n) ρ μ₁).bind fun b μ => (R.opt μ (f μ a b)).bind fun t μ => if t then (dr (P.cx n) ρ μ).bind fun x μ => R.opt μ (g μ b x) else .ok false μ := by simp only [tCmp2, e₁]; rfl
  refine useE hM X₁ hb₁ (fun b μ₂ β₂ y s₂ e₂ p₂ r₂ hb₂ X₂ => ?_) fun u s₂ q => by rw [e0]; exact q.after p₁
  have p12 := p₁.trans p₂
  cases ht : f μ₂ a b with
  | none => simp only [ht, R.opt, R.bind] at hb₂; exact absurd rfl hb₂
  | some t =>
    simp only [ht, R.opt, R.bind] at hb₂
    refine k1 A β₂ μ₂ s₂ a b x y t _ _ X₂.units X₂.inv (r₁.post X₁.inv p₂) r₂ ht fun tk => ⟨t, rfl, fun q => ?_, fun q => ?_⟩
    · subst q
      rw [if_pos rfl] at hb₂
      have e3 : tCmp2 f g dl dm dr (P.cx n) ρ μ = (dr (P.cx n) ρ μ₂).bind fun x μ => R.opt μ (g μ b x) := by rw [e0, e₂]; simp only [R.bind, R.opt, ht]; rfl
      have p₃ : Post P.toPl β₂ β₂ μ₂ s₂ { s₂ with toks := tk } := Post.toks X₂.inv tk
      refine useE hr (X₂.post p₃) hb₂ (fun c μ₃ β₃ z s₃ e₃ p₄ r₃ hb₃ X₃ => ?_) fun u s₃ q => by rw [e3]; exact (q.after p₃).after p12
      cases hg : g μ₃ b c with
      | none => simp only [hg, R.opt] at hb₃; exact absurd rfl hb₃
      | some t =>
        refine k2 A β₃ μ₃ s₃ b c y z t _ _ X₃.units X₃.inv ((r₂.post X₂.inv p₃).post p₃.inv p₄) r₃ hg fun tk => wpAny_truthy_bool ?_
        have e4 : tCmp2 f g dl dm dr (P.cx n) ρ μ = .ok t μ₃ := by rw [e3, e₃]; simp only [R.bind, R.opt, hg]
        rw [e4]; exact ⟨μ₃, β₃, rfl, p12.trans ((p₃.trans p₄).trans (.toks X₃.inv tk))⟩
    · subst q
      have e3 : tCmp2 f g dl dm dr (P.cx n) ρ μ = .ok false μ₂ := by rw [e0, e₂]; simp only [R.bind, R.opt, ht]; rfl
      rw [e3]; exact ⟨μ₂, β₂, rfl, p12.trans (.toks X₂.inv tk)⟩

theorem SimE.gconst {x : Str} {v : V} {pos : Pos} (hx : B.sc.names.lookup x = some .globalImplicit) (hd : (x == ("__debug__" : Str)) = false) (hv : ∃ u, P.mg x = some u ∧ ∀ β h, Rel P.toPl β h v u) : SimE P B (.Name x pos) (dC v) := fun n A env β ρ μ s X hb => by
  obtain ⟨u, h1, h2⟩ := hv
  exact X.glob hx hd h1 (okNow X.inv (h2 β s.heap))
end
end
end Mine
end
section
set_option autoImplicit false
set_option backward.eqns.nonrecursive false
namespace Mine
noncomputable section
open PySem PyProof.Rows PySem.SeqAt

noncomputable def chrs (x : Str) : List V := x.cps.toList.map fun c => V.str ⟨#[c]⟩
noncomputable def iStr (d : DE) : DI := fun c ρ μ => (d c ρ μ).bind fun v μ => match v with
  | .str x => if x.cps.all (· < 128) then .ok ⟨chrs x, fun _ => true⟩ μ else .bad
  | _ => .bad
noncomputable def cInS (_ : Mem) (a : V) : V → Option Bool
  | .str x => match a with
    | .str y => some (Txt.contains x y)
    | _ => none
  | _ => none
noncomputable def bCount (μ : Mem) (a v : V) : R V := match a with
  | .ref i => match μ[i]? with
    | some (.list xs) => match toD deep μ v, allD (toD deep μ) xs with
      | some d, some ds => .ok (.int ((ds.countP fun y => PyData.eqv y d : Nat) : Int)) μ
      | _, _ => .bad
    | _ => .bad
  | _ => .bad
noncomputable def findFrom (p : PyData → Bool) (k : Nat) (ds : List PyData) : Option Nat := ((ds.drop k).findIdx? p).map (· + k)
noncomputable def bIndex2 (μ : Mem) (a v w : V) : R V := match a with
  | .ref i => match μ[i]? with
    | some (.list xs) => match toD deep μ v, allD (toD deep μ) xs, w with
      | some d, some ds, .int k => if 0 ≤ k ∧ k < 1000000000 then match findFrom (fun y => PyData.eqv y d) k.toNat ds with
          | some j => .ok (.int (j : Int)) μ
          | none => .bad
        else .bad
      | _, _, _ => .bad
    | _ => .bad
  | _ => .bad
noncomputable def dM2 (K : MK) (f : Mem → V → V → V → R V) (o e e' : DE) : DE := fun c ρ μ => (o c ρ μ).bind fun v μ => if hasK μ v K then (e c ρ μ).bind fun u μ => (e' c ρ μ).bind fun w μ => f μ v u w else .bad

section
variable {P : Pg} {B : Blk} {A : Around}
theorem Raw.str (hh : A.handled = none) {I : Addr} {x : Str} {t : Tok} (ha : x.cps.all (· < 128) = true) : Raw P A I (chrs x) (fun _ => true) [I] (fun i _ h => h.IsStrIter I "str_ascii_iterator" x t i) where
  stay := fun i β β' μ μ' s s' W st _ _ p hv => by
    obtain ⟨o, h1, h2, h3⟩ := st
    obtain ⟨o', e', hs⟩ := p.keep I o h1 (hv I (by simp)).2 (hv I (by simp)).1
    rw [hs.eq (by rw [h3]; simp)] at e'
    exact ⟨o, e', h2, h3⟩
  here := fun i β h st b hb => by
    obtain rfl : b = I := by simpa using hb
    obtain ⟨o, h1, h2, h3⟩ := st
    exact ⟨o, h1, ⟨_, h3⟩, _, h2⟩
  self := fun i β s Q E st h => wpAny_pyIter_striter_ascii st h
  item := fun i v β μ s Q E hv hc Iv hnb st h => by
    unfold chrs at hv
    rw [List.getElem?_map] at hv
    obtain ⟨c, hc', rfl⟩ := Option.map_eq_some_iff.mp hv
    have hcx : x.cps[i]? = some c := by rw [← Array.getElem?_toList]; exact hc'
    refine wpAny_pyNext_ascii_item st hcx fun h' hit hs => ?_
    refine h _ h' _ (.str ?_ (by show 1 ≤ lim; decide)) hit fun b o e hb => (hs.2 b (by simpa using hb)).trans e
    have hlt : c < 128 := by
      have := Array.all_eq_true_iff_forall_mem.mp ha c (Array.mem_of_getElem? hcx)
      simpa using this
    simp [PyData.strOk]
    omega
  done := fun β μ s Q E hc Iv hnb st h => by
    have hl : (chrs x).length = x.cps.size := by simp [chrs]
    refine wpAny_pyNext_ascii_end hh st (by rw [hl]; simp) fun h' hs => ?_
    exact h h' s.toks fun b o e hb => hs b o (by simpa using hb) e

theorem SimI.str {Bt : Blk} {e target : Expr} {d : DE} {bd : Bd} {tw : Env → List Addr} (hb : Bind Bt target bd tw) (h : SimE P B e d) : SimI P B Bt e target bd tw (iStr d) := fun n A env β ρ μ s E Q X hbad ok ex => by
  refine useE h X hbad (fun v μ₁ β₁ x s₁ e₁ p₁ r₁ hb₁ X₁ => ?_) ex
  cases v with
  | str x =>
    obtain ⟨t, rfl, _, _⟩ := r₁.str'
    simp only at hb₁
    by_cases ha : x.cps.all (· < 128) = true
    · rw [if_pos ha] at hb₁
      refine wpAny_pyIter_ascii ha ?_
      have p₂ : Post P.toPl β₁ β₁ μ₁ s₁ { s₁ with heap := s₁.heap.push { cls := .type "str_ascii_iterator", data := .fields #[.str x t, .int 0 0] }, toks := s₁.toks } := Post.other X₁.inv s₁.toks fun a o e => Heap.get?_push_of_some _ e
      refine ok ⟨chrs x, fun _ => true⟩ μ₁ β₁ _ s₁.heap.objs.size [s₁.heap.objs.size] _ (by simp only [iStr, e₁, R.bind, ha, if_true]) (p₁.trans p₂) (hb.make (Raw.str X.room.2.2 ha)) ⟨_, Heap.get?_push_size _ rfl, rfl, rfl⟩ fun a ha => ?_
      rw [List.mem_singleton.mp ha]; exact ⟨p₁.back (get_size _), X₁.inv.out (get_size _)⟩
    · rw [if_neg ha] at hb₁; exact absurd rfl hb₁
  | _ => exact absurd rfl hb₁

theorem cmpInS : CmpOk P .In cInS := fun A β μ s a b x y t Q E hu I ra rb h k => by
  cases b with
  | str v =>
    cases a with
    | str u =>
      obtain ⟨t1, rfl, _, _⟩ := ra.str'
      obtain ⟨t2, rfl, _, _⟩ := rb.str'
      cases h
      exact PySem.P.in_str (k s.toks)
    | _ => cases h
  | _ => cases h

end
end
end Mine
end
section
set_option autoImplicit false
set_option backward.eqns.nonrecursive false
set_option maxRecDepth 100000
namespace Mine
noncomputable section
open PySem PyProof.Rows PySem.SeqAt
open Sem (wp)
open PySem.MeetsSeq
open AutoSeq1 (wpAny_loadPart')

section
variable {P : Pg} {B : Blk} {A : Around}
noncomputable def B3Ok (P : Pg) (id : Value) (f : Mem → V → V → V → R V) : Prop :=
  ∀ A β μ s a x b y c z L, A.units + 200 < cLine → A.handled = none → Inv P.toPl β μ s.heap → Rel P.toPl β s.heap a x → Rel P.toPl β s.heap b y → Rel P.toPl β s.heap c z → f μ a b c ≠ .bad →
    wpAny P.M A (PySem.call id [x, y, z]) (OkE P.toPl β s (f μ a b c)) (ExE P.toPl L β s (f μ a b c)) s
end
end
end Mine
end
section
set_option autoImplicit false
set_option tactic.hygienic false
set_option backward.eqns.nonrecursive false
namespace Mine
noncomputable section
open PySem

noncomputable def ok {α : Type} (r : R α) (Q : α → Mem → Prop) : Prop := match r with
  | .ok a μ => Q a μ
  | _ => False
noncomputable def okS (r : RS) (Q : Fr → Mem → Prop) (T : V → Mem → Prop) : Prop := match r with
  | .next ρ μ => Q ρ μ
  | .ret v μ => T v μ
  | _ => False

section
variable {α β : Type} {c : Cx} {ρ : Fr} {μ : Mem}
theorem ok_ok {a : α} {Q : α → Mem → Prop} : ok (.ok a μ) Q = Q a μ := propext Iff.rfl
theorem ok_bind {r : R α} {f : α → Mem → R β} {Q : β → Mem → Prop} : ok (r.bind f) Q = ok r fun a μ => ok (f a μ) Q := by cases r <;> rfl
theorem ok_opt_some {a : α} {Q : α → Mem → Prop} : ok (R.opt μ (some a)) Q = Q a μ := propext Iff.rfl
theorem ok_mono {r : R α} {Q Q' : α → Mem → Prop} (h : ok r Q) (k : ∀ a μ, Q a μ → Q' a μ) : ok r Q' := by
  cases r with
  | ok a μ => exact k a μ h
  | exc => exact h
  | bad => exact h
theorem okS_mono {r : RS} {Q Q' : Fr → Mem → Prop} {T T' : V → Mem → Prop} (h : okS r Q T) (k : ∀ ρ μ, Q ρ μ → Q' ρ μ) (k' : ∀ v μ, T v μ → T' v μ) : okS r Q' T' := by
  cases r with
  | next ρ μ => exact k ρ μ h
  | ret v μ => exact k' v μ h
  | exc => exact h
  | bad => exact h
theorem ok_of {r : R α} {Q : α → Mem → Prop} (h : ok r Q) : ∃ a μ', r = .ok a μ' ∧ Q a μ' := by
  cases r with
  | ok a μ => exact ⟨a, μ, rfl, h⟩
  | exc => exact h.elim
  | bad => exact h.elim
theorem okS_then {r : R α} {f : α → Mem → RS} {Q : Fr → Mem → Prop} {T : V → Mem → Prop} : okS (r.thenS ρ f) Q T = ok r fun a μ => okS (f a μ) Q T := by cases r <;> rfl

theorem ok_dV {i : Nat} {Q : V → Mem → Prop} : ok (dV i c ρ μ) Q = match ρ i with | some a => Q a μ | none => False := by unfold dV; cases ρ i <;> rfl
theorem ok_dC {v : V} {Q : V → Mem → Prop} : ok (dC v c ρ μ) Q = Q v μ := propext Iff.rfl
theorem ok_dBin {f : V → V → Mem → R V} {l r : DE} {Q : V → Mem → Prop} : ok (dBin f l r c ρ μ) Q = ok (l c ρ μ) fun a μ => ok (r c ρ μ) fun b μ => ok (f a b μ) Q := by simp only [dBin, ok_bind]
theorem ok_dCmp {f : Mem → V → V → Option Bool} {l r : DE} {Q : V → Mem → Prop} : ok (dCmp f l r c ρ μ) Q = ok (l c ρ μ) fun a μ => ok (r c ρ μ) fun b μ => ok (R.opt μ (f μ a b)) fun t μ => Q (.bool t) μ := by simp only [dCmp, ok_bind]; rfl
theorem ok_tCmp {f : Mem → V → V → Option Bool} {l r : DE} {Q : Bool → Mem → Prop} : ok (tCmp f l r c ρ μ) Q = ok (l c ρ μ) fun a μ => ok (r c ρ μ) fun b μ => ok (R.opt μ (f μ a b)) Q := by simp only [tCmp, ok_bind]
theorem ok_dNil {Q : List V → Mem → Prop} : ok (dNil c ρ μ) Q = Q [] μ := propext Iff.rfl
theorem ok_dCons {d : DE} {r : DL} {Q : List V → Mem → Prop} : ok (dCons d r c ρ μ) Q = ok (d c ρ μ) fun v μ => ok (r c ρ μ) fun vs μ => Q (v :: vs) μ := by simp only [dCons, ok_bind]; rfl
theorem ok_dTup {r : DL} {Q : V → Mem → Prop} : ok (dTup r c ρ μ) Q = ok (r c ρ μ) fun vs μ => ok (newT μ vs) Q := by simp only [dTup, ok_bind]
theorem ok_dLst {r : DL} {Q : V → Mem → Prop} : ok (dLst r c ρ μ) Q = ok (r c ρ μ) fun vs μ => ok (newL μ vs) Q := by simp only [dLst, ok_bind]
theorem ok_tE {d : DE} {Q : Bool → Mem → Prop} : ok (tE d c ρ μ) Q = ok (d c ρ μ) fun v μ => ok (R.opt μ (truth μ v)) Q := by simp only [tE, ok_bind]
theorem ok_tNot {t : DT} {Q : Bool → Mem → Prop} : ok (tNot t c ρ μ) Q = ok (t c ρ μ) fun b μ => Q (!b) μ := by simp only [tNot, ok_bind]; rfl
theorem ok_tAnd {t u : DT} {Q : Bool → Mem → Prop} : ok (tAnd t u c ρ μ) Q = ok (t c ρ μ) fun b μ => if b = true then ok (u c ρ μ) Q else Q false μ := by
  simp only [tAnd, ok_bind]; congr 1; funext b μ; cases b <;> rfl
theorem ok_tOr {t u : DT} {Q : Bool → Mem → Prop} : ok (tOr t u c ρ μ) Q = ok (t c ρ μ) fun b μ => if b = true then Q true μ else ok (u c ρ μ) Q := by
  simp only [tOr, ok_bind]; congr 1; funext b μ; cases b <;> rfl
theorem ok_tFalse {Q : Bool → Mem → Prop} : ok (tFalse c ρ μ) Q = Q false μ := propext Iff.rfl
theorem ok_dAnd {d e : DE} {Q : V → Mem → Prop} : ok (dAnd d e c ρ μ) Q = ok (d c ρ μ) fun v μ => ok (R.opt μ (truth μ v)) fun b μ => if b = true then ok (e c ρ μ) Q else Q v μ := by
  simp only [dAnd, ok_bind]; congr 1; funext v μ; congr 1; funext b μ; cases b <;> rfl
theorem ok_dIdx {a i : DE} {Q : V → Mem → Prop} : ok (dIdx a i c ρ μ) Q = ok (a c ρ μ) fun v μ => ok (i c ρ μ) fun k μ => ok (item μ v k) Q := by simp only [dIdx, ok_bind]
theorem ok_dSlc {a : DE} {lo hi : DO} {Q : V → Mem → Prop} : ok (dSlc a lo hi c ρ μ) Q = ok (a c ρ μ) fun v μ => ok (lo c ρ μ) fun l μ => ok (hi c ρ μ) fun h μ => ok (slc μ l h v) Q := by simp only [dSlc, ok_bind]
theorem ok_dCall {f : Nat} {args : DL} {Q : V → Mem → Prop} : ok (dCall f args c ρ μ) Q = ok (args c ρ μ) fun vs μ => ok (c.call f vs μ) Q := by simp only [dCall, ok_bind]
theorem ok_dB1 {f : Mem → V → R V} {d : DE} {Q : V → Mem → Prop} : ok (dB1 f d c ρ μ) Q = ok (d c ρ μ) fun v μ => ok (f μ v) Q := by simp only [dB1, ok_bind]
theorem ok_dM1 {K : MK} {f : Mem → V → V → R V} {o e : DE} {Q : V → Mem → Prop} : ok (dM1 K f o e c ρ μ) Q = ok (o c ρ μ) fun v μ => hasK μ v K = true ∧ ok (e c ρ μ) fun u μ => ok (f μ v u) Q := by
  simp only [dM1, ok_bind]; congr 1; funext v μ
  by_cases h : hasK μ v K = true
  · rw [if_pos h]; simp only [ok_bind, h, true_and]
  · rw [if_neg h]; simp [h, ok]
set_option tactic.hygienic true in
theorem ok_newL {xs : List V} {Q : V → Mem → Prop} : ok (newL μ xs) Q = (xs.length ≤ lim ∧ Q (.ref μ.length) (μ ++ [.list xs])) := by
  unfold newL
  split
  · rename_i h; simp [ok, h]
  · rename_i h; simp only [ok, h, false_and]
set_option tactic.hygienic true in
theorem ok_newT {xs : List V} {Q : V → Mem → Prop} : ok (newT μ xs) Q = (xs.length ≤ lim ∧ Q (.tup xs) μ) := by
  unfold newT
  split
  · rename_i h; simp [ok, h]
  · rename_i h; simp only [ok, h, false_and]
set_option tactic.hygienic true in
theorem ok_newS {x : Str} {Q : V → Mem → Prop} : ok (newS μ x) Q = (x.length ≤ lim ∧ Q (.str x) μ) := by
  unfold newS
  split
  · rename_i h; simp [ok, h]
  · rename_i h; simp only [ok, h, false_and]

theorem okS_seq {a b : DS} {Q : Fr → Mem → Prop} {T : V → Mem → Prop} : okS (sSeq a b c ρ μ) Q T = okS (a c ρ μ) (fun ρ μ => okS (b c ρ μ) Q T) T := by
  unfold sSeq; cases a c ρ μ <;> rfl
theorem okS_nil {Q : Fr → Mem → Prop} {T : V → Mem → Prop} : okS (sNil c ρ μ) Q T = Q ρ μ := propext Iff.rfl
theorem okS_set {i : Nat} {d : DE} {Q : Fr → Mem → Prop} {T : V → Mem → Prop} : okS (sSet i d c ρ μ) Q T = ok (d c ρ μ) fun v μ => Q (ρ.set i v) μ := by simp only [sSet, okS_then]; rfl
theorem okS_if {t : DT} {a b : DS} {Q : Fr → Mem → Prop} {T : V → Mem → Prop} : okS (sIf t a b c ρ μ) Q T = ok (t c ρ μ) fun q μ => if q = true then okS (a c ρ μ) Q T else okS (b c ρ μ) Q T := by
  simp only [sIf, okS_then]; congr 1; funext b μ; cases b <;> rfl
theorem okS_ret {d : DE} {Q : Fr → Mem → Prop} {T : V → Mem → Prop} : okS (sRet d c ρ μ) Q T = ok (d c ρ μ) T := by simp only [sRet, okS_then]; rfl
theorem okS_expr {d : DE} {Q : Fr → Mem → Prop} {T : V → Mem → Prop} : okS (sExpr d c ρ μ) Q T = ok (d c ρ μ) fun _ μ => Q ρ μ := by simp only [sExpr, okS_then]; rfl
theorem okS_put {o i e : DE} {Q : Fr → Mem → Prop} {T : V → Mem → Prop} : okS (sPut o i e c ρ μ) Q T = ok (e c ρ μ) fun v μ => ok (o c ρ μ) fun a μ => ok (i c ρ μ) fun k μ => match putItem μ a k v with | some μ => Q ρ μ | none => False := by
  simp only [sPut, okS_then]; congr 1; funext v μ; congr 1; funext a μ; congr 1; funext k μ
  cases putItem μ a k v <;> rfl

theorem ok_call {Φ : Nat → Option Fn} {fu n f : Nat} {F : Fn} {args : List V} {Q : V → Mem → Prop} (hf : Φ f = some F) (ha : args.length = F.np) (h : okS (F.body ⟨callF Φ fu n, fu⟩ (fun i => args[i]?) μ) (fun _ μ => Q .none μ) Q) : ok (callF Φ fu (n + 1) f args μ) Q := by
  simp only [callF, hf, ha, if_true]
  cases hb : F.body ⟨callF Φ fu n, fu⟩ (fun i => args[i]?) μ with
  | next ρ μ' => rw [hb] at h; exact h
  | ret v μ' => rw [hb] at h; exact h
  | exc c ρ μ' => rw [hb] at h; exact h
  | bad => rw [hb] at h; exact h

theorem set_apply {i j : Nat} {v : V} : (ρ.set i v) j = if j = i then some v else ρ j := by
  by_cases h : j = i
  · subst h; rw [Fr.set_self, if_pos rfl]
  · rw [Fr.set_ne _ _ h, if_neg h]

theorem okS_for {it : DI} {bd : Bd} {body : DS} {Q : Fr → Mem → Prop} {T : V → Mem → Prop} : okS (sFor it bd body c ρ μ) Q T = ok (it c ρ μ) fun t μ => okS (forS t.chk bd body c t.items ρ μ) Q T := by simp only [sFor, okS_then]

theorem ok_dComp {locs : List Nat} {it : DI} {bd : Bd} {cond : DT} {elt : DE} {Q : V → Mem → Prop} : ok (dComp locs it bd cond elt c ρ μ) Q = ok (it c ρ μ) fun t μ => locs.all (fun i => (ρ i).isNone) = true ∧ ok (compS t.chk bd cond elt c ρ t.items μ []) fun xs μ => ok (newL μ xs) Q := by
  simp only [dComp, ok_bind]; congr 1; funext t μ
  by_cases h : locs.all (fun i => (ρ i).isNone) = true
  · rw [if_pos h]; simp only [ok_bind, h, true_and]
  · rw [if_neg h]; simp only [h]; simp [ok]
theorem ok_iRange {ds : DL} {Q : It → Mem → Prop} : ok (iRange ds c ρ μ) Q = ok (ds c ρ μ) fun vs μ => ok (rangeArgs μ vs) Q := by simp only [iRange, ok_bind]
set_option tactic.hygienic true in
theorem ok_iSeq {d : DE} {Q : It → Mem → Prop} : ok (iSeq d c ρ μ) Q = ok (d c ρ μ) fun v μ => match v with
    | .tup xs => Q ⟨xs, fun _ => true⟩ μ
    | .ref a => match μ[a]? with
      | some (.list xs) => Q ⟨xs, fun μ => decide (μ[a]? = some (.list xs))⟩ μ
      | _ => False
    | _ => False := by
  simp only [iSeq, ok_bind]; congr 1; funext v μ
  cases v <;> simp only [ok]
  rename_i a
  cases μ[a]? with
  | none => rfl
  | some o => cases o <;> rfl
end

theorem pre_get {μ μ' : Mem} (h : μ <+: μ') {a : Nat} {o : O} (e : μ[a]? = some o) : μ'[a]? = some o := by
  obtain ⟨t, rfl⟩ := h
  rw [List.getElem?_append_left (List.getElem?_eq_some_iff.mp e).1]; exact e
theorem pre_len {μ μ' : Mem} (h : μ <+: μ') : μ.length ≤ μ'.length := h.length_le
theorem new_get (μ : Mem) (o : O) : (μ ++ [o])[μ.length]? = some o := by simp
theorem pre_new (μ : Mem) (o : O) : μ <+: μ ++ [o] := List.prefix_append _ _

/- items of the operations -/
theorem seqIndex_nat {i n : Nat} (h : i < n) : seqIndex? (i : Int) n = some i := by
  unfold seqIndex?
  simp only
  split <;> simp_all <;> omega
theorem small_nat {i : Nat} (h : i ≤ lim) : small (i : Int) = true := by
  have : lim = 1000000 := rfl
  simp only [small, Bool.and_eq_true, decide_eq_true_eq]; omega
theorem at_nat {xs : List V} {i : Nat} {v : V} (h : xs[i]? = some v) (hl : xs.length ≤ lim) : at? (i : Int) xs = some v := by
  have hi := (List.getElem?_eq_some_iff.mp h).1
  rw [at?, if_pos (small_nat (by omega)), seqIndex_nat hi]; exact h
theorem item_list {μ : Mem} {a i : Nat} {xs : List V} {v : V} (h : μ[a]? = some (.list xs)) (hv : xs[i]? = some v) (hl : xs.length ≤ lim) : item μ (.ref a) (.int (i : Int)) = .ok v μ := by
  simp only [item, h, at_nat hv hl]; rfl
theorem len_list {μ : Mem} {a : Nat} {xs : List V} (h : μ[a]? = some (.list xs)) : bLen μ (.ref a) = .ok (.int xs.length) μ := by simp only [bLen, h]
theorem cEq_int {μ : Mem} {a b : Int} : cEq μ (.int a) (.int b) = some (a == b) := rfl
theorem range_size_up {a b : Int} (h : a ≤ b) : (Builtin.Range.rangeSize a b 1).toNat = (b - a).toNat := by
  unfold Builtin.Range.rangeSize
  simp only [show (1 : Int) > 0 by decide, if_true, Int.ediv_one]
  split <;> omega
theorem rangeL_up (a n : Nat) : rangeL (a : Int) ((a + n : Nat) : Int) 1 = (List.range' a n).map fun k => V.int (k : Nat) := by
  unfold rangeL
  rw [range_size_up (by omega), show (((a + n : Nat) : Int) - (a : Int)).toNat = n by omega]
  apply List.ext_getElem
  · simp
  · intro i h1 h2
    simp
theorem tiny_nat {i : Nat} (h : i ≤ lim) : tiny (i : Int) = true := by
  have : lim = 1000000 := rfl
  simp only [tiny, Bool.and_eq_true, decide_eq_true_eq]; omega
theorem range1 {μ : Mem} {n : Nat} (h : n ≤ lim) : rangeArgs μ [.int (n : Int)] = .ok ⟨(List.range' 0 n).map fun k => V.int (k : Nat), fun _ => true⟩ μ := by
  have := rangeL_up 0 n
  simp only [Nat.zero_add] at this
  simp only [rangeArgs, range1V, rangeOf, tiny_nat h, show tiny 0 = true from rfl, Bool.and_self, if_true]
  rw [← this]; rfl
theorem range2 {μ : Mem} {a n : Nat} (h : a + n ≤ lim) : rangeArgs μ [.int (a : Int), .int ((a + n : Nat) : Int)] = .ok ⟨(List.range' a n).map fun k => V.int (k : Nat), fun _ => true⟩ μ := by
  have := rangeL_up a n
  simp only [rangeArgs, range2V, rangeOf, tiny_nat h, tiny_nat (show a ≤ lim by omega), Bool.and_self, if_true]
  rw [← this]
section
variable {c : Cx} {ρ : Fr} {μ : Mem}
theorem ok_comp_nil {chk : Mem → Bool} {bd : Bd} {cond : DT} {elt : DE} {acc : List V} {Q : List V → Mem → Prop} (h1 : chk μ = true) (h2 : Q acc μ) : ok (compS chk bd cond elt c ρ [] μ acc) Q := by
  rw [compS, if_pos h1]; exact h2
theorem ok_comp_cons {chk : Mem → Bool} {bd : Bd} {elt : DE} {v : V} {r acc : List V} {ρ' : Fr} {Q : List V → Mem → Prop} (h1 : chk μ = true) (h2 : bd v ρ = some ρ') (h3 : ok (elt c ρ' μ) fun x μ' => acc.length < lim ∧ ok (compS chk bd tTrue elt c ρ r μ' (acc ++ [x])) Q) : ok (compS chk bd tTrue elt c ρ (v :: r) μ acc) Q := by
  simp only [compS, h1, if_true, h2, tTrue, R.quiet]
  obtain ⟨x, μ', hx, hl, h⟩ := ok_of h3
  simp only [hx, hl, if_true]
  exact h
theorem clip_nat {n k : Nat} (h : k ≤ n) : clipAt n (k : Int) = k := by
  unfold clipAt
  rw [if_neg (by omega)]; omega
theorem clip_over {n k : Nat} (h : n ≤ k) : clipAt n (k : Int) = n := by
  unfold clipAt
  rw [if_neg (by omega)]; omega
theorem cut_from {α : Type} {k : Nat} {xs : List α} (h : k ≤ xs.length) : cut (some (k : Int)) none xs = xs.drop k := by
  simp only [cut, Option.elim, clip_nat h]
  rw [List.take_of_length_le (by simp)]
theorem cut_to {α : Type} {k : Nat} {xs : List α} : cut none (some (k : Int)) xs = xs.take k := by
  simp only [cut, Option.elim, List.drop_zero, Nat.sub_zero]
  by_cases h : k ≤ xs.length
  · rw [clip_nat h]
  · rw [clip_over (by omega), List.take_of_length_le (Nat.le_refl _), List.take_of_length_le (by omega)]
theorem slc_list {a : Nat} {xs : List V} {lo hi : Option Int} (h : μ[a]? = some (.list xs)) : slc μ lo hi (.ref a) = newL μ (cut lo hi xs) := by simp only [slc, h]
theorem add_list {a b : Nat} {xs ys : List V} (h1 : μ[a]? = some (.list xs)) (h2 : μ[b]? = some (.list ys)) : opAdd (.ref a) (.ref b) μ = newL μ (xs ++ ys) := by simp only [opAdd, h1, h2]
end

section
variable {c : Cx} {ρ : Fr} {μ : Mem}
theorem okS_for_nil {chk : Mem → Bool} {bd : Bd} {body : DS} {Q : Fr → Mem → Prop} {T : V → Mem → Prop} (h : chk μ = true) (hq : Q ρ μ) : okS (forS chk bd body c [] ρ μ) Q T := by
  rw [forS, if_pos h]; exact hq
theorem okS_for_cons {chk : Mem → Bool} {bd : Bd} {body : DS} {v : V} {r : List V} {ρ' : Fr} {Q : Fr → Mem → Prop} {T : V → Mem → Prop} (h1 : chk μ = true) (h2 : bd v ρ = some ρ') (h3 : okS (body c ρ' μ) (fun ρ μ => okS (forS chk bd body c r ρ μ) Q T) T) : okS (forS chk bd body c (v :: r) ρ μ) Q T := by
  rw [forS, if_pos h1, h2]
  simp only
  cases hb : body c ρ' μ with
  | next ρ'' μ' => rw [hb] at h3; exact h3
  | ret u μ' => rw [hb] at h3; exact h3
  | exc x ρ'' μ' => rw [hb] at h3; exact h3.elim
  | bad => rw [hb] at h3; exact h3.elim
theorem ok_compP {chk : Mem → Bool} {bd : Bd} {elt : DE} (p : V → Prop) (I : Mem → Prop) {Q : List V → Mem → Prop} :
    ∀ (items acc : List V) (μ : Mem), I μ → acc.length + items.length ≤ lim → (∀ x ∈ acc, p x) → (∀ μ, I μ → chk μ = true) → (∀ v ∈ items, ∀ μ, I μ → ∃ ρ', bd v ρ = some ρ' ∧ ok (elt c ρ' μ) fun x μ' => p x ∧ I μ') → (∀ xs μ, xs.length = acc.length + items.length → (∀ x ∈ xs, p x) → I μ → Q xs μ) → ok (compS chk bd tTrue elt c ρ items μ acc) Q
  | [], acc, μ, hi, _, ha, hc, _, hq => by
    rw [compS, if_pos (hc μ hi)]
    exact hq acc μ rfl ha hi
  | v :: r, acc, μ, hi, hl, ha, hc, he, hq => by
    obtain ⟨ρ', h1, h2⟩ := he v List.mem_cons_self μ hi
    simp only [List.length_cons] at hl
    refine ok_comp_cons (hc μ hi) h1 (ok_mono h2 fun x μ' h => ⟨by omega, ?_⟩)
    refine ok_compP p I r (acc ++ [x]) μ' h.2 (by simp; omega) (fun y hy => ?_) hc (fun u hu => he u (List.mem_cons_of_mem _ hu)) fun xs μ hx => hq xs μ (by simp at hx ⊢; omega)
    rcases List.mem_append.mp hy with hy | hy
    · exact ha y hy
    · rw [List.mem_singleton.mp hy]; exact h.1
theorem append_last {xs : List V} {v : V} (h : xs.length < lim) : bAppend (μ ++ [.list xs]) (.ref μ.length) v = .ok .none (μ ++ [.list (xs ++ [v])]) := by
  simp only [bAppend, new_get, h, if_true]
  rw [List.set_append_right _ _ (Nat.le_refl _), Nat.sub_self]; rfl
theorem cutS_len {lo hi : Option Int} {x : Str} : (cutS lo hi x).length ≤ x.length := by
  have : (cut lo hi x.cps.toList).length ≤ x.cps.toList.length := by
    simp only [cut, List.length_take, List.length_drop]; omega
  have e : x.length = x.cps.toList.length := by simp [Str.length]
  rw [e]
  show (cut lo hi x.cps.toList).toArray.size ≤ _
  simpa using this
theorem strOk_join : ∀ {ts : List Str} {sep : Str}, PyData.strOk sep = true → (∀ t ∈ ts, PyData.strOk t = true) → PyData.strOk (Str.join sep ts) = true
  | [], _, _, _ => by rw [Str.join]; simp [PyData.strOk, Str.empty]
  | [x], _, _, h => h x List.mem_cons_self
  | x :: y :: r, sep, hs, h => by
    rw [Str.join]
    · exact strOk_append (strOk_append (h x List.mem_cons_self) hs) (strOk_join hs fun t ht => h t (List.mem_cons_of_mem _ ht))
    · exact fun q => by cases q
end
theorem item_str {μ : Mem} {x : Str} {i : Nat} (h : i < x.length) (hl : x.length ≤ lim) : ∃ c, x.cps[i]? = some c ∧ item μ (.str x) (.int (i : Int)) = .ok (.str ⟨#[c]⟩) μ := by
  have hx : i < x.cps.size := h
  refine ⟨x.cps[i], Array.getElem?_eq_getElem hx, ?_⟩
  simp only [item, small_nat (show i ≤ lim by omega), if_true, seqIndex_nat h, Option.bind_some, Array.getElem?_eq_getElem hx, Option.map_some]
  rfl
end
end Mine
end
section
set_option autoImplicit false
set_option tactic.hygienic false
set_option backward.eqns.nonrecursive false
namespace Mine
noncomputable section
open PySem

section
variable {α β : Type} {c : Cx} {ρ : Fr} {μ μ' : Mem} {Q : Fr → Mem → Prop} {T : V → Mem → Prop}
theorem opSub_int {a b : Int} {μ : Mem} : opSub (.int a) (.int b) μ = .ok (.int (a - b)) μ := rfl
theorem ok_run {r : R α} {a : α} {P : α → Mem → Prop} (e : r = .ok a μ') (h : P a μ') : ok r P := by rw [e]; exact h
theorem run_newL {xs : List V} (h : xs.length ≤ lim) : newL μ xs = .ok (.ref μ.length) (μ ++ [.list xs]) := if_pos h
theorem at_call {f : Nat} {as : DL} {vs : List V} {P : V → Mem → Prop} (h : ok (c.call f vs μ') P) (e : as c ρ μ = .ok vs μ') : ok (dCall f as c ρ μ) P := by rw [ok_dCall, e]; exact h
theorem step_run {i : Nat} {d : DE} {rest : DS} {v : V} (e : d c ρ μ = .ok v μ') (h : okS (rest c (ρ.set i v) μ') Q T) : okS (sSeq (sSet i d) rest c ρ μ) Q T := by rw [okS_seq, okS_set, e]; exact h
theorem step_call {i f : Nat} {as : DL} {rest : DS} {vs : List V} {P : V → Mem → Prop} (h : ok (c.call f vs μ') P) (e : as c ρ μ = .ok vs μ') (k : ∀ v ν, P v ν → okS (rest c (ρ.set i v) ν) Q T) : okS (sSeq (sSet i (dCall f as)) rest c ρ μ) Q T := by
  rw [okS_seq, okS_set]; exact ok_mono (at_call h e) k
theorem step_expr {d : DE} {rest : DS} (h : ok (d c ρ μ) fun _ ν => okS (rest c ρ ν) Q T) : okS (sSeq (sExpr d) rest c ρ μ) Q T := by
  rw [okS_seq, okS_expr]; exact h
theorem or_no {t u : DT} {P : Bool → Mem → Prop} (h : ok (t c ρ μ) fun q ν => q = false ∧ ok (u c ρ ν) P) : ok (tOr t u c ρ μ) P := by
  rw [ok_tOr]; exact ok_mono h fun q ν ⟨e, k⟩ => by subst e; exact k
theorem not_run {d : DE} {v : V} {b : Bool} {P : Bool → Mem → Prop} (e : d c ρ μ = .ok v μ') (e2 : truth μ' v = some b) (h : P (!b) μ') : ok (tNot (tE d) c ρ μ) P := by
  rw [ok_tNot, ok_tE, e, ok_ok, e2, ok_opt_some]; exact h
theorem cmp_run {f : Mem → V → V → Option Bool} {l r : DE} {a b : V} {μ₁ : Mem} {t : Bool} {P : Bool → Mem → Prop} (e1 : l c ρ μ = .ok a μ₁) (e2 : r c ρ μ₁ = .ok b μ') (e : f μ' a b = some t) (h : P t μ') : ok (tCmp f l r c ρ μ) P := by
  rw [ok_tCmp, e1, ok_ok, e2, ok_ok, e, ok_opt_some]; exact h
theorem run_add {l r : DE} {a b : Nat} {xs ys : List V} {μ₁ : Mem} (e1 : l c ρ μ = .ok (.ref a) μ₁) (e2 : r c ρ μ₁ = .ok (.ref b) μ') (ha : μ'[a]? = some (.list xs)) (hb : μ'[b]? = some (.list ys)) (hl : (xs ++ ys).length ≤ lim) : dBin opAdd l r c ρ μ = .ok (.ref μ'.length) (μ' ++ [.list (xs ++ ys)]) := by
  simp only [dBin, e1, e2, R.bind, add_list ha hb, run_newL hl]
theorem run_slc {d : DE} {lo hi : DO} {l h : Option Int} {a : Nat} {xs ys : List V} (e : d c ρ μ = .ok (.ref a) μ) (el : lo c ρ μ = .ok l μ) (eh : hi c ρ μ = .ok h μ) (ha : μ[a]? = some (.list xs)) (hy : cut l h xs = ys) (hl : ys.length ≤ lim) : dSlc d lo hi c ρ μ = .ok (.ref μ.length) (μ ++ [.list ys]) := by
  simp only [dSlc, e, el, eh, R.bind, slc_list ha, hy, run_newL hl]
theorem run_len {d : DE} {a : Nat} {xs : List V} (e : d c ρ μ = .ok (.ref a) μ) (ha : μ[a]? = some (.list xs)) : dB1 bLen d c ρ μ = .ok (.int xs.length) μ := by
  simp only [dB1, e, R.bind, len_list ha]
theorem run_var {i : Nat} {v : V} (e : ρ i = some v) : dV i c ρ μ = .ok v μ := by rw [dV, e]; rfl
theorem run_cons {d : DE} {r : DL} {v : V} {vs : List V} {μ₁ : Mem} (e1 : d c ρ μ = .ok v μ₁) (e2 : r c ρ μ₁ = .ok vs μ') : dCons d r c ρ μ = .ok (v :: vs) μ' := by
  simp only [dCons, e1, e2, R.bind]
noncomputable def sw (i : Nat) : List (Str × DE) → DS → DS
  | [], rest => rest
  | (w, d) :: r, rest => sSeq (sIf (tCmp cEq (dV i) (dC (.str w))) (sSeq (sRet d) sNil) sNil) (sw i r rest)
noncomputable def pick (v : Str) : List (Str × DE) → Option DE
  | [] => none
  | (w, d) :: r => match PyData.eqv (.str v) (.str w) with | true => some d | false => pick v r
theorem now_ret {d : DE} {rest : DS} (h : ok (d c ρ μ) T) : okS (sSeq (sRet d) rest c ρ μ) Q T := by rw [okS_seq, okS_ret]; exact h
theorem run_idx {d e : DE} {v k x : V} {μ₁ : Mem} (h : d c ρ μ = .ok v μ₁) (h' : e c ρ μ₁ = .ok k μ') (hi : item μ' v k = .ok x μ') : dIdx d e c ρ μ = .ok x μ' := by
  rw [dIdx, h, R.bind_ok, h', R.bind_ok, hi]
theorem run_lst {ds : DL} {vs : List V} (h : ds c ρ μ = .ok vs μ') (hl : vs.length ≤ lim) : dLst ds c ρ μ = .ok (.ref μ'.length) (μ' ++ [.list vs]) := by
  rw [dLst, h, R.bind_ok, run_newL hl]
theorem run_tup {ds : DL} {vs : List V} (h : ds c ρ μ = .ok vs μ') (hl : vs.length ≤ lim) : dTup ds c ρ μ = .ok (.tup vs) μ' := by
  rw [dTup, h, R.bind_ok, newT, if_pos hl]
theorem step_if_ret {t : DT} {d : DE} {b : Bool} {rest : DS} (e : t c ρ μ = .ok b μ) (k : b = true → ok (d c ρ μ) T) (k' : b = false → okS (rest c ρ μ) Q T) : okS (sSeq (sIf t (sSeq (sRet d) sNil) sNil) rest c ρ μ) Q T := by
  rw [okS_seq, okS_if, e, ok_ok]
  cases b with
  | true => exact now_ret (k rfl)
  | false => exact k' rfl
theorem run_tand {t u : DT} {a b : Bool} (e : t c ρ μ = .ok a μ) (e' : u c ρ μ = .ok b μ) : tAnd t (tAnd u tTrue) c ρ μ = .ok (a && b) μ := by
  simp only [tAnd, e, R.bind]
  cases a
  · rfl
  · simp only [if_true, e', R.bind]
    cases b <;> rfl
theorem step_put {o i e : DE} {a k v : V} {rest : DS} (h1 : e c ρ μ = .ok v μ) (h2 : o c ρ μ = .ok a μ) (h3 : i c ρ μ = .ok k μ) (h4 : putItem μ a k v = some μ') (h : okS (rest c ρ μ') Q T) : okS (sSeq (sPut o i e) rest c ρ μ) Q T := by
  rw [okS_seq, okS_put, h1, ok_ok, h2, ok_ok, h3, ok_ok, h4]; exact h
theorem run_bin {f : V → V → Mem → R V} {l r : DE} {a b v : V} {μ₁ μ₂ : Mem} (e1 : l c ρ μ = .ok a μ₁) (e2 : r c ρ μ₁ = .ok b μ₂) (h : f a b μ₂ = .ok v μ') : dBin f l r c ρ μ = .ok v μ' := by
  rw [dBin, e1, R.bind_ok, e2, R.bind_ok, h]
theorem run_m1 {K : MK} {f : Mem → V → V → R V} {o e : DE} {v u x : V} {μ₁ μ₂ : Mem} (e1 : o c ρ μ = .ok v μ₁) (hk : hasK μ₁ v K = true) (e2 : e c ρ μ₁ = .ok u μ₂) (h : f μ₂ v u = .ok x μ') : dM1 K f o e c ρ μ = .ok x μ' := by
  rw [dM1, e1, R.bind_ok, if_pos hk, e2, R.bind_ok, h]
end
end
end Mine
end
section
set_option autoImplicit false
set_option backward.eqns.nonrecursive false
namespace Mine
noncomputable section
open PySem PySem.W PyProof.Rows PySem.SeqAt

noncomputable def dDic : DE := fun _ _ μ => .ok (.ref μ.length) (μ ++ [.dic])
noncomputable def opPow (a b : V) (μ : Mem) : R V := opInt (fun i j => if i = 10 ∧ j = 20 then .ok (.int 100000000000000000000) μ else .bad) a b
noncomputable def opRep : V → V → Mem → R V
  | .ref a, .int k, μ => match μ[a]? with
    | some (.list xs) => if 0 ≤ k ∧ k ≤ 100 ∧ xs.length ≤ 1000 then newL μ ((List.replicate k.toNat xs).flatten) else .bad
    | _ => .bad
  | _, _, _ => .bad
noncomputable def bPop (μ : Mem) : V → R V
  | .ref a => match μ[a]? with
    | some (.list xs) => match xs.getLast? with
      | some v => .ok v (μ.set a (.list xs.dropLast))
      | none => .bad
    | _ => .bad
  | _ => .bad

section
variable {P : Pg} {B : Blk}
theorem SimE.dic {pos : Pos} : SimE P B (.Dict [] [] pos) dDic := fun n A env β ρ μ s X hb => by
  refine wpAny_Dict_empty ?_
  refine ⟨.ref μ.length, μ ++ [.dic], β ++ [s.heap.objs.size], rfl, Post.push X.inv _ _ s.toks (.dic (Heap.get?_push_size _ rfl)), .ref ?_⟩
  rw [← X.inv.len, List.getElem?_append_right (Nat.le_refl _)]; simp
theorem opPow_ok : OpOk P .Pow opPow := fun A β μ s a b x y L hu I ra rb hb => by
  obtain ⟨i, j, p, q, rfl, rfl, e⟩ := op_ints ra rb hb
  replace e : opPow a b μ = _ := e
  rw [e] at hb ⊢
  by_cases h : i = 10 ∧ j = 20
  · rw [if_pos h]
    obtain ⟨rfl, rfl⟩ := h
    exact AutoIntOps.pow_4 (by decide) (by decide) (by decide) (by decide) (by decide +kernel) (okTok _ I (.int _ _))
  · rw [if_neg h] at hb; exact absurd rfl hb
theorem RelL.rep {β : Bk} {h : Heap} {xs : List V} {vs : List Value} (r : RelL P.toPl β h xs vs) : ∀ k : Nat, RelL P.toPl β h (List.replicate k xs).flatten (List.replicate k vs).flatten
  | 0 => .nil
  | k + 1 => by
    rw [List.replicate_succ, List.replicate_succ, List.flatten_cons, List.flatten_cons]
    exact r.append (RelL.rep r k)
theorem rep_in {a b : V} {μ : Mem} (hb : opRep a b μ ≠ .bad) : ∃ i k xs, a = .ref i ∧ b = .int k ∧ μ[i]? = some (.list xs) ∧ 0 ≤ k ∧ k ≤ 100 ∧ xs.length ≤ 1000 ∧ opRep a b μ = newL μ ((List.replicate k.toNat xs).flatten) := by
  unfold opRep at hb ⊢
  split at hb
  · split at hb
    · split at hb
      · rename_i i k _ _ xs hm hk
        exact ⟨_, _, xs, rfl, rfl, hm, hk.1, hk.2.1, hk.2.2, by simp only [hm, hk, and_self, if_true]⟩
      · exact absurd rfl hb
    · exact absurd rfl hb
  · exact absurd rfl hb
theorem opRep_ok : OpOk P .Mult opRep := fun A β μ s a b x y L hu I ra rb hb => by
  obtain ⟨i, k, xs, rfl, rfl, hm, h0, h1, h2, e⟩ := rep_in hb
  rw [e] at hb ⊢
  obtain ⟨u, rfl⟩ := rb.int'
  obtain ⟨l, vs, n, rfl, a1, a2, a3⟩ := I.lst ra hm
  have hz := RelL.size a2
  have hz' : vs.size * k.toNat ≤ 100000 := by
    have q1 : k.toNat ≤ 100 := by omega
    have q2 : vs.size ≤ 1000 := by omega
    exact Nat.mul_le_mul q2 q1
  refine wpAny_binaryOp_repeat_ref (T := "list") (U := "int") (by decide) ⟨_, a1, rfl⟩ (fun s' => typeIs_int s' k u) noFill_list_mul F.fills_int_mul F.slot_int_rmul repeat_list F.slot_int_index.lookup
    (call_meets F.slot_int_rmul (typeIs_int s k u) F.entry_int_rmul (F.args_int_rmul_2 _ _) (lm_int_rmul_list_any k u l vs n _ _)
      ⟨a1, rfl, ⟨_, a1, rfl⟩, call_meets F.slot_list_mul ⟨_, a1, rfl⟩ F.entry_list_mul (F.args_list_mul_2 _ _)
        (lm_list_mul_any l vs n _ _ k u (by simp [Builtin.List.listFitsIndex]; omega) (by omega) (by simp [Builtin.List.listTooLong, sizeLine]; omega))
        ⟨a1, ?_⟩⟩)
  rw [listMul_foldl_if]
  exact listNew I (a2.rep k.toNat) (newL_lim hb)

theorem SimE.m0 {o : Expr} {name : Str} {apos pos : Pos} {do' : DE} {id : String} {f : Mem → V → R V} (K : MK) (i : MId K name id) (hbase : ∀ env, attributeBase o name env (eval o env) = eval o env) (hline : (apos.endLine == pos.line) = true)
    (k : ∀ A β μ s a x L, A.units + 200 < cLine → A.handled = Option.none → Inv P.toPl β μ s.heap → Rel P.toPl β s.heap a x → f μ a ≠ .bad → wpAny P.M A (callWith pos (.builtin id) [x] [] []) (OkE P.toPl β s (f μ a)) (ExE P.toPl L β s (f μ a)) s)
    (h1 : SimE P B o do') : SimE P B (.Call (.Attribute o name apos) [] [] pos) (dM0 K f do') := fun n A env β ρ μ s X hb => by
  refine wpAny_Call_method0_late (hbase env) hline (useE h1 X hb (fun v μ₁ β₁ x s₁ e₁ p₁ r₁ hb₁ X₁ => ?_) fun u s₁ q => q)
  have hk : hasK μ₁ v K = true := by
    by_cases q : hasK μ₁ v K = true
    · exact q
    · rw [if_neg q] at hb₁; exact absurd rfl hb₁
  rw [if_pos hk] at hb₁
  obtain ⟨t1, t2⟩ := hasK_type X₁.inv r₁ K hk
  refine ⟨K.id, id, K.plain, i.slot, i.ty, t1, t2, ?_⟩
  have e0 : dM0 K f do' (P.cx n) ρ μ = f μ₁ v := by simp only [dM0, e₁, R.bind, hk, if_true]
  rw [e0]
  exact wpAny_mono (k A β₁ μ₁ s₁ v x env.frame X₁.units X₁.room.2.2 X₁.inv r₁ hb₁) (fun _ _ q => q.after p₁) fun _ _ q => q.after p₁
theorem pop_in {μ : Mem} {a : V} (hb : bPop μ a ≠ .bad) : ∃ i xs v, a = .ref i ∧ μ[i]? = some (.list (xs ++ [v])) ∧ bPop μ a = .ok v (μ.set i (.list xs)) := by
  unfold bPop at hb ⊢
  split at hb
  · split at hb
    · rename_i i _ xs hm
      split at hb
      · rename_i v hv
        obtain ⟨ys, rfl⟩ := List.getLast?_eq_some_iff.mp hv
        exact ⟨i, ys, v, rfl, hm, by simp only [hm, hv, List.dropLast_concat]⟩
      · exact absurd rfl hb
    · exact absurd rfl hb
  · exact absurd rfl hb
theorem pop_ok {pos : Pos} (A : Around) (β : Bk) (μ : Mem) (s : Shared) (a : V) (x : Value) (L : Option Addr) (_ : A.units + 200 < cLine) (_ : A.handled = Option.none) (I : Inv P.toPl β μ s.heap) (r : Rel P.toPl β s.heap a x) (hb : bPop μ a ≠ .bad) :
    wpAny P.M A (callWith pos (.builtin "list.pop") [x] [] []) (OkE P.toPl β s (bPop μ a)) (ExE P.toPl L β s (bPop μ a)) s := by
  obtain ⟨i, xs, v, rfl, hm, e0⟩ := pop_in hb
  rw [e0]
  obtain ⟨l, rfl, e⟩ := r.ref'
  obtain ⟨_, vs, n, q, a1, a2, a3⟩ := (I.obj i _ l hm e).lst
  obtain rfl := Value.ref.inj q
  have hz := RelL.size a2
  rw [List.length_append, List.length_singleton] at hz
  obtain ⟨y, hy', ry⟩ := a2.get (i := xs.length) (v := v) (by simp)
  have hy : vs[vs.size - 1]? = some y := by rw [hz, ← Array.getElem?_toList]; exact hy'
  have h2 : RelL P.toPl β s.heap xs (vs.toList.take xs.length) := by
    have := RelL.take xs.length a2
    rwa [List.take_left] at this
  have hup : (vs.eraseIdxIfInBounds (vs.size - 1)).toList = vs.toList.take xs.length := by
    have e1 : vs.eraseIdxIfInBounds (vs.size - 1) = vs.eraseIdx (vs.size - 1) (by omega) := by rw [Array.eraseIdxIfInBounds, dif_pos (by omega)]
    rw [e1, Array.toList_eraseIdx, List.eraseIdx_eq_take_drop_succ]
    simp [hz]
  have a3' : xs.length + 1 ≤ lim := by simpa using a3
  refine PySem.P.pop_list a1 hy ?_ (lim_line (by omega))
  have hs : Heap.SameBut l s.heap (s.heap.update l (Obj.mapSeq fun a => a.eraseIdxIfInBounds (vs.size - 1))) := Heap.SameBut.update ..
  have hk : Keep β s.heap (s.heap.update l (Obj.mapSeq fun a => a.eraseIdxIfInBounds (vs.size - 1))) := fun b ob e' hb => ⟨ob, (hs.2 b fun q => hb (q ▸ List.mem_of_getElem? e)).trans e', .refl _⟩
  have a2' : RelL P.toPl β (s.heap.update l (Obj.mapSeq fun a => a.eraseIdxIfInBounds (vs.size - 1))) xs (vs.eraseIdxIfInBounds (vs.size - 1)).toList := by
    rw [hup]
    exact h2.mono I (List.prefix_refl _) hk fun _ h n => absurd h n
  exact ⟨v, _, β, rfl, Post.upd I s.toks e hs (.list (IsL.update a1 (fun a => a.eraseIdxIfInBounds (vs.size - 1))) a2' (by simp at a3; omega)), ry.mono I (List.prefix_refl _) hk fun _ h n => absurd h n⟩
theorem i_pop : MId .list (Str.ofString "pop") "list.pop" := ⟨F.slot_list_pop, F.type_list_pop⟩
end
end
end Mine
end
section
set_option autoImplicit false
set_option backward.eqns.nonrecursive false
namespace Mine
noncomputable section
open PySem PySem.W PyProof.Rows

noncomputable def adr (mg : Str → Option Value) (x : Str) : Addr := match mg x with
  | some (.ref a) => a
  | _ => 0
theorem adr_of {mg : Str → Option Value} {x : Str} {a : Addr} (h : mg x = some (.ref a)) : adr mg x = a := by unfold adr; rw [h]

structure FnAt (h : Heap) (mg mN : Str → Option Value) (gl : Bool) (nm : Str) (sc : Scope) (bd : List Stmt) (ps : List Str) (a : Addr) (fd : FuncData) : Prop where
  ns : gl = true → mg nm = some (.ref a)
  me : gl = false → mN nm = some (.ref a)
  obj : ∃ o, h.get? a = some o ∧ o.data = .func fd ∧ (gl = false → o.cls = .type "function")
  code : h.CodeRec fd.code fd.qualname
  name : fd.name = nm
  sc : fd.scope = sc
  bd : fd.body = .stmts bd
  cl : fd.closure = []
  gs : fd.globals = mainGlobals
  bt : fd.builtins = builtinsNs
  bind : ∀ vals : List Value, vals.length = ps.length → bindArgs fd ⟨vals, []⟩ = pure (ps.zip vals)
theorem FnAt.asMeth {h : Heap} {mg mN : Str → Option Value} {gl : Bool} {nm : Str} {sc : Scope} {bd : List Stmt} {ps : List Str} {a : Addr} {fd : FuncData} (x : FnAt h mg mN gl nm sc bd ps a fd) (hg : gl = false) : (∃ o, h.get? a = some o ∧ o.cls = .type "function") ∧ mN nm = some (.ref a) := by
  obtain ⟨o, h1, _, h3⟩ := x.obj
  exact ⟨⟨o, h1, h3 hg⟩, x.me hg⟩
theorem fnAt_of {q : Program} {loose : List Str} {mean : ExcName → Option Value} {mg mb mN : Str → Option Value} {h : Heap} (T : Top q loose mean mg mb h) {nm : Str} {sc : Scope} {bd : List Stmt} {pa : Arguments} (ps : List Str) (hr : fnRec q nm = some (sc, bd, pa))
    (hb : ∀ (pm cd doc : Value) (vals : List Value), vals.length = ps.length → bindArgs (Calls.docDef nm pa bd sc pm cd doc) ⟨vals, []⟩ = pure (ps.zip vals)) : ∃ a fd, FnAt h mg mN true nm sc bd ps a fd := by
  obtain ⟨a, fd, x⟩ := fnIn_of T ps hr hb
  obtain ⟨o, h1, h2⟩ := x.obj
  exact ⟨a, fd, (fun _ => x.ns), (fun e => nomatch e), ⟨o, h1, h2, (fun e => nomatch e)⟩, x.code, x.name, x.sc, x.bd, x.cl, x.gl, x.bt, x.bind⟩
noncomputable def clsRec (q : Program) (loose : List Str) (x : Str) : Option ClsRec := (plainsOf q loose).find? fun c => c.name == x
noncomputable def meRec (c : ClsRec) (nm : Str) : Option (Scope × List Stmt × Arguments) := (c.meths.find? fun m => m.name == nm).map fun m => (m.scope, m.body, m.params)
theorem meAt_of {h : Heap} {c : ClsRec} {C N : Addr} {mg mN : Str → Option Value} (A : PlainAt h c.withCmp C N mN) {nm : Str} {sc : Scope} {bd : List Stmt} {pa : Arguments} (ps : List Str) (hr : meRec c nm = some (sc, bd, pa))
    (hb : ∀ (qual : Str) (pm cd doc : Value) (vals : List Value), vals.length = ps.length → bindArgs (methDef nm qual pa bd sc pm cd doc) ⟨vals, []⟩ = pure (ps.zip vals)) : ∃ a fd, FnAt h mg mN false nm sc bd ps a fd := by
  unfold meRec at hr
  obtain ⟨m, hm, e⟩ := Option.map_eq_some_iff.mp hr
  have hn : m.name = nm := beq_iff_eq.mp (List.find?_some (p := fun m : MethRec => m.name == nm) hm)
  obtain ⟨f, o, pm, cd, doc, h1, h2, h3, h4, h5⟩ := A.meths m (List.mem_of_find?_eq_some hm)
  simp only [Prod.mk.injEq] at e
  obtain ⟨rfl, rfl, rfl⟩ := e
  subst hn
  exact ⟨f, _, (fun e => by cases e), (fun _ => h1), ⟨o, h2, h4, fun _ => h3⟩, h5, rfl, rfl, rfl, rfl, rfl, rfl, hb _ pm cd doc⟩
theorem cls_of {q : Program} {loose : List Str} {mg : Str → Option Value} {h : Heap} {x : Str} (T : TopE q loose mg h) (hx : (clsRec q loose x).isSome = true) : ∃ c C N mN, clsRec q loose x = some c ∧ mg x = some (.ref C) ∧ PlainAt h c.withCmp C N mN := by
  obtain ⟨c, hc⟩ := Option.isSome_iff_exists.mp hx
  have hn : c.name = x := beq_iff_eq.mp (List.find?_some (p := fun c : ClsRec => c.name == x) hc)
  obtain ⟨C, N, mN, h1, h2⟩ := T c (List.mem_of_find?_eq_some hc)
  exact ⟨c, C, N, mN, hc, hn ▸ h1, h2⟩
theorem objCls_of {P : Pg} {c : ClsRec} {C N : Addr} {mN : Str → Option Value} {k : Nat} {ats : List Str} {ms : List (Str × Nat)} (A : PlainAt P.h₀ c.withCmp C N mN) (hC : P.cls k = C) (ha : ats.all (c.statics.contains ·) = true) (ho : ∀ x ∈ ats, typeLookup (.type "object") x = pure none)
    (hm : ∀ p ∈ ms, (∃ o, P.h₀.get? (P.fnA p.2) = some o ∧ o.cls = .type "function") ∧ mN p.1 = some (.ref (P.fnA p.2))) (hy : ∀ p ∈ ms, ∃ y, typeLookup (.type "object") p.1 = pure y) : ObjCls P k ats ms where
  cls := by
    refine ⟨N, mN, hC ▸ A.cls, ?_, ?_, ?_, fun x hx => ⟨?_, ho x hx⟩, fun p hp => ⟨(hm p hp).2, hy p hp, (hm p hp).1⟩⟩
    · exact A.quiet _ (List.mem_append_left _ (.tail _ (.head _)))
    · exact A.quiet _ (List.mem_append_left _ (.tail _ (.tail _ (.head _))))
    · exact A.quiet _ (List.mem_append_left _ (.head _))
    · have := List.all_eq_true.mp ha x hx
      exact A.quiet _ (List.mem_append_right _ (List.mem_append_left _ (List.contains_iff_mem.mp this)))

theorem good_at {q : Program} {loose : List Str} {mean : ExcName → Option Value} {P : Pg} (T : Top q loose mean P.mg P.mb P.h₀) (hn : bnames.all (freeB q loose) = true)
    (hf : ∀ f F, P.Φ f = some F → ∃ mN nm sc bd ps, FnAt P.h₀ P.mg mN (P.gl f) nm sc bd ps (P.fnA f) (P.fd f)) : Good P where
  g := T.g
  b := T.b
  nolimit := T.nolimit
  fn := fun f F h => by
    obtain ⟨mN, nm, sc, bd, ps, x⟩ := hf f F h
    obtain ⟨o, e, d, _⟩ := x.obj
    exact ⟨o, e, d, fun g => by rw [x.name]; exact x.ns g, x.code, x.cl, x.gs, x.bt⟩
  blt := fun x hx => ⟨free_of T (List.all_eq_true.mp hn x hx), T.builtins x fun q => by rw [q] at hx; revert hx; decide⟩
theorem fnOk_at {P : Pg} {f : Nat} {F : Fn} {mN : Str → Option Value} {gl : Bool} {nm : Str} {sc : Scope} {bd : List Stmt} {ps : List Str} {tab : List (Option (Str × NameKind))} (x : FnAt P.h₀ P.mg mN gl nm sc bd ps (P.fnA f) (P.fd f)) (h : fnB sc tab ps = true) (hnp : ps.length = F.np) (sim : SimS P ⟨sc, tab⟩ bd F.body) : FnOk P f F tab ps bd :=
  FnOk.of x.sc x.bd h hnp (fun vals hv => x.bind vals (by rw [hnp]; exact hv)) sim

noncomputable def fragOf (xs : List Str) (mg : Str → Option Value) (h : Heap) : Frag :=
  (xs.flatMap fun x => adr mg x :: (match h.get? (adr mg x) with
    | some ⟨_, _, .cls cd, _⟩ => [cd.ns]
    | _ => [])).filterMap fun a => (h.get? a).map fun o => (a, o)
theorem frag_in {h : Heap} : ∀ (l : List Addr), Frag.In (l.filterMap fun a => (h.get? a).map fun o => (a, o)) h
  | [], a, o, e => by cases e
  | b :: l, a, o, e => by
    cases hb : h.get? b with
    | none => rw [List.filterMap_cons_none (by simp only [hb, Option.map_none])] at e; exact frag_in l a o e
    | some ob =>
      rw [List.filterMap_cons_some (by simp only [hb, Option.map_some]; rfl), List.lookup_cons] at e
      cases q : a == b with
      | true => rw [q] at e; cases e; rw [beq_iff_eq.mp q]; exact hb
      | false => rw [q] at e; exact frag_in l a o e
theorem fragOf_in {xs : List Str} {mg : Str → Option Value} {h : Heap} : (fragOf xs mg h).In h := frag_in _
noncomputable def excKb (K : Frag) (D : Addr) : Bool := (findIn K (.ref D) "__getattribute__" == some (some (.builtin "BaseException.__getattribute__"))) && (findIn K (.ref D) "__getattr__" == some none) && (subIn K (.ref D) (.type "BaseException") == some true) && hasDictIn K D && (findIn K (.ref D) "__class__" == some (some (.builtin "object.__class__"))) &&
  (specialIn K (.builtin "object.__class__") "__get__" == some (some (.builtin "getset_descriptor.__get__"))) && (takesIn K (.builtin "object.__class__") == some true) && (mroIn K D (.type "object") == some true)
theorem excK_of {K : Frag} {D : Addr} (h : excKb K D = true) : ExcK K D := by
  unfold excKb at h
  simp only [Bool.and_eq_true, beq_iff_eq] at h
  obtain ⟨⟨⟨⟨⟨⟨⟨h1, h2⟩, h3⟩, h4⟩, h5⟩, h6⟩, h7⟩, h8⟩ := h
  exact ⟨h1, h2, h3, h4, h5, h6, h7, h8⟩
noncomputable def hitB (K : Frag) (mg : Str → Option Value) (w : Str) (its : List Str) (d x : Str) (b : Bool) : Bool :=
  excKb K (adr mg x) && (exmOne K (.ref (adr mg x)) (.ref (adr mg w)) == some true) && (match kitAny K (.ref (adr mg x)) (its.map fun y => .ref (adr mg y)), kitOne K (.ref (adr mg x)) (.ref (adr mg d)), kitOne K (.ref (adr mg x)) (.type "ValueError") with
    | some b1, some b2, some b3 => b == (b2 && (b3 && !b1))
    | _, _, _ => false)
theorem hitOk_of {P : Pg} {K : Frag} {w : Str} {its : List Str} {d x : Str} {b : Bool} {c : Nat} (h : hitB K P.mg w its d x b = true) (hc : P.cls c = adr P.mg x) : HitOk P K (adr P.mg w) (its.map fun y => .ref (adr P.mg y)) (.ref (adr P.mg d)) c b := by
  unfold hitB at h
  simp only [Bool.and_eq_true, beq_iff_eq] at h
  obtain ⟨⟨h1, h2⟩, h3⟩ := h
  split at h3
  · rename_i b1 b2 b3 e1 e2 e3
    exact ⟨hc ▸ excK_of h1, hc ▸ h2, b1, b2, b3, hc ▸ e1, hc ▸ e2, hc ▸ e3, beq_iff_eq.mp h3⟩
  · cases h3
theorem own_adr {q : Program} {loose : List Str} {mean : ExcName → Option Value} {mg mb : Str → Option Value} {h : Heap} {x : Str} {newId : String} {bm : List Value} (T : Top q loose mean mg mb h) (hs : specOf q x = some (newId, bm)) : OwnCls x (adr mg x) bm newId mg h := by
  obtain ⟨C, O, _⟩ := T.ownAt hs
  have := O.own
  rw [adr_of this.bound]
  exact this
theorem const_int {q : Program} {loose : List Str} {mean : ExcName → Option Value} {mg mb : Str → Option Value} {h : Heap} {x : Str} {n : Int} {P : Pl} (T : Top q loose mean mg mb h) (hs : valOf q x = some (.int n)) : ∃ u, mg x = some u ∧ ∀ β h, Rel P β h (.int n) u := by
  obtain ⟨v, h1, h2⟩ := T.const x _ hs
  refine ⟨v, h1, fun β h => ?_⟩
  cases h2 h
  exact .int _ _
theorem const_str {q : Program} {loose : List Str} {mean : ExcName → Option Value} {mg mb : Str → Option Value} {h : Heap} {x : Str} {n : Str} {P : Pl} (T : Top q loose mean mg mb h) (hs : valOf q x = some (.str n)) (hn : n.length ≤ lim ∧ PyData.strOk n = true) : ∃ u, mg x = some u ∧ ∀ β h, Rel P β h (.str n) u := by
  obtain ⟨v, h1, h2⟩ := T.const x _ hs
  refine ⟨v, h1, fun β h => ?_⟩
  cases h2 h
  exact .str hn.2 hn.1
end
end Mine
end
section
set_option autoImplicit false
set_option maxRecDepth 100000
set_option maxHeartbeats 4000000
namespace Mine.L02
noncomputable section
open PySem PySem.W PyProof.Rows

noncomputable def stAt (k : Nat) : Stmt := (PySem.Challenge.pw_uf020006_02.main.body[k]?).getD (.Pass default)
noncomputable def meAt (k j : Nat) : Stmt := match stAt k with | .ClassDef _ _ _ b _ _ _ _ _ _ _ => (b[j]?).getD (.Pass default) | _ => .Pass default
noncomputable def bodyOf (s : Stmt) : List Stmt := match s with | .FunctionDef _ _ b _ _ _ _ _ _ _ => b | _ => []
noncomputable def scOf (s : Stmt) : Scope := match s with | .FunctionDef _ _ _ _ _ _ s _ _ _ => s | _ => default
noncomputable def paOf (s : Stmt) : Arguments := match s with | .FunctionDef _ a _ _ _ _ _ _ _ _ => a | _ => default
noncomputable def fnSt : Nat → Stmt
  | 0 => stAt 9
  | 1 => stAt 12
  | 2 => stAt 13
  | 3 => stAt 16
  | 4 => stAt 17
  | 5 => stAt 18
  | 6 => stAt 20
  | 7 => stAt 21
  | 8 => stAt 22
  | 9 => stAt 23
  | 10 => stAt 24
  | 11 => stAt 25
  | 12 => meAt 14 0
  | 13 => meAt 14 1
  | 14 => meAt 14 2
  | 15 => meAt 14 3
  | _ => .Pass default
noncomputable def nmOf : Nat → Str
  | 0 => (Str.ofString "is_mark")
  | 1 => (Str.ofString "is_place")
  | 2 => (Str.ofString "need_places")
  | 3 => (Str.ofString "_law_cell_at")
  | 4 => (Str.ofString "_law_draw")
  | 5 => (Str.ofString "_law_names")
  | 6 => (Str.ofString "_law_some")
  | 7 => (Str.ofString "_law_machine")
  | 8 => (Str.ofString "_law_wrong")
  | 9 => (Str.ofString "_law_refused")
  | 10 => (Str.ofString "_law_right")
  | 11 => (Str.ofString "law")
  | 12 => (Str.ofString "__init__")
  | 13 => (Str.ofString "mark")
  | 14 => (Str.ofString "leads")
  | 15 => (Str.ofString "starts")
  | _ => Str.ofString ""
noncomputable def glOf : Nat → Bool
  | 12 => false
  | 13 => false
  | 14 => false
  | 15 => false
  | _ => true
noncomputable def tab_is_mark_1 : List (Option (Str × NameKind)) := [none, some ((Str.ofString "sign"), .local)]
noncomputable def tab_is_mark : List (Option (Str × NameKind)) := [some ((Str.ofString "thing"), .local)]
noncomputable def tab_is_place : List (Option (Str × NameKind)) := [some ((Str.ofString "thing"), .local), some ((Str.ofString "many"), .local)]
noncomputable def tab_need_places : List (Option (Str × NameKind)) := [some ((Str.ofString "thing"), .local), some ((Str.ofString "many"), .local), some ((Str.ofString "at"), .local), some ((Str.ofString "place"), .local)]
noncomputable def tab__law_cell_at : List (Option (Str × NameKind)) := [some ((Str.ofString "_law_script"), .local), some ((Str.ofString "_law_k"), .local)]
noncomputable def tab__law_draw : List (Option (Str × NameKind)) := [some ((Str.ofString "_law_script"), .local), some ((Str.ofString "_law_spot"), .local), some ((Str.ofString "_law_k"), .local)]
noncomputable def tab__law_names_1 : List (Option (Str × NameKind)) := [some ((Str.ofString "_law_cell"), .cell), some ((Str.ofString "_law_letters"), .cell), none, none, none, none, none, none, some ((Str.ofString "_law_j"), .local)]
noncomputable def tab__law_names_2 : List (Option (Str × NameKind)) := [none, none, some ((Str.ofString "_law_rest"), .cell), some ((Str.ofString "_law_size"), .cell), none, none, none, none, none, some ((Str.ofString "_law_k"), .local)]
noncomputable def tab__law_names : List (Option (Str × NameKind)) := [some ((Str.ofString "_law_cell"), .cell), some ((Str.ofString "_law_letters"), .cell), some ((Str.ofString "_law_rest"), .cell), some ((Str.ofString "_law_size"), .cell), some ((Str.ofString "_law_at"), .local), some ((Str.ofString "_law_found"), .local), some ((Str.ofString "_law_k"), .local), some ((Str.ofString "_law_letter"), .local)]
noncomputable def tab__law_some : List (Option (Str × NameKind)) := [some ((Str.ofString "_law_cell"), .local), some ((Str.ofString "_law_many"), .local), some ((Str.ofString "_law_first"), .local), some ((Str.ofString "_law_rest"), .local), some ((Str.ofString "_law_found"), .local), some ((Str.ofString "_law_k"), .local)]
noncomputable def tab__law_machine : List (Option (Str × NameKind)) := [some ((Str.ofString "_law_script"), .local), some ((Str.ofString "_law_spot"), .local), some ((Str.ofString "_law_names_here"), .local), some ((Str.ofString "_law_most"), .local), some ((Str.ofString "_law_many"), .local), some ((Str.ofString "_law_some_here"), .local), some ((Str.ofString "_law_marks"), .local), some ((Str.ofString "_law_ways"), .local), some ((Str.ofString "_law_k"), .local), some ((Str.ofString "_law_cell"), .local)]
noncomputable def tab__law_wrong_1 : List (Option (Str × NameKind)) := [none, some ((Str.ofString "_law_marks"), .cell), some ((Str.ofString "_law_ways"), .cell), some ((Str.ofString "_law_begins"), .cell), none, some ((Str.ofString "_law_at"), .cell), none, none, none, none, some ((Str.ofString "_law_row"), .local)]
noncomputable def tab__law_wrong_2 : List (Option (Str × NameKind)) := [none, some ((Str.ofString "_law_marks"), .cell), some ((Str.ofString "_law_ways"), .cell), some ((Str.ofString "_law_begins"), .cell), none, some ((Str.ofString "_law_at"), .cell), none, none, none, none, none, some ((Str.ofString "_law_sign"), .local)]
noncomputable def tab__law_wrong : List (Option (Str × NameKind)) := [some ((Str.ofString "_law_cell"), .local), some ((Str.ofString "_law_marks"), .cell), some ((Str.ofString "_law_ways"), .cell), some ((Str.ofString "_law_begins"), .cell), some ((Str.ofString "_law_many"), .local), some ((Str.ofString "_law_at"), .cell), some ((Str.ofString "_law_odd"), .local), some ((Str.ofString "_law_bad"), .local), some ((Str.ofString "_law_rows"), .local), some ((Str.ofString "_law_signs"), .local)]
noncomputable def tab__law_refused : List (Option (Str × NameKind)) := [some ((Str.ofString "_law_things"), .local), some ((Str.ofString "_law_others"), .local)]
noncomputable def tab__law_right_1 : List (Option (Str × NameKind)) := [none, none, none, none, none, none, none, some ((Str.ofString "_law_one"), .local)]
noncomputable def tab__law_right_2 : List (Option (Str × NameKind)) := [none, none, none, none, none, none, none, none, some ((Str.ofString "_law_one"), .local)]
noncomputable def tab__law_right : List (Option (Str × NameKind)) := [some ((Str.ofString "_law_machine_here"), .local), some ((Str.ofString "_law_marks"), .local), some ((Str.ofString "_law_ways"), .local), some ((Str.ofString "_law_begins"), .local), some ((Str.ofString "_law_told"), .local), some ((Str.ofString "_law_k"), .local), some ((Str.ofString "_law_found"), .local)]
noncomputable def tab_law_1 : List (Option (Str × NameKind)) := [none, none, none, none, none, none, none, none, none, none, none, none, none, some ((Str.ofString "_law_row"), .local)]
noncomputable def tab_law_2 : List (Option (Str × NameKind)) := [none, none, none, none, none, none, none, none, some ((Str.ofString "_law_machine_here"), .cell), none, none, none, none, none, some ((Str.ofString "_law_k"), .local)]
noncomputable def tab_law_3 : List (Option (Str × NameKind)) := [none, none, none, none, none, none, none, none, none, none, none, none, none, none, none, some ((Str.ofString "_law_row"), .local)]
noncomputable def tab_law : List (Option (Str × NameKind)) := [some ((Str.ofString "_law_script"), .local), some ((Str.ofString "_law_spot"), .local), some ((Str.ofString "_law_names_here"), .local), some ((Str.ofString "_law_marks"), .local), some ((Str.ofString "_law_ways"), .local), some ((Str.ofString "_law_begins"), .local), some ((Str.ofString "_law_cell"), .local), some ((Str.ofString "_law_handed"), .local), some ((Str.ofString "_law_machine_here"), .cell), some ((Str.ofString "_law_held"), .local), some ((Str.ofString "_law_row"), .local), some ((Str.ofString "_law_kept"), .local), some ((Str.ofString "_law_other"), .local)]
noncomputable def tab_Machine___init___1 : List (Option (Str × NameKind)) := [none, none, none, none, none, some ((Str.ofString "mark"), .local)]
noncomputable def tab_Machine___init___2 : List (Option (Str × NameKind)) := [none, none, none, none, none, none, some ((Str.ofString "row"), .local)]
noncomputable def tab_Machine___init__ : List (Option (Str × NameKind)) := [some ((Str.ofString "self"), .local), some ((Str.ofString "marks"), .local), some ((Str.ofString "ways"), .local), some ((Str.ofString "begins"), .local), some ((Str.ofString "row"), .local)]
noncomputable def tab_Machine_mark : List (Option (Str × NameKind)) := [some ((Str.ofString "self"), .local), some ((Str.ofString "place"), .local)]
noncomputable def tab_Machine_leads : List (Option (Str × NameKind)) := [some ((Str.ofString "self"), .local), some ((Str.ofString "place"), .local)]
noncomputable def tab_Machine_starts : List (Option (Str × NameKind)) := [some ((Str.ofString "self"), .local)]
noncomputable def hit : Nat → Option Bool
  | 4 => some true
  | _ => none
noncomputable def d_is_mark : DS :=
    sSeq (sIf (tOr (tNot (tE (dB1 (bIsi .str) (dV 0)))) (tOr (tCmp cGt (dB1 bLen (dV 0)) (dC (.int 6))) (tFalse))) (sSeq (sRet (dC (.bool false)))
    (sNil)) (sNil))
    (sSeq (sRet (dB1 bAll (dComp [1] (iStr (dV 0)) (cb1 1) (tTrue) (dCmp cInS (dV 1) (dC (.str (Str.ofString "abcdefghijklmnopqrstuvwxyz")))))))
    (sNil))
noncomputable def d_is_place : DS :=
    sSeq (sRet (dAnd (dB1 (bIsi .int) (dV 0)) (dAnd (dNot (dB1 (bIsi .bool) (dV 0))) (dCmp2 cLe cLt (dC (.int 0)) (dV 0) (dV 1)))))
    (sNil)
noncomputable def d_need_places : DS :=
    sSeq (sIf (tOr (tNot (tE (dB1 (bIsi .list) (dV 0)))) (tOr (tCmp cEq (dB1 bLen (dV 0)) (dC (.int 0))) (tFalse))) (sSeq (sRaise 4 (dCons (dC (.str (Str.ofString "a list of places is wanted"))) (dNil)))
    (sNil)) (sNil))
    (sSeq (sFor (iEnum (dV 0)) (bd2 2 3) (sSeq (sIf (tOr (tNot (tE (dCall 1 (dCons (dV 3) (dCons (dV 1) (dNil)))))) (tOr (tCmp cIn (dV 3) (dSlc (dV 0) (oNone) (oSome (dV 2)))) (tFalse))) (sSeq (sRaise 4 (dCons (dC (.str (Str.ofString "no place, or one twice"))) (dNil)))
    (sNil)) (sNil))
    (sNil)))
    (sNil))
noncomputable def d__law_cell_at : DS :=
    sSeq (sIf (tCmp cLt (dV 1) (dB1 bLen (dV 0))) (sSeq (sRet (dIdx (dV 0) (dV 1)))
    (sNil)) (sNil))
    (sSeq (sRet (dC (.int 0)))
    (sNil))
noncomputable def d__law_draw : DS :=
    sSeq (sPut (dV 1) (dC (.int 0)) (dBin opAdd (dIdx (dV 1) (dC (.int 0))) (dC (.int 1))))
    (sSeq (sSet 2 (dBin opSub (dIdx (dV 1) (dC (.int 0))) (dC (.int 1))))
    (sSeq (sIf (tCmp cLt (dV 2) (dB1 bLen (dV 0))) (sSeq (sRet (dIdx (dV 0) (dV 2)))
    (sNil)) (sNil))
    (sSeq (sIf (tAnd (tCmp cGt (dB1 bLen (dV 0)) (dC (.int 4))) (tAnd (tCmp cLt (dV 2) (dC (.int 50))) (tTrue))) (sSeq (sRet (dBin opMod (dBin opMul (dBin opAdd (dIdx (dV 0) (dBin opMod (dV 2) (dB1 bLen (dV 0)))) (dBin opMul (dC (.int 7919)) (dV 2))) (dC (.int 48271))) (dC (.int 1000003))))
    (sNil)) (sNil))
    (sSeq (sRet (dC (.int 0)))
    (sNil)))))
noncomputable def d__law_names : DS :=
    sSeq (sSet 1 (dC (.str (Str.ofString "abcdefghijklmnopqrstuvwxyz"))))
    (sSeq (sSet 2 (dM1 .str bJoin (dC (.str (Str.ofString ""))) (dComp [8] (iRange (dCons (dC (.int 6)) (dNil))) (cb1 8) (tTrue) (dIdx (dV 1) (dBin opMod (dBin opAdd (dBin opDiv (dV 0) (dC (.int 7))) (dBin opMul (dC (.int 5)) (dV 8))) (dC (.int 26)))))))
    (sSeq (sIf (tCmp cEq (dBin opMod (dV 0) (dC (.int 3))) (dC (.int 2))) (sSeq (sSet 3 (dBin opAdd (dC (.int 1)) (dBin opMod (dBin opDiv (dV 0) (dC (.int 3))) (dC (.int 4)))))
    (sSeq (sRet (dComp [9] (iRange (dCons (dC (.int 3)) (dNil))) (cb1 9) (tTrue) (dSlc (dV 2) (oNone) (oSome (dBin opAdd (dV 3) (dV 9))))))
    (sNil))) (sNil))
    (sSeq (sSet 3 (dBin opMod (dBin opDiv (dV 0) (dC (.int 3))) (dC (.int 6))))
    (sSeq (sSet 4 (dBin opMod (dBin opDiv (dV 0) (dC (.int 18))) (dBin opAdd (dV 3) (dC (.int 1)))))
    (sSeq (sSet 5 (dLst (dNil)))
    (sSeq (sFor (iRange (dCons (dC (.int 3)) (dNil))) (bd1 6) (sSeq (sSet 7 (dIdx (dV 1) (dBin opMod (dBin opAdd (dBin opDiv (dV 0) (dC (.int 90))) (dBin opMul (dC (.int 7)) (dV 6))) (dC (.int 26)))))
    (sSeq (sExpr (dM1 .list bAppend (dV 5) (dBin opAdd (dBin opAdd (dSlc (dV 2) (oNone) (oSome (dV 4))) (dV 7)) (dSlc (dV 2) (oSome (dV 4)) (oSome (dV 3))))))
    (sNil))))
    (sSeq (sRet (dV 5))
    (sNil))))))))
noncomputable def d__law_some : DS :=
    sSeq (sSet 3 (dBin opMod (dBin opMul (dV 0) (dC (.int 48271))) (dC (.int 1000003))))
    (sSeq (sSet 4 (dLst (dCons (dBin opMod (dV 2) (dV 1)) (dNil))))
    (sSeq (sFor (iRange (dCons (dC (.int 1)) (dCons (dV 1) (dNil)))) (bd1 5) (sSeq (sIf (tCmp cEq (dBin opMod (dV 3) (dC (.int 3))) (dC (.int 1))) (sSeq (sExpr (dM1 .list bAppend (dV 4) (dBin opMod (dBin opAdd (dV 2) (dV 5)) (dV 1))))
    (sNil)) (sNil))
    (sSeq (sSet 3 (dBin opDiv (dV 3) (dC (.int 3))))
    (sNil))))
    (sSeq (sRet (dV 4))
    (sNil))))
noncomputable def d__law_machine : DS :=
    sSeq (sSet 4 (dBin opAdd (dC (.int 1)) (dBin opMod (dCall 4 (dCons (dV 0) (dCons (dV 1) (dNil)))) (dV 3))))
    (sSeq (sSet 5 (dBin opAdd (dV 2) (dLst (dCons (dC (.str (Str.ofString ""))) (dCons (dIdx (dV 2) (dC (.int 0))) (dCons (dIdx (dV 2) (dC (.int 1))) (dNil)))))))
    (sSeq (sSet 6 (dLst (dNil)))
    (sSeq (sSet 7 (dLst (dNil)))
    (sSeq (sFor (iRange (dCons (dV 4) (dNil))) (bd1 8) (sSeq (sSet 9 (dCall 4 (dCons (dV 0) (dCons (dV 1) (dNil)))))
    (sSeq (sExpr (dM1 .list bAppend (dV 6) (dIdx (dV 5) (dBin opMod (dV 9) (dC (.int 6))))))
    (sSeq (sExpr (dM1 .list bAppend (dV 7) (dCall 6 (dCons (dV 9) (dCons (dV 4) (dCons (dBin opDiv (dV 9) (dC (.int 6))) (dNil)))))))
    (sNil)))))
    (sSeq (sSet 9 (dCall 4 (dCons (dV 0) (dCons (dV 1) (dNil)))))
    (sSeq (sIf (tCmp cEq (dBin opMod (dV 9) (dC (.int 4))) (dC (.int 3))) (sSeq (sRet (dTup (dCons (dV 6) (dCons (dV 7) (dCons (dCall 6 (dCons (dV 9) (dCons (dV 4) (dCons (dBin opDiv (dV 9) (dC (.int 4))) (dNil))))) (dNil))))))
    (sNil)) (sNil))
    (sSeq (sRet (dTup (dCons (dV 6) (dCons (dV 7) (dCons (dLst (dCons (dBin opMod (dBin opDiv (dV 9) (dC (.int 4))) (dV 4)) (dNil))) (dNil))))))
    (sNil))))))))
noncomputable def d__law_wrong : DS :=
    sSeq (sSet 4 (dB1 bLen (dV 1)))
    (sSeq (sSet 5 (dBin opMod (dBin opDiv (dV 0) (dC (.int 28))) (dV 4)))
    (sSeq (sSet 6 (dIdx (dLst (dCons (dUn opNeg (dC (.int 1))) (dCons (dV 4) (dCons (dC (.bool true)) (dCons (dC .none) (dCons (dC (.str (Str.ofString "0"))) (dCons (dLst (dCons (dC (.int 0)) (dNil))) (dCons (dBin opPow (dC (.int 10)) (dC (.int 20))) (dNil))))))))) (dBin opMod (dBin opDiv (dV 0) (dC (.int 400))) (dC (.int 7)))))
    (sSeq (sSet 7 (dLst (dCons (dLst (dCons (dV 1) (dCons (dV 2) (dCons (dLst (dNil)) (dNil))))) (dCons (dLst (dCons (dV 1) (dCons (dV 2) (dCons (dLst (dCons (dV 6) (dNil))) (dNil))))) (dCons (dLst (dCons (dV 1) (dCons (dV 2) (dCons (dBin opAdd (dV 3) (dSlc (dV 3) (oNone) (oSome (dC (.int 1))))) (dNil))))) (dCons (dLst (dCons (dV 1) (dCons (dV 2) (dCons (dB1 bTuple (dV 3)) (dNil))))) (dNil)))))))
    (sSeq (sSet 7 (dBin opAdd (dV 7) (dLst (dCons (dLst (dCons (dV 1) (dCons (dV 2) (dCons (dC .none) (dNil))))) (dCons (dLst (dCons (dLst (dNil)) (dCons (dLst (dNil)) (dCons (dLst (dNil)) (dNil))))) (dCons (dLst (dCons (dLst (dNil)) (dCons (dLst (dNil)) (dCons (dLst (dCons (dC (.int 0)) (dNil))) (dNil))))) (dCons (dLst (dCons (dV 1) (dCons (dSlc (dV 2) (oNone) (oSome (dUn opNeg (dC (.int 1))))) (dCons (dV 3) (dNil))))) (dNil))))))))
    (sSeq (sSet 7 (dBin opAdd (dV 7) (dLst (dCons (dLst (dCons (dV 1) (dCons (dBin opAdd (dV 2) (dLst (dCons (dLst (dCons (dC (.int 0)) (dNil))) (dNil)))) (dCons (dV 3) (dNil))))) (dNil)))))
    (sSeq (sSet 8 (dLst (dCons (dLst (dNil)) (dCons (dLst (dCons (dV 6) (dNil))) (dCons (dBin opAdd (dIdx (dV 2) (dV 5)) (dLst (dCons (dV 6) (dNil)))) (dCons (dBin opAdd (dIdx (dV 2) (dV 5)) (dSlc (dIdx (dV 2) (dV 5)) (oNone) (oSome (dC (.int 1))))) (dCons (dB1 bTuple (dIdx (dV 2) (dV 5))) (dCons (dC .none) (dCons (dC (.int 0)) (dCons (dDic) (dCons (dC (.str (Str.ofString "0"))) (dNil))))))))))))
    (sSeq (sSet 7 (dBin opAdd (dV 7) (dComp [10] (iSeq (dV 8)) (cb1 10) (tTrue) (dLst (dCons (dV 1) (dCons (dBin opAdd (dBin opAdd (dSlc (dV 2) (oNone) (oSome (dV 5))) (dLst (dCons (dV 10) (dNil)))) (dSlc (dV 2) (oSome (dBin opAdd (dV 5) (dC (.int 1)))) (oNone))) (dCons (dV 3) (dNil))))))))
    (sSeq (sSet 9 (dLst (dCons (dC (.str (Str.ofString "A"))) (dCons (dC (.str (Str.ofString "abcdefg"))) (dCons (dC (.int 5)) (dCons (dC .none) (dCons (dLst (dCons (dC (.str (Str.ofString "a"))) (dNil))) (dCons (dC (.str (Str.ofString "a b"))) (dCons (dC (.bool true)) (dNil))))))))))
    (sSeq (sSet 7 (dBin opAdd (dV 7) (dComp [11] (iSeq (dV 9)) (cb1 11) (tTrue) (dLst (dCons (dBin opAdd (dBin opAdd (dSlc (dV 1) (oNone) (oSome (dV 5))) (dLst (dCons (dV 11) (dNil)))) (dSlc (dV 1) (oSome (dBin opAdd (dV 5) (dC (.int 1)))) (oNone))) (dCons (dV 2) (dCons (dV 3) (dNil))))))))
    (sSeq (sSet 7 (dBin opAdd (dV 7) (dLst (dCons (dLst (dCons (dB1 bTuple (dV 1)) (dCons (dV 2) (dCons (dV 3) (dNil))))) (dCons (dLst (dCons (dV 1) (dCons (dB1 bTuple (dV 2)) (dCons (dV 3) (dNil))))) (dNil))))))
    (sSeq (sRet (dIdx (dBin opAdd (dV 7) (dLst (dCons (dLst (dCons (dBin opRep (dLst (dCons (dC (.str (Str.ofString ""))) (dNil))) (dC (.int 13))) (dCons (dBin opRep (dLst (dCons (dLst (dCons (dC (.int 0)) (dNil))) (dNil))) (dC (.int 13))) (dCons (dLst (dCons (dC (.int 0)) (dNil))) (dNil))))) (dNil)))) (dBin opMod (dV 0) (dC (.int 28)))))
    (sNil))))))))))))
noncomputable def d__law_refused : DS :=
    sSeq (sTryIsi hit (sSeq (sExpr (dNew 0 12 (dCons (dIdx (dV 0) (dC (.int 0))) (dCons (dIdx (dV 0) (dC (.int 1))) (dCons (dIdx (dV 0) (dC (.int 2))) (dNil))))))
    (sNil)))
    (sSeq (sRet (dC (.bool false)))
    (sNil))
noncomputable def d__law_right : DS :=
    sSeq (sSet 4 (dMeth 0 15 (Str.ofString "starts") (dV 0) (dNil)))
    (sSeq (sIf (tOr (tNot (tE (dB1 (bIsi .list) (dV 4)))) (tOr (tCmp cNe (dV 4) (dV 3)) (tOr (tCmp cIn (dC (.bool true)) (dComp [7] (iSeq (dV 4)) (cb1 7) (tTrue) (dB1 (bIsi .bool) (dV 7)))) (tFalse)))) (sSeq (sRet (dC (.bool false)))
    (sNil)) (sNil))
    (sSeq (sFor (iRange (dCons (dB1 bLen (dV 1)) (dNil))) (bd1 5) (sSeq (sSet 6 (dMeth 0 14 (Str.ofString "leads") (dV 0) (dCons (dV 5) (dNil))))
    (sSeq (sIf (tOr (tNot (tE (dB1 (bIsi .list) (dV 6)))) (tOr (tCmp cNe (dV 6) (dIdx (dV 2) (dV 5))) (tOr (tNot (tE (dB1 (bIsi .str) (dMeth 0 13 (Str.ofString "mark") (dV 0) (dCons (dV 5) (dNil)))))) (tFalse)))) (sSeq (sRet (dC (.bool false)))
    (sNil)) (sNil))
    (sSeq (sIf (tOr (tCmp cNe (dMeth 0 13 (Str.ofString "mark") (dV 0) (dCons (dV 5) (dNil))) (dIdx (dV 1) (dV 5))) (tOr (tCmp cIn (dC (.bool true)) (dComp [8] (iSeq (dV 6)) (cb1 8) (tTrue) (dB1 (bIsi .bool) (dV 8)))) (tFalse))) (sSeq (sRet (dC (.bool false)))
    (sNil)) (sNil))
    (sNil)))))
    (sSeq (sRet (dC (.bool true)))
    (sNil))))
noncomputable def d_law : DS :=
    sSeq (sSet 1 (dLst (dCons (dC (.int 2)) (dNil))))
    (sSeq (sSet 2 (dCall 5 (dCons (dCall 3 (dCons (dV 0) (dCons (dC (.int 0)) (dNil)))) (dNil))))
    (sSeq (sUnp [3, 4, 5] (dCall 7 (dCons (dV 0) (dCons (dV 1) (dCons (dV 2) (dCons (dC (.int 12)) (dNil)))))))
    (sSeq (sSet 6 (dCall 3 (dCons (dV 0) (dCons (dC (.int 1)) (dNil)))))
    (sSeq (sIf (tAnd (tCmp cEq (dBin opMod (dV 6) (dC (.int 2))) (dC (.int 1))) (tAnd (tNot (tE (dCall 9 (dCons (dCall 8 (dCons (dBin opDiv (dV 6) (dC (.int 2))) (dCons (dV 3) (dCons (dV 4) (dCons (dV 5) (dNil)))))) (dNil))))) (tTrue))) (sSeq (sRet (dC (.bool false)))
    (sNil)) (sNil))
    (sSeq (sSet 7 (dLst (dCons (dB1 bList (dV 3)) (dCons (dComp [13] (iSeq (dV 4)) (cb1 13) (tTrue) (dB1 bList (dV 13))) (dCons (dB1 bList (dV 5)) (dNil))))))
    (sSeq (sSet 8 (dNew 0 12 (dCons (dIdx (dV 7) (dC (.int 0))) (dCons (dIdx (dV 7) (dC (.int 1))) (dCons (dIdx (dV 7) (dC (.int 2))) (dNil))))))
    (sSeq (sIf (tOr (tCmp cNe (dV 7) (dLst (dCons (dV 3) (dCons (dV 4) (dCons (dV 5) (dNil)))))) (tOr (tNot (tE (dCall 10 (dCons (dV 8) (dCons (dV 3) (dCons (dV 4) (dCons (dV 5) (dNil)))))))) (tFalse))) (sSeq (sRet (dC (.bool false)))
    (sNil)) (sNil))
    (sSeq (sPut (dIdx (dV 7) (dC (.int 0))) (dC (.int 0)) (dC (.str (Str.ofString "zzzzzz"))))
    (sSeq (sExpr (dM1 .list bAppend (dIdx (dIdx (dV 7) (dC (.int 1))) (dC (.int 0))) (dC (.int 99))))
    (sSeq (sExpr (dM0 .list bPop (dIdx (dV 7) (dC (.int 1)))))
    (sSeq (sExpr (dM1 .list bAppend (dIdx (dV 7) (dC (.int 2))) (dC (.int 99))))
    (sSeq (sSet 9 (dBin opAdd (dLst (dCons (dMeth 0 15 (Str.ofString "starts") (dV 8) (dNil)) (dNil))) (dComp [14] (iRange (dCons (dB1 bLen (dV 3)) (dNil))) (cb1 14) (tTrue) (dMeth 0 14 (Str.ofString "leads") (dV 8) (dCons (dV 14) (dNil))))))
    (sSeq (sFor (iSeq (dV 9)) (bd1 10) (sSeq (sExpr (dM1 .list bAppend (dV 10) (dC (.int 99))))
    (sNil)))
    (sSeq (sSet 11 (dComp [15] (iSeq (dV 9)) (cb1 15) (tTrue) (dB1 bList (dV 15))))
    (sSeq (sSet 12 (dNew 0 12 (dCons (dV 3) (dCons (dV 4) (dCons (dLst (dCons (dBin opSub (dB1 bLen (dV 3)) (dC (.int 1))) (dNil))) (dNil))))))
    (sSeq (sIf (tOr (tNot (tE (dCall 10 (dCons (dV 8) (dCons (dV 3) (dCons (dV 4) (dCons (dV 5) (dNil)))))))) (tOr (tCmp cNe (dMeth 0 15 (Str.ofString "starts") (dV 12) (dNil)) (dLst (dCons (dBin opSub (dB1 bLen (dV 3)) (dC (.int 1))) (dNil)))) (tFalse))) (sSeq (sRet (dC (.bool false)))
    (sNil)) (sNil))
    (sSeq (sRet (dAnd (dCmp cEq (dV 9) (dV 11)) (dCall 10 (dCons (dV 8) (dCons (dV 3) (dCons (dV 4) (dCons (dV 5) (dNil))))))))
    (sNil))))))))))))))))))
noncomputable def d_Machine___init__ : DS :=
    sSeq (sIf (tOr (tNot (tE (dB1 (bIsi .list) (dV 1)))) (tOr (tNot (tCmp2 cLe cLe (dC (.int 1)) (dB1 bLen (dV 1)) (dC (.int 12)))) (tFalse))) (sSeq (sRaise 4 (dCons (dC (.str (Str.ofString "one to twelve marks are wanted"))) (dNil)))
    (sNil)) (sNil))
    (sSeq (sIf (tNot (tE (dB1 bAll (dComp [5] (iSeq (dV 1)) (cb1 5) (tTrue) (dCall 0 (dCons (dV 5) (dNil))))))) (sSeq (sRaise 4 (dCons (dC (.str (Str.ofString "no mark"))) (dNil)))
    (sNil)) (sNil))
    (sSeq (sIf (tOr (tNot (tE (dB1 (bIsi .list) (dV 2)))) (tOr (tCmp cNe (dB1 bLen (dV 2)) (dB1 bLen (dV 1))) (tFalse))) (sSeq (sRaise 4 (dCons (dC (.str (Str.ofString "a list of places for each place is wanted"))) (dNil)))
    (sNil)) (sNil))
    (sSeq (sFor (iSeq (dV 2)) (bd1 4) (sSeq (sExpr (dCall 2 (dCons (dV 4) (dCons (dB1 bLen (dV 1)) (dNil)))))
    (sNil)))
    (sSeq (sExpr (dCall 2 (dCons (dV 3) (dCons (dB1 bLen (dV 1)) (dNil)))))
    (sSeq (sSetA 0 (Str.ofString "names") (dV 0) (dB1 bList (dV 1)))
    (sSeq (sSetA 0 (Str.ofString "roads") (dV 0) (dComp [6] (iSeq (dV 2)) (cb1 6) (tTrue) (dB1 bList (dV 6))))
    (sSeq (sSetA 0 (Str.ofString "firsts") (dV 0) (dB1 bList (dV 3)))
    (sNil))))))))
noncomputable def d_Machine_mark : DS :=
    sSeq (sRet (dIdx (dAttr 0 (Str.ofString "names") (dV 0)) (dV 1)))
    (sNil)
noncomputable def d_Machine_leads : DS :=
    sSeq (sRet (dB1 bList (dIdx (dAttr 0 (Str.ofString "roads") (dV 0)) (dV 1))))
    (sNil)
noncomputable def d_Machine_starts : DS :=
    sSeq (sRet (dB1 bList (dAttr 0 (Str.ofString "firsts") (dV 0))))
    (sNil)
noncomputable def Φ : Nat → Option Fn
  | 0 => some ⟨1, d_is_mark⟩
  | 1 => some ⟨2, d_is_place⟩
  | 2 => some ⟨2, d_need_places⟩
  | 3 => some ⟨2, d__law_cell_at⟩
  | 4 => some ⟨2, d__law_draw⟩
  | 5 => some ⟨1, d__law_names⟩
  | 6 => some ⟨3, d__law_some⟩
  | 7 => some ⟨4, d__law_machine⟩
  | 8 => some ⟨4, d__law_wrong⟩
  | 9 => some ⟨1, d__law_refused⟩
  | 10 => some ⟨4, d__law_right⟩
  | 11 => some ⟨1, d_law⟩
  | 12 => some ⟨4, d_Machine___init__⟩
  | 13 => some ⟨2, d_Machine_mark⟩
  | 14 => some ⟨2, d_Machine_leads⟩
  | 15 => some ⟨1, d_Machine_starts⟩
  | _ => none
theorem phi_all {p : Nat → Fn → Prop} (h0 : p 0 ⟨1, d_is_mark⟩) (h1 : p 1 ⟨2, d_is_place⟩) (h2 : p 2 ⟨2, d_need_places⟩) (h3 : p 3 ⟨2, d__law_cell_at⟩) (h4 : p 4 ⟨2, d__law_draw⟩) (h5 : p 5 ⟨1, d__law_names⟩) (h6 : p 6 ⟨3, d__law_some⟩) (h7 : p 7 ⟨4, d__law_machine⟩) (h8 : p 8 ⟨4, d__law_wrong⟩) (h9 : p 9 ⟨1, d__law_refused⟩) (h10 : p 10 ⟨4, d__law_right⟩) (h11 : p 11 ⟨1, d_law⟩) (h12 : p 12 ⟨4, d_Machine___init__⟩) (h13 : p 13 ⟨2, d_Machine_mark⟩) (h14 : p 14 ⟨2, d_Machine_leads⟩) (h15 : p 15 ⟨1, d_Machine_starts⟩) : ∀ (f : Nat) (F : Fn), Φ f = some F → p f F := fun f F h => by
  match f, h with
  | 0, h => cases h; exact h0
  | 1, h => cases h; exact h1
  | 2, h => cases h; exact h2
  | 3, h => cases h; exact h3
  | 4, h => cases h; exact h4
  | 5, h => cases h; exact h5
  | 6, h => cases h; exact h6
  | 7, h => cases h; exact h7
  | 8, h => cases h; exact h8
  | 9, h => cases h; exact h9
  | 10, h => cases h; exact h10
  | 11, h => cases h; exact h11
  | 12, h => cases h; exact h12
  | 13, h => cases h; exact h13
  | 14, h => cases h; exact h14
  | 15, h => cases h; exact h15
  | _ + 16, h => cases h
structure Like (P : Pg) : Prop where
  Φ : P.Φ = Φ
  nm : ∀ f F, Mine.L02.Φ f = some F → P.gl f = glOf f ∧ (P.fd f).name = nmOf f
  o_Machine : ObjCls P 0 [(Str.ofString "names"), (Str.ofString "roads"), (Str.ofString "firsts")] [((Str.ofString "__init__"), 12), ((Str.ofString "mark"), 13), ((Str.ofString "leads"), 14), ((Str.ofString "starts"), 15)]
  g_Machine : P.mg (Str.ofString "Machine") = some (.ref (P.cls 0))
  e_WalkError : OwnCls (Str.ofString "WalkError") (P.cls 1) bmVE "ValueError.__new__" P.mg P.h₀
  e_BadSaying : OwnCls (Str.ofString "BadSaying") (P.cls 2) bmVE "ValueError.__new__" P.mg P.h₀
  e_TooMany : OwnCls (Str.ofString "TooMany") (P.cls 3) bmVE "ValueError.__new__" P.mg P.h₀
  e_BadMachine : OwnCls (Str.ofString "BadMachine") (P.cls 4) bmVE "ValueError.__new__" P.mg P.h₀
  e_NoWalk : OwnCls (Str.ofString "NoWalk") (P.cls 5) bmVE "ValueError.__new__" P.mg P.h₀
  c_LETTERS : ∃ u, P.mg (Str.ofString "LETTERS") = some u ∧ ∀ β h, Rel P.toPl β h (.str (Str.ofString "abcdefghijklmnopqrstuvwxyz")) u
  c_MOST_LETTERS : ∃ u, P.mg (Str.ofString "MOST_LETTERS") = some u ∧ ∀ β h, Rel P.toPl β h (.int 6) u
  c_MOST_PLACES : ∃ u, P.mg (Str.ofString "MOST_PLACES") = some u ∧ ∀ β h, Rel P.toPl β h (.int 12) u
  tr : ∃ K : Frag, K.In P.h₀ ∧ ∀ c b, hit c = some b → HitOk P K (P.cls 1) [.ref (P.cls 2), .ref (P.cls 5), .ref (P.cls 3)] (.ref (P.cls 4)) c b
theorem Like.fn {P : Pg} (H : Like P) (f : Nat) (F : Fn) (h : Mine.L02.Φ f = some F) : P.Φ f = some F := by rw [H.Φ]; exact h
theorem s_is_mark {P : Pg} (H : Like P) : SimS P ⟨scOf (stAt 9), tab_is_mark⟩ (bodyOf (stAt 9)) d_is_mark :=
    (SimS.cons (SimX.if (SimT.boolOp (SimA.or (SimT.not (SimT.val (SimE.isi .str (by decide +kernel) (by decide +kernel) rfl (fun _ => rfl) (SimE.var rfl)) (fun _ _ => rfl))) (SimA.or (SimT.cmp cmpGt rfl (SimE.len (by decide +kernel) rfl (fun _ => rfl) (SimE.var rfl)) (SimE.gconst (by decide +kernel) (by decide +kernel) H.c_MOST_LETTERS)) SimA.orNil))) (SimS.cons (SimX.ret SimE.bool)
    SimS.nil) SimS.nil)
    (SimS.cons (SimX.ret (SimE.allOf (by decide +kernel) rfl (fun _ => rfl) (SimE.comp (CompOk.of (tab := tab_is_mark_1) (locs := [1]) (by decide +kernel)) (SimI.str (Bind.cone rfl (.inl rfl)) (SimE.var rfl)) SimIfs.nil (SimE.cmp cmpInS rfl (SimE.var rfl) (SimE.gconst (by decide +kernel) (by decide +kernel) H.c_LETTERS)) (cb1_keeps 1) (fun _ _ => rfl))))
    SimS.nil))
theorem s_is_place {P : Pg} (H : Like P) : SimS P ⟨scOf (stAt 12), tab_is_place⟩ (bodyOf (stAt 12)) d_is_place :=
    (SimS.cons (SimX.ret (SimE.boolOp (SimB.and (SimE.isi .int (by decide +kernel) (by decide +kernel) rfl (fun _ => rfl) (SimE.var rfl)) (SimB.and (SimE.not (SimE.isi .bool (by decide +kernel) (by decide +kernel) rfl (fun _ => rfl) (SimE.var rfl))) (SimB.one (SimE.cmp2 cmpLe cmpLt (fun _ => rfl) SimE.int (SimE.var rfl) (SimE.var rfl)))))))
    SimS.nil)
theorem s_need_places {P : Pg} (H : Like P) : SimS P ⟨scOf (stAt 13), tab_need_places⟩ (bodyOf (stAt 13)) d_need_places :=
    (SimS.cons (SimX.if (SimT.boolOp (SimA.or (SimT.not (SimT.val (SimE.isi .list (by decide +kernel) (by decide +kernel) rfl (fun _ => rfl) (SimE.var rfl)) (fun _ _ => rfl))) (SimA.or (SimT.cmp cmpEq rfl (SimE.len (by decide +kernel) rfl (fun _ => rfl) (SimE.var rfl)) SimE.int) SimA.orNil))) (SimS.cons (SimX.raise (c := 4) H.e_BadMachine (by decide +kernel) (by decide +kernel) rfl (SimL.cons (fun _ => rfl) (SimE.str (by decide +kernel)) SimL.nil))
    SimS.nil) SimS.nil)
    (SimS.cons (SimX.for (fun _ _ => rfl) (SimI.enum (z1 := ⟨2, (Str.ofString "at"), .local, _⟩) (z2 := ⟨3, (Str.ofString "place"), .local, _⟩) ⟨rfl, .inl rfl⟩ ⟨rfl, .inl rfl⟩ (by decide +kernel) rfl (fun _ => rfl) (SimE.var rfl)) (SimS.cons (SimX.if (SimT.boolOp (SimA.or (SimT.not (SimT.val (SimE.call (f := 1) (H.fn 1 _ rfl) (H.nm 1 _ rfl) (by decide +kernel) (by decide +kernel) rfl (SimL.cons (fun _ => rfl) (SimE.var rfl) (SimL.cons (fun _ => rfl) (SimE.var rfl) SimL.nil))) (fun _ _ => rfl))) (SimA.or (SimT.cmp cmpIn rfl (SimE.var rfl) (SimE.slc (SimE.var rfl) SimO.none (SimO.some (SimE.var rfl)))) SimA.orNil))) (SimS.cons (SimX.raise (c := 4) H.e_BadMachine (by decide +kernel) (by decide +kernel) rfl (SimL.cons (fun _ => rfl) (SimE.str (by decide +kernel)) SimL.nil))
    SimS.nil) SimS.nil)
    SimS.nil))
    SimS.nil))
theorem s__law_cell_at {P : Pg} (H : Like P) : SimS P ⟨scOf (stAt 16), tab__law_cell_at⟩ (bodyOf (stAt 16)) d__law_cell_at :=
    (SimS.cons (SimX.if (SimT.cmp cmpLt rfl (SimE.var rfl) (SimE.len (by decide +kernel) rfl (fun _ => rfl) (SimE.var rfl))) (SimS.cons (SimX.ret (SimE.idx (fun _ _ => rfl) (SimE.var rfl) (SimE.var rfl)))
    SimS.nil) SimS.nil)
    (SimS.cons (SimX.ret SimE.int)
    SimS.nil))
theorem s__law_draw {P : Pg} (H : Like P) : SimS P ⟨scOf (stAt 17), tab__law_draw⟩ (bodyOf (stAt 17)) d__law_draw :=
    (SimS.cons (SimX.put (fun _ => rfl) (SimE.var rfl) SimE.int (SimE.bin opAdd_ok (SimE.idx (fun _ _ => rfl) (SimE.var rfl) SimE.int) SimE.int))
    (SimS.cons (SimX.setG rfl (.inl rfl) (by decide +kernel) (SimE.bin opSub_ok (SimE.idx (fun _ _ => rfl) (SimE.var rfl) SimE.int) SimE.int))
    (SimS.cons (SimX.if (SimT.cmp cmpLt rfl (SimE.var rfl) (SimE.len (by decide +kernel) rfl (fun _ => rfl) (SimE.var rfl))) (SimS.cons (SimX.ret (SimE.idx (fun _ _ => rfl) (SimE.var rfl) (SimE.var rfl)))
    SimS.nil) SimS.nil)
    (SimS.cons (SimX.if (SimT.boolOp (SimA.and (SimT.cmp cmpGt rfl (SimE.len (by decide +kernel) rfl (fun _ => rfl) (SimE.var rfl)) SimE.int) (SimA.and (SimT.cmp cmpLt rfl (SimE.var rfl) SimE.int) SimA.andNil))) (SimS.cons (SimX.ret (SimE.bin opMod_ok (SimE.bin opMul_ok (SimE.bin opAdd_ok (SimE.idx (fun _ _ => rfl) (SimE.var rfl) (SimE.bin opMod_ok (SimE.var rfl) (SimE.len (by decide +kernel) rfl (fun _ => rfl) (SimE.var rfl)))) (SimE.bin opMul_ok SimE.int (SimE.var rfl))) SimE.int) SimE.int))
    SimS.nil) SimS.nil)
    (SimS.cons (SimX.ret SimE.int)
    SimS.nil)))))
theorem s__law_names {P : Pg} (H : Like P) : SimS P ⟨scOf (stAt 18), tab__law_names⟩ (bodyOf (stAt 18)) d__law_names :=
    (SimS.cons (SimX.setG rfl (.inr rfl) (by decide +kernel) (SimE.str (by decide +kernel)))
    (SimS.cons (SimX.setG rfl (.inr rfl) (by decide +kernel) (SimE.m1 .str i_join join_ok (fun _ => rfl) rfl (fun _ => rfl) (SimE.str (by decide +kernel)) (SimE.comp (CompOk.of (tab := tab__law_names_1) (locs := [8]) (by decide +kernel)) (SimI.range (Bind.cone rfl (.inl rfl)) (by decide +kernel) rfl (SimL.cons (fun _ => rfl) SimE.int SimL.nil)) SimIfs.nil (SimE.idx (fun _ _ => rfl) (SimE.var rfl) (SimE.bin opMod_ok (SimE.bin opAdd_ok (SimE.bin opDiv_ok (SimE.var rfl) SimE.int) (SimE.bin opMul_ok SimE.int (SimE.var rfl))) SimE.int)) (cb1_keeps 8) (fun _ _ => rfl))))
    (SimS.cons (SimX.if (SimT.cmp cmpEq rfl (SimE.bin opMod_ok (SimE.var rfl) SimE.int) SimE.int) (SimS.cons (SimX.setG rfl (.inr rfl) (by decide +kernel) (SimE.bin opAdd_ok SimE.int (SimE.bin opMod_ok (SimE.bin opDiv_ok (SimE.var rfl) SimE.int) SimE.int)))
    (SimS.cons (SimX.ret (SimE.comp (CompOk.of (tab := tab__law_names_2) (locs := [9]) (by decide +kernel)) (SimI.range (Bind.cone rfl (.inl rfl)) (by decide +kernel) rfl (SimL.cons (fun _ => rfl) SimE.int SimL.nil)) SimIfs.nil (SimE.slc (SimE.var rfl) SimO.none (SimO.some (SimE.bin opAdd_ok (SimE.var rfl) (SimE.var rfl)))) (cb1_keeps 9) (fun _ _ => rfl)))
    SimS.nil)) SimS.nil)
    (SimS.cons (SimX.setG rfl (.inr rfl) (by decide +kernel) (SimE.bin opMod_ok (SimE.bin opDiv_ok (SimE.var rfl) SimE.int) SimE.int))
    (SimS.cons (SimX.setG rfl (.inl rfl) (by decide +kernel) (SimE.bin opMod_ok (SimE.bin opDiv_ok (SimE.var rfl) SimE.int) (SimE.bin opAdd_ok (SimE.var rfl) SimE.int)))
    (SimS.cons (SimX.setG rfl (.inl rfl) (by decide +kernel) (SimE.list SimL.nil))
    (SimS.cons (SimX.for (fun _ _ => rfl) (SimI.range (Bind.one rfl (.inl rfl)) (by decide +kernel) rfl (SimL.cons (fun _ => rfl) SimE.int SimL.nil)) (SimS.cons (SimX.setG rfl (.inl rfl) (by decide +kernel) (SimE.idx (fun _ _ => rfl) (SimE.var rfl) (SimE.bin opMod_ok (SimE.bin opAdd_ok (SimE.bin opDiv_ok (SimE.var rfl) SimE.int) (SimE.bin opMul_ok SimE.int (SimE.var rfl))) SimE.int)))
    (SimS.cons (SimX.expr (fun _ => rfl) (SimE.m1 .list i_append append_ok (fun _ => rfl) rfl (fun _ => rfl) (SimE.var rfl) (SimE.bin opAdd_ok (SimE.bin opAdd_ok (SimE.slc (SimE.var rfl) SimO.none (SimO.some (SimE.var rfl))) (SimE.var rfl)) (SimE.slc (SimE.var rfl) (SimO.some (SimE.var rfl)) (SimO.some (SimE.var rfl))))))
    SimS.nil)))
    (SimS.cons (SimX.ret (SimE.var rfl))
    SimS.nil))))))))
theorem s__law_some {P : Pg} (H : Like P) : SimS P ⟨scOf (stAt 20), tab__law_some⟩ (bodyOf (stAt 20)) d__law_some :=
    (SimS.cons (SimX.setG rfl (.inl rfl) (by decide +kernel) (SimE.bin opMod_ok (SimE.bin opMul_ok (SimE.var rfl) SimE.int) SimE.int))
    (SimS.cons (SimX.setG rfl (.inl rfl) (by decide +kernel) (SimE.list (SimL.cons (fun _ => rfl) (SimE.bin opMod_ok (SimE.var rfl) (SimE.var rfl)) SimL.nil)))
    (SimS.cons (SimX.for (fun _ _ => rfl) (SimI.range (Bind.one rfl (.inl rfl)) (by decide +kernel) rfl (SimL.cons (fun _ => rfl) SimE.int (SimL.cons (fun _ => rfl) (SimE.var rfl) SimL.nil))) (SimS.cons (SimX.if (SimT.cmp cmpEq rfl (SimE.bin opMod_ok (SimE.var rfl) SimE.int) SimE.int) (SimS.cons (SimX.expr (fun _ => rfl) (SimE.m1 .list i_append append_ok (fun _ => rfl) rfl (fun _ => rfl) (SimE.var rfl) (SimE.bin opMod_ok (SimE.bin opAdd_ok (SimE.var rfl) (SimE.var rfl)) (SimE.var rfl))))
    SimS.nil) SimS.nil)
    (SimS.cons (SimX.setG rfl (.inl rfl) (by decide +kernel) (SimE.bin opDiv_ok (SimE.var rfl) SimE.int))
    SimS.nil)))
    (SimS.cons (SimX.ret (SimE.var rfl))
    SimS.nil))))
theorem s__law_machine {P : Pg} (H : Like P) : SimS P ⟨scOf (stAt 21), tab__law_machine⟩ (bodyOf (stAt 21)) d__law_machine :=
    (SimS.cons (SimX.setG rfl (.inl rfl) (by decide +kernel) (SimE.bin opAdd_ok SimE.int (SimE.bin opMod_ok (SimE.call (f := 4) (H.fn 4 _ rfl) (H.nm 4 _ rfl) (by decide +kernel) (by decide +kernel) rfl (SimL.cons (fun _ => rfl) (SimE.var rfl) (SimL.cons (fun _ => rfl) (SimE.var rfl) SimL.nil))) (SimE.var rfl))))
    (SimS.cons (SimX.setG rfl (.inl rfl) (by decide +kernel) (SimE.bin opAdd_ok (SimE.var rfl) (SimE.list (SimL.cons (fun _ => rfl) (SimE.str (by decide +kernel)) (SimL.cons (fun _ => rfl) (SimE.idx (fun _ _ => rfl) (SimE.var rfl) SimE.int) (SimL.cons (fun _ => rfl) (SimE.idx (fun _ _ => rfl) (SimE.var rfl) SimE.int) SimL.nil))))))
    (SimS.cons (SimX.setG rfl (.inl rfl) (by decide +kernel) (SimE.list SimL.nil))
    (SimS.cons (SimX.setG rfl (.inl rfl) (by decide +kernel) (SimE.list SimL.nil))
    (SimS.cons (SimX.for (fun _ _ => rfl) (SimI.range (Bind.one rfl (.inl rfl)) (by decide +kernel) rfl (SimL.cons (fun _ => rfl) (SimE.var rfl) SimL.nil)) (SimS.cons (SimX.setG rfl (.inl rfl) (by decide +kernel) (SimE.call (f := 4) (H.fn 4 _ rfl) (H.nm 4 _ rfl) (by decide +kernel) (by decide +kernel) rfl (SimL.cons (fun _ => rfl) (SimE.var rfl) (SimL.cons (fun _ => rfl) (SimE.var rfl) SimL.nil))))
    (SimS.cons (SimX.expr (fun _ => rfl) (SimE.m1 .list i_append append_ok (fun _ => rfl) rfl (fun _ => rfl) (SimE.var rfl) (SimE.idx (fun _ _ => rfl) (SimE.var rfl) (SimE.bin opMod_ok (SimE.var rfl) SimE.int))))
    (SimS.cons (SimX.expr (fun _ => rfl) (SimE.m1 .list i_append append_ok (fun _ => rfl) rfl (fun _ => rfl) (SimE.var rfl) (SimE.call (f := 6) (H.fn 6 _ rfl) (H.nm 6 _ rfl) (by decide +kernel) (by decide +kernel) rfl (SimL.cons (fun _ => rfl) (SimE.var rfl) (SimL.cons (fun _ => rfl) (SimE.var rfl) (SimL.cons (fun _ => rfl) (SimE.bin opDiv_ok (SimE.var rfl) SimE.int) SimL.nil))))))
    SimS.nil))))
    (SimS.cons (SimX.setG rfl (.inl rfl) (by decide +kernel) (SimE.call (f := 4) (H.fn 4 _ rfl) (H.nm 4 _ rfl) (by decide +kernel) (by decide +kernel) rfl (SimL.cons (fun _ => rfl) (SimE.var rfl) (SimL.cons (fun _ => rfl) (SimE.var rfl) SimL.nil))))
    (SimS.cons (SimX.if (SimT.cmp cmpEq rfl (SimE.bin opMod_ok (SimE.var rfl) SimE.int) SimE.int) (SimS.cons (SimX.ret (SimE.tup (SimL.cons (fun _ => rfl) (SimE.var rfl) (SimL.cons (fun _ => rfl) (SimE.var rfl) (SimL.cons (fun _ => rfl) (SimE.call (f := 6) (H.fn 6 _ rfl) (H.nm 6 _ rfl) (by decide +kernel) (by decide +kernel) rfl (SimL.cons (fun _ => rfl) (SimE.var rfl) (SimL.cons (fun _ => rfl) (SimE.var rfl) (SimL.cons (fun _ => rfl) (SimE.bin opDiv_ok (SimE.var rfl) SimE.int) SimL.nil)))) SimL.nil)))))
    SimS.nil) SimS.nil)
    (SimS.cons (SimX.ret (SimE.tup (SimL.cons (fun _ => rfl) (SimE.var rfl) (SimL.cons (fun _ => rfl) (SimE.var rfl) (SimL.cons (fun _ => rfl) (SimE.list (SimL.cons (fun _ => rfl) (SimE.bin opMod_ok (SimE.bin opDiv_ok (SimE.var rfl) SimE.int) (SimE.var rfl)) SimL.nil)) SimL.nil)))))
    SimS.nil))))))))
theorem s__law_wrong {P : Pg} (H : Like P) : SimS P ⟨scOf (stAt 22), tab__law_wrong⟩ (bodyOf (stAt 22)) d__law_wrong :=
    (SimS.cons (SimX.setG rfl (.inl rfl) (by decide +kernel) (SimE.len (by decide +kernel) rfl (fun _ => rfl) (SimE.var rfl)))
    (SimS.cons (SimX.setG rfl (.inr rfl) (by decide +kernel) (SimE.bin opMod_ok (SimE.bin opDiv_ok (SimE.var rfl) SimE.int) (SimE.var rfl)))
    (SimS.cons (SimX.setG rfl (.inl rfl) (by decide +kernel) (SimE.idx (fun _ _ => rfl) (SimE.list (SimL.cons (fun _ => rfl) (SimE.neg SimE.int) (SimL.cons (fun _ => rfl) (SimE.var rfl) (SimL.cons (fun _ => rfl) SimE.bool (SimL.cons (fun _ => rfl) SimE.none (SimL.cons (fun _ => rfl) (SimE.str (by decide +kernel)) (SimL.cons (fun _ => rfl) (SimE.list (SimL.cons (fun _ => rfl) SimE.int SimL.nil)) (SimL.cons (fun _ => rfl) (SimE.bin opPow_ok SimE.int SimE.int) SimL.nil)))))))) (SimE.bin opMod_ok (SimE.bin opDiv_ok (SimE.var rfl) SimE.int) SimE.int)))
    (SimS.cons (SimX.setG rfl (.inl rfl) (by decide +kernel) (SimE.list (SimL.cons (fun _ => rfl) (SimE.list (SimL.cons (fun _ => rfl) (SimE.var rfl) (SimL.cons (fun _ => rfl) (SimE.var rfl) (SimL.cons (fun _ => rfl) (SimE.list SimL.nil) SimL.nil)))) (SimL.cons (fun _ => rfl) (SimE.list (SimL.cons (fun _ => rfl) (SimE.var rfl) (SimL.cons (fun _ => rfl) (SimE.var rfl) (SimL.cons (fun _ => rfl) (SimE.list (SimL.cons (fun _ => rfl) (SimE.var rfl) SimL.nil)) SimL.nil)))) (SimL.cons (fun _ => rfl) (SimE.list (SimL.cons (fun _ => rfl) (SimE.var rfl) (SimL.cons (fun _ => rfl) (SimE.var rfl) (SimL.cons (fun _ => rfl) (SimE.bin opAdd_ok (SimE.var rfl) (SimE.slc (SimE.var rfl) SimO.none (SimO.some SimE.int))) SimL.nil)))) (SimL.cons (fun _ => rfl) (SimE.list (SimL.cons (fun _ => rfl) (SimE.var rfl) (SimL.cons (fun _ => rfl) (SimE.var rfl) (SimL.cons (fun _ => rfl) (SimE.tupleOf (by decide +kernel) rfl (fun _ => rfl) (SimE.var rfl)) SimL.nil)))) SimL.nil))))))
    (SimS.cons (SimX.setG rfl (.inl rfl) (by decide +kernel) (SimE.bin opAdd_ok (SimE.var rfl) (SimE.list (SimL.cons (fun _ => rfl) (SimE.list (SimL.cons (fun _ => rfl) (SimE.var rfl) (SimL.cons (fun _ => rfl) (SimE.var rfl) (SimL.cons (fun _ => rfl) SimE.none SimL.nil)))) (SimL.cons (fun _ => rfl) (SimE.list (SimL.cons (fun _ => rfl) (SimE.list SimL.nil) (SimL.cons (fun _ => rfl) (SimE.list SimL.nil) (SimL.cons (fun _ => rfl) (SimE.list SimL.nil) SimL.nil)))) (SimL.cons (fun _ => rfl) (SimE.list (SimL.cons (fun _ => rfl) (SimE.list SimL.nil) (SimL.cons (fun _ => rfl) (SimE.list SimL.nil) (SimL.cons (fun _ => rfl) (SimE.list (SimL.cons (fun _ => rfl) SimE.int SimL.nil)) SimL.nil)))) (SimL.cons (fun _ => rfl) (SimE.list (SimL.cons (fun _ => rfl) (SimE.var rfl) (SimL.cons (fun _ => rfl) (SimE.slc (SimE.var rfl) SimO.none (SimO.some (SimE.neg SimE.int))) (SimL.cons (fun _ => rfl) (SimE.var rfl) SimL.nil)))) SimL.nil)))))))
    (SimS.cons (SimX.setG rfl (.inl rfl) (by decide +kernel) (SimE.bin opAdd_ok (SimE.var rfl) (SimE.list (SimL.cons (fun _ => rfl) (SimE.list (SimL.cons (fun _ => rfl) (SimE.var rfl) (SimL.cons (fun _ => rfl) (SimE.bin opAdd_ok (SimE.var rfl) (SimE.list (SimL.cons (fun _ => rfl) (SimE.list (SimL.cons (fun _ => rfl) SimE.int SimL.nil)) SimL.nil))) (SimL.cons (fun _ => rfl) (SimE.var rfl) SimL.nil)))) SimL.nil))))
    (SimS.cons (SimX.setG rfl (.inl rfl) (by decide +kernel) (SimE.list (SimL.cons (fun _ => rfl) (SimE.list SimL.nil) (SimL.cons (fun _ => rfl) (SimE.list (SimL.cons (fun _ => rfl) (SimE.var rfl) SimL.nil)) (SimL.cons (fun _ => rfl) (SimE.bin opAdd_ok (SimE.idx (fun _ _ => rfl) (SimE.var rfl) (SimE.var rfl)) (SimE.list (SimL.cons (fun _ => rfl) (SimE.var rfl) SimL.nil))) (SimL.cons (fun _ => rfl) (SimE.bin opAdd_ok (SimE.idx (fun _ _ => rfl) (SimE.var rfl) (SimE.var rfl)) (SimE.slc (SimE.idx (fun _ _ => rfl) (SimE.var rfl) (SimE.var rfl)) SimO.none (SimO.some SimE.int))) (SimL.cons (fun _ => rfl) (SimE.tupleOf (by decide +kernel) rfl (fun _ => rfl) (SimE.idx (fun _ _ => rfl) (SimE.var rfl) (SimE.var rfl))) (SimL.cons (fun _ => rfl) SimE.none (SimL.cons (fun _ => rfl) SimE.int (SimL.cons (fun _ => rfl) SimE.dic (SimL.cons (fun _ => rfl) (SimE.str (by decide +kernel)) SimL.nil)))))))))))
    (SimS.cons (SimX.setG rfl (.inl rfl) (by decide +kernel) (SimE.bin opAdd_ok (SimE.var rfl) (SimE.comp (CompOk.of (tab := tab__law_wrong_1) (locs := [10]) (by decide +kernel)) (SimI.seq (Bind.cone rfl (.inl rfl)) (SimE.var rfl)) SimIfs.nil (SimE.list (SimL.cons (fun _ => rfl) (SimE.var rfl) (SimL.cons (fun _ => rfl) (SimE.bin opAdd_ok (SimE.bin opAdd_ok (SimE.slc (SimE.var rfl) SimO.none (SimO.some (SimE.var rfl))) (SimE.list (SimL.cons (fun _ => rfl) (SimE.var rfl) SimL.nil))) (SimE.slc (SimE.var rfl) (SimO.some (SimE.bin opAdd_ok (SimE.var rfl) SimE.int)) SimO.none)) (SimL.cons (fun _ => rfl) (SimE.var rfl) SimL.nil)))) (cb1_keeps 10) (fun _ _ => rfl))))
    (SimS.cons (SimX.setG rfl (.inl rfl) (by decide +kernel) (SimE.list (SimL.cons (fun _ => rfl) (SimE.str (by decide +kernel)) (SimL.cons (fun _ => rfl) (SimE.str (by decide +kernel)) (SimL.cons (fun _ => rfl) SimE.int (SimL.cons (fun _ => rfl) SimE.none (SimL.cons (fun _ => rfl) (SimE.list (SimL.cons (fun _ => rfl) (SimE.str (by decide +kernel)) SimL.nil)) (SimL.cons (fun _ => rfl) (SimE.str (by decide +kernel)) (SimL.cons (fun _ => rfl) SimE.bool SimL.nil)))))))))
    (SimS.cons (SimX.setG rfl (.inl rfl) (by decide +kernel) (SimE.bin opAdd_ok (SimE.var rfl) (SimE.comp (CompOk.of (tab := tab__law_wrong_2) (locs := [11]) (by decide +kernel)) (SimI.seq (Bind.cone rfl (.inl rfl)) (SimE.var rfl)) SimIfs.nil (SimE.list (SimL.cons (fun _ => rfl) (SimE.bin opAdd_ok (SimE.bin opAdd_ok (SimE.slc (SimE.var rfl) SimO.none (SimO.some (SimE.var rfl))) (SimE.list (SimL.cons (fun _ => rfl) (SimE.var rfl) SimL.nil))) (SimE.slc (SimE.var rfl) (SimO.some (SimE.bin opAdd_ok (SimE.var rfl) SimE.int)) SimO.none)) (SimL.cons (fun _ => rfl) (SimE.var rfl) (SimL.cons (fun _ => rfl) (SimE.var rfl) SimL.nil)))) (cb1_keeps 11) (fun _ _ => rfl))))
    (SimS.cons (SimX.setG rfl (.inl rfl) (by decide +kernel) (SimE.bin opAdd_ok (SimE.var rfl) (SimE.list (SimL.cons (fun _ => rfl) (SimE.list (SimL.cons (fun _ => rfl) (SimE.tupleOf (by decide +kernel) rfl (fun _ => rfl) (SimE.var rfl)) (SimL.cons (fun _ => rfl) (SimE.var rfl) (SimL.cons (fun _ => rfl) (SimE.var rfl) SimL.nil)))) (SimL.cons (fun _ => rfl) (SimE.list (SimL.cons (fun _ => rfl) (SimE.var rfl) (SimL.cons (fun _ => rfl) (SimE.tupleOf (by decide +kernel) rfl (fun _ => rfl) (SimE.var rfl)) (SimL.cons (fun _ => rfl) (SimE.var rfl) SimL.nil)))) SimL.nil)))))
    (SimS.cons (SimX.ret (SimE.idx (fun _ _ => rfl) (SimE.bin opAdd_ok (SimE.var rfl) (SimE.list (SimL.cons (fun _ => rfl) (SimE.list (SimL.cons (fun _ => rfl) (SimE.bin opRep_ok (SimE.list (SimL.cons (fun _ => rfl) (SimE.str (by decide +kernel)) SimL.nil)) SimE.int) (SimL.cons (fun _ => rfl) (SimE.bin opRep_ok (SimE.list (SimL.cons (fun _ => rfl) (SimE.list (SimL.cons (fun _ => rfl) SimE.int SimL.nil)) SimL.nil)) SimE.int) (SimL.cons (fun _ => rfl) (SimE.list (SimL.cons (fun _ => rfl) SimE.int SimL.nil)) SimL.nil)))) SimL.nil))) (SimE.bin opMod_ok (SimE.var rfl) SimE.int)))
    SimS.nil))))))))))))
theorem s__law_refused {P : Pg} (H : Like P) : SimS P ⟨scOf (stAt 23), tab__law_refused⟩ (bodyOf (stAt 23)) d__law_refused :=
    (SimS.cons (H.tr.elim fun K h => SimX.tryIsi h.1 (H.e_WalkError).bound (H.e_BadSaying).bound (H.e_NoWalk).bound (H.e_TooMany).bound (H.e_BadMachine).bound (by decide +kernel) (by decide +kernel) (by decide) h.2 (SimS.cons (SimX.expr (fun _ => rfl) (SimE.new (f := 12) H.o_Machine (by decide) H.g_Machine (by decide +kernel) (by decide +kernel) (fun _ => rfl) rfl (SimL.cons (fun _ => rfl) (SimE.idx (fun _ _ => rfl) (SimE.var rfl) SimE.int) (SimL.cons (fun _ => rfl) (SimE.idx (fun _ _ => rfl) (SimE.var rfl) SimE.int) (SimL.cons (fun _ => rfl) (SimE.idx (fun _ _ => rfl) (SimE.var rfl) SimE.int) SimL.nil)))))
    SimS.nil))
    (SimS.cons (SimX.ret SimE.bool)
    SimS.nil))
theorem s__law_right {P : Pg} (H : Like P) : SimS P ⟨scOf (stAt 24), tab__law_right⟩ (bodyOf (stAt 24)) d__law_right :=
    (SimS.cons (SimX.setG rfl (.inl rfl) (by decide +kernel) (SimE.meth (f := 15) H.o_Machine (by decide) (H.fn 15 _ rfl) (fun _ => rfl) rfl rfl (by decide) (SimE.var rfl) SimL.nil))
    (SimS.cons (SimX.if (SimT.boolOp (SimA.or (SimT.not (SimT.val (SimE.isi .list (by decide +kernel) (by decide +kernel) rfl (fun _ => rfl) (SimE.var rfl)) (fun _ _ => rfl))) (SimA.or (SimT.cmp cmpNe rfl (SimE.var rfl) (SimE.var rfl)) (SimA.or (SimT.cmp cmpIn rfl SimE.bool (SimE.comp (CompOk.of (tab := tab__law_right_1) (locs := [7]) (by decide +kernel)) (SimI.seq (Bind.cone rfl (.inl rfl)) (SimE.var rfl)) SimIfs.nil (SimE.isi .bool (by decide +kernel) (by decide +kernel) rfl (fun _ => rfl) (SimE.var rfl)) (cb1_keeps 7) (fun _ _ => rfl))) SimA.orNil)))) (SimS.cons (SimX.ret SimE.bool)
    SimS.nil) SimS.nil)
    (SimS.cons (SimX.for (fun _ _ => rfl) (SimI.range (Bind.one rfl (.inl rfl)) (by decide +kernel) rfl (SimL.cons (fun _ => rfl) (SimE.len (by decide +kernel) rfl (fun _ => rfl) (SimE.var rfl)) SimL.nil)) (SimS.cons (SimX.setG rfl (.inl rfl) (by decide +kernel) (SimE.meth (f := 14) H.o_Machine (by decide) (H.fn 14 _ rfl) (fun _ => rfl) rfl rfl (by decide) (SimE.var rfl) (SimL.cons (fun _ => rfl) (SimE.var rfl) SimL.nil)))
    (SimS.cons (SimX.if (SimT.boolOp (SimA.or (SimT.not (SimT.val (SimE.isi .list (by decide +kernel) (by decide +kernel) rfl (fun _ => rfl) (SimE.var rfl)) (fun _ _ => rfl))) (SimA.or (SimT.cmp cmpNe rfl (SimE.var rfl) (SimE.idx (fun _ _ => rfl) (SimE.var rfl) (SimE.var rfl))) (SimA.or (SimT.not (SimT.val (SimE.isi .str (by decide +kernel) (by decide +kernel) rfl (fun _ => rfl) (SimE.meth (f := 13) H.o_Machine (by decide) (H.fn 13 _ rfl) (fun _ => rfl) rfl rfl (by decide) (SimE.var rfl) (SimL.cons (fun _ => rfl) (SimE.var rfl) SimL.nil))) (fun _ _ => rfl))) SimA.orNil)))) (SimS.cons (SimX.ret SimE.bool)
    SimS.nil) SimS.nil)
    (SimS.cons (SimX.if (SimT.boolOp (SimA.or (SimT.cmp cmpNe rfl (SimE.meth (f := 13) H.o_Machine (by decide) (H.fn 13 _ rfl) (fun _ => rfl) rfl rfl (by decide) (SimE.var rfl) (SimL.cons (fun _ => rfl) (SimE.var rfl) SimL.nil)) (SimE.idx (fun _ _ => rfl) (SimE.var rfl) (SimE.var rfl))) (SimA.or (SimT.cmp cmpIn rfl SimE.bool (SimE.comp (CompOk.of (tab := tab__law_right_2) (locs := [8]) (by decide +kernel)) (SimI.seq (Bind.cone rfl (.inl rfl)) (SimE.var rfl)) SimIfs.nil (SimE.isi .bool (by decide +kernel) (by decide +kernel) rfl (fun _ => rfl) (SimE.var rfl)) (cb1_keeps 8) (fun _ _ => rfl))) SimA.orNil))) (SimS.cons (SimX.ret SimE.bool)
    SimS.nil) SimS.nil)
    SimS.nil))))
    (SimS.cons (SimX.ret SimE.bool)
    SimS.nil))))
theorem s_law {P : Pg} (H : Like P) : SimS P ⟨scOf (stAt 25), tab_law⟩ (bodyOf (stAt 25)) d_law :=
    (SimS.cons (SimX.setG rfl (.inl rfl) (by decide +kernel) (SimE.list (SimL.cons (fun _ => rfl) SimE.int SimL.nil)))
    (SimS.cons (SimX.setG rfl (.inl rfl) (by decide +kernel) (SimE.call (f := 5) (H.fn 5 _ rfl) (H.nm 5 _ rfl) (by decide +kernel) (by decide +kernel) rfl (SimL.cons (fun _ => rfl) (SimE.call (f := 3) (H.fn 3 _ rfl) (H.nm 3 _ rfl) (by decide +kernel) (by decide +kernel) rfl (SimL.cons (fun _ => rfl) (SimE.var rfl) (SimL.cons (fun _ => rfl) SimE.int SimL.nil))) SimL.nil)))
    (SimS.cons (SimX.unp (zs := [⟨3, (Str.ofString "_law_marks"), .local, _⟩, ⟨4, (Str.ofString "_law_ways"), .local, _⟩, ⟨5, (Str.ofString "_law_begins"), .local, _⟩]) (nm_cons ⟨rfl, .inl rfl⟩ (nm_cons ⟨rfl, .inl rfl⟩ (nm_cons ⟨rfl, .inl rfl⟩ nm_nil))) (fun _ => rfl) (fun _ => rfl) (SimE.call (f := 7) (H.fn 7 _ rfl) (H.nm 7 _ rfl) (by decide +kernel) (by decide +kernel) rfl (SimL.cons (fun _ => rfl) (SimE.var rfl) (SimL.cons (fun _ => rfl) (SimE.var rfl) (SimL.cons (fun _ => rfl) (SimE.var rfl) (SimL.cons (fun _ => rfl) SimE.int SimL.nil))))))
    (SimS.cons (SimX.setG rfl (.inl rfl) (by decide +kernel) (SimE.call (f := 3) (H.fn 3 _ rfl) (H.nm 3 _ rfl) (by decide +kernel) (by decide +kernel) rfl (SimL.cons (fun _ => rfl) (SimE.var rfl) (SimL.cons (fun _ => rfl) SimE.int SimL.nil))))
    (SimS.cons (SimX.if (SimT.boolOp (SimA.and (SimT.cmp cmpEq rfl (SimE.bin opMod_ok (SimE.var rfl) SimE.int) SimE.int) (SimA.and (SimT.not (SimT.val (SimE.call (f := 9) (H.fn 9 _ rfl) (H.nm 9 _ rfl) (by decide +kernel) (by decide +kernel) rfl (SimL.cons (fun _ => rfl) (SimE.call (f := 8) (H.fn 8 _ rfl) (H.nm 8 _ rfl) (by decide +kernel) (by decide +kernel) rfl (SimL.cons (fun _ => rfl) (SimE.bin opDiv_ok (SimE.var rfl) SimE.int) (SimL.cons (fun _ => rfl) (SimE.var rfl) (SimL.cons (fun _ => rfl) (SimE.var rfl) (SimL.cons (fun _ => rfl) (SimE.var rfl) SimL.nil))))) SimL.nil)) (fun _ _ => rfl))) SimA.andNil))) (SimS.cons (SimX.ret SimE.bool)
    SimS.nil) SimS.nil)
    (SimS.cons (SimX.setG rfl (.inl rfl) (by decide +kernel) (SimE.list (SimL.cons (fun _ => rfl) (SimE.listOf (by decide +kernel) rfl (fun _ => rfl) (SimE.var rfl)) (SimL.cons (fun _ => rfl) (SimE.comp (CompOk.of (tab := tab_law_1) (locs := [13]) (by decide +kernel)) (SimI.seq (Bind.cone rfl (.inl rfl)) (SimE.var rfl)) SimIfs.nil (SimE.listOf (by decide +kernel) rfl (fun _ => rfl) (SimE.var rfl)) (cb1_keeps 13) (fun _ _ => rfl)) (SimL.cons (fun _ => rfl) (SimE.listOf (by decide +kernel) rfl (fun _ => rfl) (SimE.var rfl)) SimL.nil)))))
    (SimS.cons (SimX.setG rfl (.inr rfl) (by decide +kernel) (SimE.new (f := 12) H.o_Machine (by decide) H.g_Machine (by decide +kernel) (by decide +kernel) (fun _ => rfl) rfl (SimL.cons (fun _ => rfl) (SimE.idx (fun _ _ => rfl) (SimE.var rfl) SimE.int) (SimL.cons (fun _ => rfl) (SimE.idx (fun _ _ => rfl) (SimE.var rfl) SimE.int) (SimL.cons (fun _ => rfl) (SimE.idx (fun _ _ => rfl) (SimE.var rfl) SimE.int) SimL.nil)))))
    (SimS.cons (SimX.if (SimT.boolOp (SimA.or (SimT.cmp cmpNe rfl (SimE.var rfl) (SimE.list (SimL.cons (fun _ => rfl) (SimE.var rfl) (SimL.cons (fun _ => rfl) (SimE.var rfl) (SimL.cons (fun _ => rfl) (SimE.var rfl) SimL.nil))))) (SimA.or (SimT.not (SimT.val (SimE.call (f := 10) (H.fn 10 _ rfl) (H.nm 10 _ rfl) (by decide +kernel) (by decide +kernel) rfl (SimL.cons (fun _ => rfl) (SimE.var rfl) (SimL.cons (fun _ => rfl) (SimE.var rfl) (SimL.cons (fun _ => rfl) (SimE.var rfl) (SimL.cons (fun _ => rfl) (SimE.var rfl) SimL.nil))))) (fun _ _ => rfl))) SimA.orNil))) (SimS.cons (SimX.ret SimE.bool)
    SimS.nil) SimS.nil)
    (SimS.cons (SimX.put (fun _ => rfl) (SimE.idx (fun _ _ => rfl) (SimE.var rfl) SimE.int) SimE.int (SimE.str (by decide +kernel)))
    (SimS.cons (SimX.expr (fun _ => rfl) (SimE.m1 .list i_append append_ok (fun _ => rfl) rfl (fun _ => rfl) (SimE.idx (fun _ _ => rfl) (SimE.idx (fun _ _ => rfl) (SimE.var rfl) SimE.int) SimE.int) SimE.int))
    (SimS.cons (SimX.expr (fun _ => rfl) (SimE.m0 .list i_pop (fun _ => rfl) rfl pop_ok (SimE.idx (fun _ _ => rfl) (SimE.var rfl) SimE.int)))
    (SimS.cons (SimX.expr (fun _ => rfl) (SimE.m1 .list i_append append_ok (fun _ => rfl) rfl (fun _ => rfl) (SimE.idx (fun _ _ => rfl) (SimE.var rfl) SimE.int) SimE.int))
    (SimS.cons (SimX.setG rfl (.inl rfl) (by decide +kernel) (SimE.bin opAdd_ok (SimE.list (SimL.cons (fun _ => rfl) (SimE.meth (f := 15) H.o_Machine (by decide) (H.fn 15 _ rfl) (fun _ => rfl) rfl rfl (by decide) (SimE.var rfl) SimL.nil) SimL.nil)) (SimE.comp (CompOk.of (tab := tab_law_2) (locs := [14]) (by decide +kernel)) (SimI.range (Bind.cone rfl (.inl rfl)) (by decide +kernel) rfl (SimL.cons (fun _ => rfl) (SimE.len (by decide +kernel) rfl (fun _ => rfl) (SimE.var rfl)) SimL.nil)) SimIfs.nil (SimE.meth (f := 14) H.o_Machine (by decide) (H.fn 14 _ rfl) (fun _ => rfl) rfl rfl (by decide) (SimE.var rfl) (SimL.cons (fun _ => rfl) (SimE.var rfl) SimL.nil)) (cb1_keeps 14) (fun _ _ => rfl))))
    (SimS.cons (SimX.for (fun _ _ => rfl) (SimI.seq (Bind.one rfl (.inl rfl)) (SimE.var rfl)) (SimS.cons (SimX.expr (fun _ => rfl) (SimE.m1 .list i_append append_ok (fun _ => rfl) rfl (fun _ => rfl) (SimE.var rfl) SimE.int))
    SimS.nil))
    (SimS.cons (SimX.setComp rfl (by decide +kernel) (CompOk.of (tab := tab_law_3) (locs := [15]) (by decide +kernel)) (SimI.seq (Bind.cone rfl (.inl rfl)) (SimE.var rfl)) SimIfs.nil (SimE.listOf (by decide +kernel) rfl (fun _ => rfl) (SimE.var rfl)) (cb1_keeps 15) (fun _ _ => rfl))
    (SimS.cons (SimX.setG rfl (.inl rfl) (by decide +kernel) (SimE.new (f := 12) H.o_Machine (by decide) H.g_Machine (by decide +kernel) (by decide +kernel) (fun _ => rfl) rfl (SimL.cons (fun _ => rfl) (SimE.var rfl) (SimL.cons (fun _ => rfl) (SimE.var rfl) (SimL.cons (fun _ => rfl) (SimE.list (SimL.cons (fun _ => rfl) (SimE.bin opSub_ok (SimE.len (by decide +kernel) rfl (fun _ => rfl) (SimE.var rfl)) SimE.int) SimL.nil)) SimL.nil)))))
    (SimS.cons (SimX.if (SimT.boolOp (SimA.or (SimT.not (SimT.val (SimE.call (f := 10) (H.fn 10 _ rfl) (H.nm 10 _ rfl) (by decide +kernel) (by decide +kernel) rfl (SimL.cons (fun _ => rfl) (SimE.var rfl) (SimL.cons (fun _ => rfl) (SimE.var rfl) (SimL.cons (fun _ => rfl) (SimE.var rfl) (SimL.cons (fun _ => rfl) (SimE.var rfl) SimL.nil))))) (fun _ _ => rfl))) (SimA.or (SimT.cmp cmpNe rfl (SimE.meth (f := 15) H.o_Machine (by decide) (H.fn 15 _ rfl) (fun _ => rfl) rfl rfl (by decide) (SimE.var rfl) SimL.nil) (SimE.list (SimL.cons (fun _ => rfl) (SimE.bin opSub_ok (SimE.len (by decide +kernel) rfl (fun _ => rfl) (SimE.var rfl)) SimE.int) SimL.nil))) SimA.orNil))) (SimS.cons (SimX.ret SimE.bool)
    SimS.nil) SimS.nil)
    (SimS.cons (SimX.ret (SimE.boolOp (SimB.and (SimE.cmp cmpEq rfl (SimE.var rfl) (SimE.var rfl)) (SimB.one (SimE.call (f := 10) (H.fn 10 _ rfl) (H.nm 10 _ rfl) (by decide +kernel) (by decide +kernel) rfl (SimL.cons (fun _ => rfl) (SimE.var rfl) (SimL.cons (fun _ => rfl) (SimE.var rfl) (SimL.cons (fun _ => rfl) (SimE.var rfl) (SimL.cons (fun _ => rfl) (SimE.var rfl) SimL.nil)))))))))
    SimS.nil))))))))))))))))))
theorem s_Machine___init__ {P : Pg} (H : Like P) : SimS P ⟨scOf (meAt 14 0), tab_Machine___init__⟩ (bodyOf (meAt 14 0)) d_Machine___init__ :=
    (SimS.cons (SimX.if (SimT.boolOp (SimA.or (SimT.not (SimT.val (SimE.isi .list (by decide +kernel) (by decide +kernel) rfl (fun _ => rfl) (SimE.var rfl)) (fun _ _ => rfl))) (SimA.or (SimT.not (SimT.cmp2 cmpLe cmpLe (fun _ => rfl) SimE.int (SimE.len (by decide +kernel) rfl (fun _ => rfl) (SimE.var rfl)) (SimE.gconst (by decide +kernel) (by decide +kernel) H.c_MOST_PLACES))) SimA.orNil))) (SimS.cons (SimX.raise (c := 4) H.e_BadMachine (by decide +kernel) (by decide +kernel) rfl (SimL.cons (fun _ => rfl) (SimE.str (by decide +kernel)) SimL.nil))
    SimS.nil) SimS.nil)
    (SimS.cons (SimX.if (SimT.not (SimT.val (SimE.allOf (by decide +kernel) rfl (fun _ => rfl) (SimE.comp (CompOk.of (tab := tab_Machine___init___1) (locs := [5]) (by decide +kernel)) (SimI.seq (Bind.cone rfl (.inl rfl)) (SimE.var rfl)) SimIfs.nil (SimE.call (f := 0) (H.fn 0 _ rfl) (H.nm 0 _ rfl) (by decide +kernel) (by decide +kernel) rfl (SimL.cons (fun _ => rfl) (SimE.var rfl) SimL.nil)) (cb1_keeps 5) (fun _ _ => rfl))) (fun _ _ => rfl))) (SimS.cons (SimX.raise (c := 4) H.e_BadMachine (by decide +kernel) (by decide +kernel) rfl (SimL.cons (fun _ => rfl) (SimE.str (by decide +kernel)) SimL.nil))
    SimS.nil) SimS.nil)
    (SimS.cons (SimX.if (SimT.boolOp (SimA.or (SimT.not (SimT.val (SimE.isi .list (by decide +kernel) (by decide +kernel) rfl (fun _ => rfl) (SimE.var rfl)) (fun _ _ => rfl))) (SimA.or (SimT.cmp cmpNe rfl (SimE.len (by decide +kernel) rfl (fun _ => rfl) (SimE.var rfl)) (SimE.len (by decide +kernel) rfl (fun _ => rfl) (SimE.var rfl))) SimA.orNil))) (SimS.cons (SimX.raise (c := 4) H.e_BadMachine (by decide +kernel) (by decide +kernel) rfl (SimL.cons (fun _ => rfl) (SimE.str (by decide +kernel)) SimL.nil))
    SimS.nil) SimS.nil)
    (SimS.cons (SimX.for (fun _ _ => rfl) (SimI.seq (Bind.one rfl (.inl rfl)) (SimE.var rfl)) (SimS.cons (SimX.expr (fun _ => rfl) (SimE.call (f := 2) (H.fn 2 _ rfl) (H.nm 2 _ rfl) (by decide +kernel) (by decide +kernel) rfl (SimL.cons (fun _ => rfl) (SimE.var rfl) (SimL.cons (fun _ => rfl) (SimE.len (by decide +kernel) rfl (fun _ => rfl) (SimE.var rfl)) SimL.nil))))
    SimS.nil))
    (SimS.cons (SimX.expr (fun _ => rfl) (SimE.call (f := 2) (H.fn 2 _ rfl) (H.nm 2 _ rfl) (by decide +kernel) (by decide +kernel) rfl (SimL.cons (fun _ => rfl) (SimE.var rfl) (SimL.cons (fun _ => rfl) (SimE.len (by decide +kernel) rfl (fun _ => rfl) (SimE.var rfl)) SimL.nil))))
    (SimS.cons (SimX.setA H.o_Machine (by decide) (fun _ => rfl) (SimE.var rfl) (SimE.listOf (by decide +kernel) rfl (fun _ => rfl) (SimE.var rfl)))
    (SimS.cons (SimX.setA H.o_Machine (by decide) (fun _ => rfl) (SimE.var rfl) (SimE.comp (CompOk.of (tab := tab_Machine___init___2) (locs := [6]) (by decide +kernel)) (SimI.seq (Bind.cone rfl (.inl rfl)) (SimE.var rfl)) SimIfs.nil (SimE.listOf (by decide +kernel) rfl (fun _ => rfl) (SimE.var rfl)) (cb1_keeps 6) (fun _ _ => rfl)))
    (SimS.cons (SimX.setA H.o_Machine (by decide) (fun _ => rfl) (SimE.var rfl) (SimE.listOf (by decide +kernel) rfl (fun _ => rfl) (SimE.var rfl)))
    SimS.nil))))))))
theorem s_Machine_mark {P : Pg} (H : Like P) : SimS P ⟨scOf (meAt 14 1), tab_Machine_mark⟩ (bodyOf (meAt 14 1)) d_Machine_mark :=
    (SimS.cons (SimX.ret (SimE.idx (fun _ _ => rfl) (SimE.attr H.o_Machine (by decide) (fun _ => rfl) (fun _ _ => rfl) (SimE.var rfl)) (SimE.var rfl)))
    SimS.nil)
theorem s_Machine_leads {P : Pg} (H : Like P) : SimS P ⟨scOf (meAt 14 2), tab_Machine_leads⟩ (bodyOf (meAt 14 2)) d_Machine_leads :=
    (SimS.cons (SimX.ret (SimE.listOf (by decide +kernel) rfl (fun _ => rfl) (SimE.idx (fun _ _ => rfl) (SimE.attr H.o_Machine (by decide) (fun _ => rfl) (fun _ _ => rfl) (SimE.var rfl)) (SimE.var rfl))))
    SimS.nil)
theorem s_Machine_starts {P : Pg} (H : Like P) : SimS P ⟨scOf (meAt 14 3), tab_Machine_starts⟩ (bodyOf (meAt 14 3)) d_Machine_starts :=
    (SimS.cons (SimX.ret (SimE.listOf (by decide +kernel) rfl (fun _ => rfl) (SimE.attr H.o_Machine (by decide) (fun _ => rfl) (fun _ _ => rfl) (SimE.var rfl))))
    SimS.nil)
end
end Mine.L02
end
section
set_option autoImplicit false
set_option tactic.hygienic false
set_option backward.eqns.nonrecursive false
set_option maxRecDepth 10000
set_option linter.unusedSimpArgs false
set_option linter.unusedVariables false
namespace Mine.L02
noncomputable section
open PySem

section
variable {c : Cx} {ρ : Fr} {μ μ' : Mem} {Q : Fr → Mem → Prop} {T : V → Mem → Prop}
theorem litem0 {a : Nat} {x : V} {xs : List V} (e : μ[a]? = some (.list (x :: xs))) (h : (x :: xs).length ≤ lim) : item μ (.ref a) (.int 0) = .ok x μ := item_list (i := 0) e rfl h
theorem cb1_none {i : Nat} {v : V} (h : ρ i = none) : cb1 i v ρ = some (ρ.set i v) := by simp only [cb1, h]
theorem add_int {a b : Int} : opAdd (.int a) (.int b) μ = .ok (.int (a + b)) μ := rfl
theorem lk {k : Nat} (h : k ≤ 1000) : k ≤ lim := Nat.le_trans h (by decide)
theorem step_set {i : Nat} {d : DE} {rest : DS} (h : ok (d c ρ μ) fun v μ' => okS (rest c (ρ.set i v) μ') Q T) : okS (sSeq (sSet i d) rest c ρ μ) Q T := by rw [okS_seq, okS_set]; exact h
end
structure Dr (μ μ' : Mem) : Prop where
  spot : ∃ j : Nat, 1 ≤ j ∧ μ'[0]? = some (.list [.int (j : Int)])
  len : μ.length ≤ μ'.length
  old : ∀ i o, 1 ≤ i → μ[i]? = some o → μ'[i]? = some o
theorem Dr.trans {μ μ₁ μ₂ : Mem} (a : Dr μ μ₁) (b : Dr μ₁ μ₂) : Dr μ μ₂ := ⟨b.spot, Nat.le_trans a.len b.len, fun i o h e => b.old i o h (a.old i o h e)⟩
theorem Dr.grow {μ μ₁ μ₂ : Mem} (a : Dr μ μ₁) (b : μ₁ <+: μ₂) : Dr μ μ₂ := by
  obtain ⟨j, h1, h2⟩ := a.spot
  exact ⟨⟨j, h1, pre_get b h2⟩, Nat.le_trans a.len (pre_len b), fun i o h e => pre_get b (a.old i o h e)⟩

theorem fmod_nat {a : Int} {n : Nat} (h : 0 < n) : ∃ k : Nat, a.fmod (n : Int) = (k : Int) ∧ k < n := by
  have h1 : 0 ≤ a.fmod (n : Int) := Int.fmod_nonneg_of_pos _ (by omega)
  have h2 : a.fmod (n : Int) < (n : Int) := Int.fmod_lt_of_pos _ (by omega)
  exact ⟨(a.fmod (n : Int)).toNat, by omega, by omega⟩
theorem scr_item {μ : Mem} {ns : List Int} {k : Nat} (h : k < ns.length) (hl : ns.length ≤ 63) : ∃ z, item μ (.scr ns) (.int (k : Int)) = .ok (.int z) μ := by
  have hlim' : lim = 1000000 := rfl
  refine ⟨ns[k], ?_⟩
  simp only [item, at_nat (xs := ns.map V.int) (i := k) (v := .int ns[k]) (by simp [List.getElem?_eq_getElem h]) (by simp; omega)]
  rfl
set_option tactic.hygienic true in
theorem cell_ok {fu n k : Nat} {μ : Mem} {ns : List Int} (hl : ns.length ≤ 63) : ok (callF Φ fu (n + 1) 3 [.scr ns, .int (k : Int)] μ) fun v μ' => (∃ z, v = .int z) ∧ μ' = μ := by
  refine ok_call rfl rfl ?_
  have hc : cLt μ (.int (k : Int)) (.int (ns.length : Int)) = some (decide ((k : Int) < (ns.length : Int))) := rfl
  by_cases h : k < ns.length
  · obtain ⟨z, hz⟩ := scr_item (μ := μ) h hl
    dsimp only [d__law_cell_at]
    rw [okS_seq, okS_if]
    refine cmp_run (run_var rfl) (b := .int (ns.length : Int)) (μ' := μ) rfl hc ?_
    rw [decide_eq_true (by omega), if_pos rfl]
    have e : dIdx (dV 0) (dV 1) ⟨callF Φ fu n, fu⟩ (fun i => [V.scr ns, V.int (k : Int)][i]?) μ = .ok (.int z) μ := run_idx (v := .scr ns) (k := .int (k : Int)) (run_var rfl) (run_var rfl) hz
    refine now_ret ?_
    rw [e]
    exact ⟨⟨z, rfl⟩, rfl⟩
  · dsimp only [d__law_cell_at]
    rw [okS_seq, okS_if]
    refine cmp_run (run_var rfl) (b := .int (ns.length : Int)) (μ' := μ) rfl hc ?_
    rw [decide_eq_false (by omega), if_neg (by simp), okS_nil]
    exact now_ret ⟨⟨0, rfl⟩, rfl⟩

theorem draw_call {fu n : Nat} {μ : Mem} {a b : V} {T : V → Mem → Prop} (h : okS (d__law_draw ⟨callF Φ fu n, fu⟩ (fun i => [a, b][i]?) μ) (fun _ μ => T .none μ) T) : ok (callF Φ fu (n + 1) 4 [a, b] μ) T := ok_call rfl rfl h
theorem draw_ok {fu n : Nat} {μ : Mem} {ns : List Int} {j : Nat} (hl : ns.length ≤ 63) (hj : 1 ≤ j) (hs : μ[0]? = some (.list [.int (j : Int)])) : ok (callF Φ fu (n + 1) 4 [.scr ns, .ref 0] μ) fun v μ' => (∃ z, v = .int z) ∧ μ' = μ.set 0 (.list [.int ((j + 1 : Nat) : Int)]) := by
  have hlen : 0 < μ.length := (List.getElem?_eq_some_iff.mp hs).1
  have ej : ((j : Int) + 1) = ((j + 1 : Nat) : Int) := rfl
  have s1 : (μ.set 0 (.list [.int ((j + 1 : Nat) : Int)]))[0]? = some (.list [.int ((j + 1 : Nat) : Int)]) := by rw [List.getElem?_set_self hlen]
  have p0 : putItem μ (.ref 0) (.int 0) (.int ((j + 1 : Nat) : Int)) = some (μ.set 0 (.list [.int ((j + 1 : Nat) : Int)])) := by
    simp only [putItem, hs]; rfl
  have ek : (((j + 1 : Nat) : Int) - 1) = (j : Int) := by omega
  refine draw_call (step_put (run_bin (run_idx (run_var rfl) rfl (litem0 hs (show 1 ≤ lim by decide))) rfl rfl) (run_var rfl) rfl p0 ?_)
  generalize μ.set 0 (.list [.int ((j + 1 : Nat) : Int)]) = ν at s1 ⊢
  refine step_run (v := .int (j : Int)) (run_bin (run_idx (run_var rfl) rfl (litem0 s1 (show 1 ≤ lim by decide))) rfl (by rw [opSub_int, ek])) ?_
  refine step_if_ret (b := decide ((j : Int) < (ns.length : Int))) rfl (fun h => ?_) fun _ => step_if_ret (run_tand (a := decide ((ns.length : Int) > 4)) (b := decide ((j : Int) < 50)) rfl rfl) (fun h => ?_) fun _ => now_ret ⟨⟨0, rfl⟩, rfl⟩
  · have hjn : j < ns.length := Int.ofNat_lt.mp (of_decide_eq_true h)
    have hz0 := scr_item (μ := ν) (k := j) (ns := ns) hjn hl
    cases hz0 with
    | intro z hz =>
    rw [ok_dIdx]
    have q0 : (Fr.set (fun i => [V.scr ns, V.ref 0][i]?) 2 (V.int (j : Int))) 0 = some (V.scr ns) := rfl
    have q2 : (Fr.set (fun i => [V.scr ns, V.ref 0][i]?) 2 (V.int (j : Int))) 2 = some (V.int (j : Int)) := rfl
    rw [run_var q0, ok_ok, run_var q2, ok_ok, hz]
    exact ⟨⟨z, rfl⟩, rfl⟩
  · have hpos : 0 < ns.length := by have := of_decide_eq_true (Bool.and_eq_true_iff.mp h).1; omega
    obtain ⟨k, hk, hk'⟩ := fmod_nat (a := (j : Int)) hpos
    have hz0 := scr_item (μ := ν) (k := k) (ns := ns) hk' hl
    cases hz0 with
    | intro z hz =>
    have m0 : opMod (.int (j : Int)) (.int (ns.length : Int)) ν = .ok (.int (k : Int)) ν := by
      simp only [opMod, opInt]
      rw [if_neg (by omega)]
      exact congrArg (fun z => R.ok (V.int z) ν) hk
    have m1 : ∀ x : Int, opMul (.int x) (.int 48271) ν = .ok (.int (x * 48271)) ν := fun x => by simp only [opMul, opInt, show small 48271 = true from rfl, Bool.or_true, if_true]
    have m2 : ∀ x : Int, opMul (.int 7919) (.int x) ν = .ok (.int (7919 * x)) ν := fun x => by simp only [opMul, opInt, show small 7919 = true from rfl, Bool.true_or, if_true]
    exact ok_run (run_bin (run_bin (run_bin (run_idx (run_var (v := .scr ns) rfl) (run_bin (run_var (v := .int (j : Int)) rfl) (b := .int (ns.length : Int)) rfl m0) hz) (run_bin (a := .int 7919) rfl (run_var (v := .int (j : Int)) rfl) (m2 _)) add_int) (b := .int 48271) rfl (m1 _)) (b := .int 1000003) rfl rfl) ⟨⟨_, rfl⟩, rfl⟩
theorem draw_dr {fu n : Nat} {μ : Mem} {ns : List Int} (hl : ns.length ≤ 63) (hs : ∃ j : Nat, 1 ≤ j ∧ μ[0]? = some (.list [.int (j : Int)])) : ok (callF Φ fu (n + 1) 4 [.scr ns, .ref 0] μ) fun v μ' => (∃ z, v = .int z) ∧ Dr μ μ' := by
  obtain ⟨j, hj, hs⟩ := hs
  have hlen : 0 < μ.length := (List.getElem?_eq_some_iff.mp hs).1
  refine ok_mono (draw_ok hl hj hs) fun v μ' ⟨h1, h2⟩ => ⟨h1, ?_⟩
  subst h2
  exact ⟨⟨j + 1, by omega, by simp [List.getElem?_set, hlen]⟩, by simp, fun i o hi e => by rw [List.getElem?_set_ne (by omega)]; exact e⟩
noncomputable def abc : Str := Str.ofString "abcdefghijklmnopqrstuvwxyz"
theorem abc_len : abc.length = 26 := by decide +kernel
noncomputable def isL (c : Nat) : Bool := decide (97 ≤ c) && decide (c ≤ 122)
theorem abc_ok : abc.cps.all isL = true := by decide +kernel
theorem isL_lt {c : Nat} (h : isL c = true) : c < 128 := by simp only [isL, Bool.and_eq_true, decide_eq_true_eq] at h; omega
noncomputable def Lw (x : Str) : Prop := ∀ c ∈ x.cps.toList, isL c = true
theorem Lw.nil : Lw (Str.ofString "") := fun c h => by
  have e : (Str.ofString "").cps.toList = [] := by decide +kernel
  rw [e] at h; cases h
theorem Lw.append {a b : Str} (ha : Lw a) (hb : Lw b) : Lw (a ++ b) := fun c h => by
  have e : (a ++ b).cps.toList = a.cps.toList ++ b.cps.toList := by
    show (a.cps ++ b.cps).toList = _
    simp
  rw [e] at h
  exact (List.mem_append.mp h).elim (ha c) (hb c)
theorem Lw.cut {x : Str} {lo hi : Option Int} (h : Lw x) : Lw (cutS lo hi x) := fun c hc => by
  have : c ∈ Mine.cut lo hi x.cps.toList := by simpa [cutS] using hc
  exact h c (List.mem_of_mem_drop (List.mem_of_mem_take this))
theorem Lw.join : ∀ {ts : List Str} {sep : Str}, Lw sep → (∀ t ∈ ts, Lw t) → Lw (Str.join sep ts)
  | [], _, _, _ => by rw [Str.join]; intro c h; simp [Str.empty] at h
  | [x], _, _, h => h x List.mem_cons_self
  | x :: y :: r, sep, hs, h => by
    rw [Str.join]
    · exact Lw.append (Lw.append (h x List.mem_cons_self) hs) (Lw.join hs fun t ht => h t (List.mem_cons_of_mem _ ht))
    · exact fun q => by cases q
theorem cutS_to {x : Str} {k : Nat} : (cutS none (some (k : Int)) x).length ≤ k := by
  show (cut none (some (k : Int)) x.cps.toList).toArray.size ≤ _
  rw [cut_to]; simp; omega
theorem cutS_mid {x : Str} {a z : Nat} (h : a ≤ z) : (cutS (some (a : Int)) (some (z : Int)) x).length ≤ z - a := by
  show (cut (some (a : Int)) (some (z : Int)) x.cps.toList).toArray.size ≤ _
  simp only [cut, List.size_toArray, List.length_take, List.length_drop, Option.elim]
  by_cases h1 : a ≤ x.cps.toList.length
  · rw [clip_nat h1]
    by_cases h2 : z ≤ x.cps.toList.length
    · rw [clip_nat h2]; omega
    · rw [clip_over (by omega)]; omega
  · rw [clip_over (k := a) (by omega), clip_over (k := z) (by omega)]; omega
theorem mod26 {μ : Mem} {a : Int} : ∃ k : Nat, opMod (.int a) (.int 26) μ = .ok (.int (k : Int)) μ ∧ k < 26 := by
  obtain ⟨k, h1, h2⟩ := fmod_nat (a := a) (n := 26) (by decide)
  refine ⟨k, ?_, h2⟩
  simp only [opMod, opInt]
  rw [if_neg (by decide)]
  exact congrArg (fun z => R.ok (V.int z) μ) h1
theorem modk {μ : Mem} {a : Int} {n : Nat} (hn : 0 < n) : ∃ k : Nat, opMod (.int a) (.int (n : Int)) μ = .ok (.int (k : Int)) μ ∧ k < n := by
  obtain ⟨k, h1, h2⟩ := fmod_nat (a := a) hn
  refine ⟨k, ?_, h2⟩
  simp only [opMod, opInt]
  rw [if_neg (by omega)]
  exact congrArg (fun z => R.ok (V.int z) μ) h1
theorem div_k {μ : Mem} {a : Int} {n : Nat} (h : 0 < n) (h' : n < 1000) : opDiv (.int a) (.int (n : Int)) μ = .ok (.int (a.fdiv n)) μ := by
  simp only [opDiv, opInt]
  rw [if_neg (by omega)]
theorem mul_small {i j : Int} {μ : Mem} (h : (small i || small j) = true) : opMul (.int i) (.int j) μ = .ok (.int (i * j)) μ := if_pos h
theorem mul_k {μ : Mem} {a : Int} {n : Nat} (h : n < 1000) : opMul (.int (n : Int)) (.int a) μ = .ok (.int (n * a)) μ := by
  have : small (n : Int) = true := small_nat (by have : lim = 1000000 := rfl; omega)
  have h2 : (small (n : Int) || small a) = true := by rw [this, Bool.true_or]
  exact mul_small h2
theorem letter {μ : Mem} {k : Nat} (h : k < 26) : ∃ c, isL c = true ∧ item μ (.str abc) (.int (k : Int)) = .ok (.str ⟨#[c]⟩) μ := by
  obtain ⟨c, h1, h2⟩ := item_str (μ := μ) (x := abc) (i := k) (by rw [abc_len]; exact h) (by rw [abc_len]; decide)
  refine ⟨c, ?_, h2⟩
  have := abc_ok
  rw [Array.all_eq_true] at this
  obtain ⟨hk, e⟩ := Array.getElem?_eq_some_iff.mp h1
  have := this k hk
  rw [e] at this
  exact this

noncomputable def Mk (v : V) : Prop := ∃ x : Str, v = .str x ∧ x.length ≤ 6 ∧ Lw x
theorem join_bits : ∀ {ts : List Str}, (∀ t ∈ ts, PyData.strOk t = true ∧ t.length ≤ 1 ∧ Lw t) → ts.length ≤ 100 → JoinOk (Str.ofString "") ts = true ∧ PyData.strOk (Txt.join (Str.ofString "") ts) = true ∧ (Txt.join (Str.ofString "") ts).length ≤ ts.length ∧ Lw (Txt.join (Str.ofString "") ts) := by
  intro ts h hl
  have e0 : (Str.ofString "").length = 0 := by decide +kernel
  have hs : (ts.map (·.length)).sum ≤ ts.length := by
    clear hl
    induction ts with
    | nil => simp
    | cons t r ih =>
      have := (h t List.mem_cons_self).2.1
      have := ih fun u hu => h u (List.mem_cons_of_mem _ hu)
      simp only [List.map_cons, List.sum_cons, List.length_cons]; omega
  refine ⟨?_, ?_, ?_, ?_⟩
  · unfold JoinOk
    rw [StrLaws.joinTotal, e0, Builtin.Str.tooLong]
    have : sizeLine ≥ 1000 := by decide
    simp only [Nat.mul_zero, Nat.add_zero, Bool.not_eq_true', decide_eq_false_iff_not]
    omega
  · show PyData.strOk (Builtin.Str.glued _ ts) = true
    rw [StrLaws.glued_eq_join]
    exact strOk_join (by decide +kernel) fun t ht => (h t ht).1
  · show (Builtin.Str.glued _ ts).length ≤ _
    rw [StrLaws.glued_eq_join]
    have := StrLaws.join_length_le (Str.ofString "") ts
    rw [e0] at this
    omega
  · show Lw (Builtin.Str.glued _ ts)
    rw [StrLaws.glued_eq_join]
    exact Lw.join Lw.nil fun t ht => (h t ht).2.2
theorem strsOf_of : ∀ {xs : List V} {p : Str → Prop}, (∀ x ∈ xs, ∃ t, x = .str t ∧ p t) → ∃ ts, strsOf xs = some ts ∧ ts.length = xs.length ∧ ∀ t ∈ ts, p t
  | [], _, _ => ⟨[], rfl, rfl, fun _ h => by cases h⟩
  | x :: r, p, h => by
    obtain ⟨t, rfl, ht⟩ := h x List.mem_cons_self
    obtain ⟨ts, h1, h2, h3⟩ := strsOf_of (xs := r) (p := p) fun y hy => h y (List.mem_cons_of_mem _ hy)
    refine ⟨t :: ts, by rw [strsOf, h1]; rfl, by simp [h2], fun u hu => ?_⟩
    rcases List.mem_cons.mp hu with rfl | hu
    · exact ht
    · exact h3 u hu

noncomputable def Names (μ : Mem) (v : V) (μ' : Mem) : Prop := μ <+: μ' ∧ ∃ r xs, v = .ref r ∧ μ.length ≤ r ∧ μ'[r]? = some (.list xs) ∧ xs.length = 3 ∧ ∀ x ∈ xs, Mk x
theorem joinD {c : Cx} {ρ : Fr} {μ : Mem} {cell : Int} (h0 : ρ 0 = some (.int cell)) (h1 : ρ 1 = some (.str abc)) (h8 : ρ 8 = none) :
    ok (dM1 .str bJoin (dC (.str (Str.ofString ""))) (dComp [8] (iRange (dCons (dC (.int 6)) (dNil))) (cb1 8) (tTrue) (dIdx (dV 1) (dBin opMod (dBin opAdd (dBin opDiv (dV 0) (dC (.int 7))) (dBin opMul (dC (.int 5)) (dV 8))) (dC (.int 26))))) c ρ μ) fun v μ' => (∃ x : Str, v = .str x ∧ x.length ≤ 6 ∧ Lw x) ∧ μ <+: μ' := by
  have hlim' : lim = 1000000 := rfl
  have r6 := range1 (μ := μ) (n := 6) (by omega)
  rw [show ((6 : Nat) : Int) = (6 : Int) from rfl] at r6
  simp only [ok_dM1, ok_dC, ok_dComp, ok_iRange, ok_dCons, ok_dNil, r6, ok_ok]
  refine ⟨rfl, by simp [h8], ok_compP (fun v => ∃ t, v = .str t ∧ (PyData.strOk t = true ∧ t.length ≤ 1 ∧ Lw t)) (fun ν => ν = μ) _ [] μ rfl (by simp; omega) (fun _ h => by cases h) (fun _ _ => rfl) (fun v hv ν hν => ?_) fun xs ν hx hp hν => ?_⟩
  · obtain ⟨j, hj, rfl⟩ := List.mem_map.mp hv
    refine ⟨_, cb1_none h8, ?_⟩
    have d7 := div_k (μ := ν) (a := cell) (n := 7) (by decide) (by decide)
    have m5 := mul_k (μ := ν) (a := (j : Int)) (n := 5) (by decide)
    rw [show ((7 : Nat) : Int) = (7 : Int) from rfl] at d7
    rw [show ((5 : Nat) : Int) = (5 : Int) from rfl] at m5
    simp only [ok_dIdx, ok_dBin, ok_dV, ok_dC, set_apply, Nat.reduceEqDiff, reduceIte, if_true, h0, h1, d7, m5, ok_ok, add_int]
    have hk := mod26 (μ := ν) (a := cell.fdiv 7 + 5 * (j : Int))
    cases hk with
    | intro k hk =>
    rw [hk.1]
    simp only [ok_ok]
    have hc := letter (μ := ν) hk.2
    cases hc with
    | intro cc hc =>
    rw [hc.2]
    exact ⟨⟨_, rfl, by have := isL_lt hc.1; simp [PyData.strOk]; omega, Nat.le_refl _, fun d hd => by simp at hd; rw [hd]; exact hc.1⟩, hν⟩
  · subst hν
    simp at hx
    obtain ⟨ts, t1, t2, t3⟩ := strsOf_of hp
    obtain ⟨j1, j2, j3, j4⟩ := join_bits t3 (by omega)
    rw [ok_newL]
    refine ⟨by omega, ?_⟩
    simp only [bJoin, new_get, t1, j1, j2, Bool.true_and, decide_eq_true_eq]
    rw [if_pos (by omega)]
    exact ⟨⟨_, rfl, by omega, j4⟩, pre_new _ _⟩
theorem str_add {μ : Mem} {a b : Str} {Q : V → Mem → Prop} (h : a.length + b.length ≤ 1000) (hq : Q (.str (a ++ b)) μ) : ok (opAdd (.str a) (.str b) μ) Q := by
  have e : (a ++ b).length = a.length + b.length := by
    show (a.cps ++ b.cps).size = _
    simp [Str.length]
  simp only [opAdd, ok_newS]
  exact ⟨by rw [e]; have : lim = 1000000 := rfl; omega, hq⟩
theorem str_len {a b : Str} : (a ++ b).length = a.length + b.length := by
  show (a.cps ++ b.cps).size = _
  simp [Str.length]
structure FrN (cell : Int) (rest : Str) (z at' : Nat) (l : Nat) (ρ : Fr) : Prop where
  h0 : ρ 0 = some (.int cell)
  h1 : ρ 1 = some (.str abc)
  h2 : ρ 2 = some (.str rest)
  h3 : ρ 3 = some (.int (z : Int))
  h4 : ρ 4 = some (.int (at' : Int))
  h5 : ρ 5 = some (.ref l)
theorem FrN.set {cell : Int} {rest : Str} {z at' l : Nat} {ρ : Fr} (h : FrN cell rest z at' l ρ) {i : Nat} {v : V} (hi : 5 < i) : FrN cell rest z at' l (ρ.set i v) := by
  refine ⟨?_, ?_, ?_, ?_, ?_, ?_⟩ <;> rw [set_apply, if_neg (by omega)]
  · exact h.h0
  · exact h.h1
  · exact h.h2
  · exact h.h3
  · exact h.h4
  · exact h.h5
noncomputable def bodyN : DS := sSeq (sSet 7 (dIdx (dV 1) (dBin opMod (dBin opAdd (dBin opDiv (dV 0) (dC (V.int 90))) (dBin opMul (dC (V.int 7)) (dV 6))) (dC (V.int 26)))))
  (sSeq (sExpr (dM1 MK.list bAppend (dV 5) (dBin opAdd (dBin opAdd (dSlc (dV 2) oNone (oSome (dV 4))) (dV 7)) (dSlc (dV 2) (oSome (dV 4)) (oSome (dV 3)))))) sNil)
theorem turnN {c : Cx} {ρ : Fr} {μ : Mem} {cell : Int} {rest : Str} {z at' k : Nat} {xs : List V} {T : V → Mem → Prop} {Q : Fr → Mem → Prop} (hr : rest.length ≤ 6) (hw : Lw rest) (haz : at' ≤ z) (hz : z ≤ 5) (F : FrN cell rest z at' μ.length ρ) (hx : xs.length ≤ 3) (h : ∀ x ρ', Mk x → FrN cell rest z at' μ.length ρ' → Q ρ' (μ ++ [.list (xs ++ [x])])) :
    okS (bodyN c (ρ.set 6 (.int (k : Int))) (μ ++ [.list xs])) Q T := by
  have hlim' : lim = 1000000 := rfl
  have F1 := F.set (i := 6) (v := .int (k : Int)) (by omega)
  have e6 : (ρ.set 6 (.int (k : Int))) 6 = some (.int (k : Int)) := by rw [set_apply, if_pos rfl]
  generalize hρ : ρ.set 6 (.int (k : Int)) = ρ₁ at F1 e6
  have d90 := div_k (μ := μ ++ [.list xs]) (a := cell) (n := 90) (by decide) (by decide)
  rw [show ((90 : Nat) : Int) = (90 : Int) from rfl] at d90
  have m7 := mul_k (μ := μ ++ [.list xs]) (a := (k : Int)) (n := 7) (by decide)
  rw [show ((7 : Nat) : Int) = (7 : Int) from rfl] at m7
  have hk := mod26 (μ := μ ++ [.list xs]) (a := cell.fdiv 90 + 7 * (k : Int))
  cases hk with
  | intro q hq =>
  have hc := letter (μ := μ ++ [.list xs]) hq.2
  cases hc with
  | intro cc hc =>
  unfold bodyN
  refine step_run (run_idx (run_var F1.h1) (run_bin (run_bin (run_bin (run_var F1.h0) rfl d90) (run_bin rfl (run_var e6) m7) add_int) rfl hq.1) hc.2) ?_
  have F2 := F1.set (i := 7) (v := .str ⟨#[cc]⟩) (by decide)
  have e7 : (ρ₁.set 7 (.str ⟨#[cc]⟩)) 7 = some (.str ⟨#[cc]⟩) := rfl
  have l1 := cutS_to (k := at') (x := rest)
  have l2 := cutS_mid (x := rest) haz
  have l3 : (⟨#[cc]⟩ : Str).length = 1 := rfl
  refine step_expr ?_
  rw [ok_dM1]
  refine ok_run (run_var F2.h5) ⟨by simp [hasK], ?_⟩
  have s1 : dSlc (dV 2) oNone (oSome (dV 4)) c (ρ₁.set 7 (.str ⟨#[cc]⟩)) (μ ++ [.list xs]) = .ok (.str (cutS none (some (at' : Int)) rest)) (μ ++ [.list xs]) := by
    rw [dSlc, run_var F2.h2, R.bind_ok, oNone, R.bind_ok, oSome, run_var F2.h4]; exact if_pos (lk (by omega))
  have s2 : dSlc (dV 2) (oSome (dV 4)) (oSome (dV 3)) c (ρ₁.set 7 (.str ⟨#[cc]⟩)) (μ ++ [.list xs]) = .ok (.str (cutS (some (at' : Int)) (some (z : Int)) rest)) (μ ++ [.list xs]) := by
    have o4 : oSome (dV 4) c (ρ₁.set 7 (.str ⟨#[cc]⟩)) (μ ++ [.list xs]) = .ok (some (at' : Int)) (μ ++ [.list xs]) := by rw [oSome, run_var F2.h4]; rfl
    rw [dSlc, run_var F2.h2, R.bind_ok, o4, R.bind_ok, oSome, run_var F2.h3]; exact if_pos (lk (by omega))
  rw [ok_dBin, ok_dBin, s1, ok_ok, run_var e7, ok_ok]
  refine str_add (by omega) ?_
  rw [s2, ok_ok]
  refine str_add (by rw [str_len]; omega) ?_
  rw [append_last (lk (by omega))]
  exact h _ _ ⟨_, rfl, by rw [str_len, str_len]; omega, (hw.cut.append fun d hd => by simp at hd; rw [hd]; exact hc.1).append hw.cut⟩ F2
theorem names_ok {fu n : Nat} {μ : Mem} {cell : Int} : ok (callF Φ fu (n + 1) 5 [.int cell] μ) (Names μ) := by
  have hlim' : lim = 1000000 := rfl
  refine ok_call rfl rfl ?_
  dsimp only [d__law_names]
  refine step_run rfl (step_set (ok_mono (joinD (cell := cell) rfl rfl rfl) fun v μ₁ h => ?_))
  obtain ⟨⟨rest, rfl, hr, hw⟩, p₁⟩ := h
  have d3 := div_k (μ := μ₁) (a := cell) (n := 3) (by decide) (by decide)
  rw [show ((3 : Nat) : Int) = (3 : Int) from rfl] at d3
  have d18 := div_k (μ := μ₁) (a := cell) (n := 18) (by decide) (by decide)
  rw [show ((18 : Nat) : Int) = (18 : Int) from rfl] at d18
  have hm3 := modk (μ := μ₁) (a := cell) (n := 3) (by decide)
  cases hm3 with
  | intro m3 hm3 =>
  rw [show ((3 : Nat) : Int) = (3 : Int) from rfl] at hm3
  have hm4 := modk (μ := μ₁) (a := cell.fdiv 3) (n := 4) (by decide)
  cases hm4 with
  | intro m4 hm4 =>
  rw [show ((4 : Nat) : Int) = (4 : Int) from rfl] at hm4
  have hm6 := modk (μ := μ₁) (a := cell.fdiv 3) (n := 6) (by decide)
  cases hm6 with
  | intro m6 hm6 =>
  rw [show ((6 : Nat) : Int) = (6 : Int) from rfl] at hm6
  have hma := modk (μ := μ₁) (a := cell.fdiv 18) (n := m6 + 1) (by omega)
  cases hma with
  | intro ma hma =>
  have r3 : ∀ {c : Cx} {ρ : Fr} {ν : Mem}, iRange (dCons (dC (.int 3)) dNil) c ρ ν = .ok ⟨[.int 0, .int 1, .int 2], fun _ => true⟩ ν := fun {c ρ ν} => range1 (μ := ν) (n := 3) (by decide)
  have t0 : tCmp cEq (dBin opMod (dV 0) (dC (.int 3))) (dC (.int 2)) ⟨callF Φ fu n, fu⟩ ((Fr.set (fun i => [V.int cell][i]?) 1 (.str (Str.ofString "abcdefghijklmnopqrstuvwxyz"))).set 2 (.str rest)) μ₁ = .ok ((m3 : Int) == 2) μ₁ := by rw [tCmp, run_bin (run_var rfl) rfl hm3.1]; rfl
  rw [okS_seq, okS_if, t0, ok_ok]
  have e3 : ∀ {ρ : Fr} {x y : Int} {k : Int}, ρ 0 = some (.int cell) → opDiv (.int cell) (.int x) μ₁ = .ok (.int y) μ₁ → dBin opDiv (dV 0) (dC (.int x)) ⟨callF Φ fu n, fu⟩ ρ μ₁ = .ok (.int y) μ₁ := fun q h => run_bin (run_var q) rfl h
  split
  · refine step_run (run_bin rfl (run_bin (e3 (k := 0) rfl d3) rfl hm4.1) add_int) (now_ret ?_)
    rw [ok_dComp, r3, ok_ok]
    refine ⟨rfl, ok_compP (Mk) (fun ν => ν = μ₁) _ [] μ₁ rfl (by decide) (fun _ h => by cases h) (fun _ _ => rfl) (fun v hv ν hν => ⟨_, cb1_none rfl, ?_⟩) fun xs ν hx hp hν => ?_⟩
    · have hv' : ∃ k : Int, v = .int k := by
        simp only [List.mem_cons, List.not_mem_nil, or_false] at hv
        rcases hv with rfl | rfl | rfl
        · exact ⟨0, rfl⟩
        · exact ⟨1, rfl⟩
        · exact ⟨2, rfl⟩
      obtain ⟨k, rfl⟩ := hv'
      have l1 := cutS_len (lo := none) (hi := some (1 + (m4 : Int) + k)) (x := rest)
      refine ok_run (a := .str (cutS none (some (1 + (m4 : Int) + k)) rest)) ?_ ⟨⟨_, rfl, by omega, hw.cut⟩, hν⟩
      rw [dSlc, run_var (v := .str rest) rfl, R.bind_ok, oNone, R.bind_ok, oSome, run_bin (run_var rfl) (run_var rfl) add_int]
      exact if_pos (lk (by omega))
    · subst hν
      have hx' : xs.length = 3 := by rw [hx]; rfl
      rw [ok_newL]
      exact ⟨lk (by omega), p₁.trans (pre_new _ _), _, xs, rfl, pre_len p₁, new_get _ _, hx', hp⟩
  · rw [okS_nil]
    refine step_run (run_bin (e3 (k := 0) rfl d3) rfl hm6.1) (step_run (run_bin (e3 (k := 0) rfl d18) (run_bin (run_var rfl) rfl add_int) hma.1) (step_run (run_lst (vs := []) rfl (by decide)) ?_))
    rw [okS_seq, okS_for, r3, ok_ok]
    have F : FrN cell rest m6 ma μ₁.length (((((Fr.set (fun i => [V.int cell][i]?) 1 (V.str (Str.ofString "abcdefghijklmnopqrstuvwxyz"))).set 2 (V.str rest)).set 3 (V.int (m6 : Int))).set 4 (V.int (ma : Int))).set 5 (.ref μ₁.length)) := ⟨rfl, rfl, rfl, rfl, rfl, rfl⟩
    refine okS_for_cons rfl rfl (turnN (k := 0) hr hw (by omega) (by omega) F (by decide) fun x ρ₁ hx F₁ => okS_for_cons rfl rfl (turnN (k := 1) hr hw (by omega) (by omega) F₁ (Nat.le_succ_of_le (Nat.le_succ 1)) fun y ρ₂ hy F₂ => okS_for_cons rfl rfl (turnN (k := 2) hr hw (by omega) (by omega) F₂ (Nat.le_succ 2) fun u ρ₃ hu F₃ => okS_for_nil rfl (now_ret (ok_run (run_var F₃.h5) ?_)))))
    refine ⟨p₁.trans (pre_new _ _), _, _, rfl, pre_len p₁, new_get _ _, rfl, fun v hv => ?_⟩
    simp only [List.nil_append, List.cons_append, List.mem_cons, List.not_mem_nil, or_false] at hv
    rcases hv with rfl | rfl | rfl
    · exact hx
    · exact hy
    · exact hu
end
end Mine.L02
end
section
set_option autoImplicit false
set_option backward.eqns.nonrecursive false
set_option maxRecDepth 10000
set_option linter.unusedSimpArgs false
set_option linter.unusedVariables false
namespace Mine.L02
noncomputable section
open PySem

theorem for_rng {c : Cx} {body : DS} {i : Nat} {T : V → Mem → Prop} (I : Nat → Fr → Mem → Prop) : ∀ (n a : Nat) (ρ : Fr) (μ : Mem), I a ρ μ → (∀ k ρ μ, a ≤ k → k < a + n → I k ρ μ → okS (body c (ρ.set i (.int (k : Int))) μ) (I (k + 1)) T) →
    okS (forS (fun _ => true) (bd1 i) body c ((List.range' a n).map fun k => V.int (k : Nat)) ρ μ) (I (a + n)) T
  | 0, a, ρ, μ, h, _ => okS_for_nil rfl h
  | n + 1, a, ρ, μ, h, hb => by
    rw [List.range'_succ, List.map_cons]
    refine okS_for_cons rfl rfl (okS_mono (hb a ρ μ (Nat.le_refl _) (by omega) h) (fun ρ' μ' h' => ?_) fun _ _ h => h)
    rw [show a + (n + 1) = a + 1 + n by omega]
    exact for_rng I n (a + 1) ρ' μ' h' fun k ρ μ h1 h2 h3 => hb k ρ μ (by omega) (by omega) h3

noncomputable def nts (ps : List Nat) : List V := ps.map fun (p : Nat) => V.int (p : Int)
structure Row (n : Nat) (ps : List Nat) : Prop where
  ne : ps ≠ []
  lt : ∀ p ∈ ps, p < n
  nd : ps.Nodup
theorem nodup_le : ∀ (n : Nat) (ps : List Nat), ps.Nodup → (∀ p ∈ ps, p < n) → ps.length ≤ n
  | 0, ps, _, h => by
    cases ps with
    | nil => exact Nat.le_refl _
    | cons p r => exact absurd (h p List.mem_cons_self) (by omega)
  | n + 1, ps, nd, h => by
    have := nodup_le n (ps.erase n) (nd.erase n) fun p hp => by
      obtain ⟨h1, h2⟩ := nd.mem_erase_iff.mp hp
      have := h p h2
      omega
    rw [List.length_erase] at this
    split at this <;> omega
theorem Row.len {n : Nat} {ps : List Nat} (h : Row n ps) : ps.length ≤ n := by
  exact nodup_le n ps h.nd h.lt
theorem nts_app {ps : List Nat} {p : Nat} : nts ps ++ [.int (p : Int)] = nts (ps ++ [p]) := by simp [nts]

noncomputable def vl (f : Int) (m k : Nat) : Nat := ((f + (k : Int)) % (m : Int)).toNat
theorem vl_lt {f : Int} {m k : Nat} (hm : 0 < m) : vl f m k < m := by
  have h1 := Int.emod_lt_of_pos (f + (k : Int)) (b := (m : Int)) (by omega)
  have h2 := Int.emod_nonneg (f + (k : Int)) (b := (m : Int)) (by omega)
  unfold vl; omega
theorem vl_cast {f : Int} {m k : Nat} (hm : 0 < m) : ((vl f m k : Nat) : Int) = (f + (k : Int)) % (m : Int) := by
  have h2 := Int.emod_nonneg (f + (k : Int)) (b := (m : Int)) (by omega)
  unfold vl; omega
theorem vl_ne {f : Int} {m j k : Nat} (hm : 0 < m) (hj : j < k) (hk : k < m) : vl f m j ≠ vl f m k := fun e => by
  have e' : (f + (j : Int)) % (m : Int) = (f + (k : Int)) % (m : Int) := by rw [← vl_cast hm, ← vl_cast hm, e]
  have h0 := (Int.emod_eq_emod_iff_emod_sub_eq_zero).mp e'
  have h1 : (f + (j : Int)) - (f + (k : Int)) = -(((k - j : Nat) : Int)) := by omega
  rw [h1] at h0
  have h2 : ((k - j : Nat) : Int) % (m : Int) = 0 := by
    have := Int.dvd_of_emod_eq_zero h0
    exact Int.emod_eq_zero_of_dvd (Int.dvd_neg.mp this)
  rw [Int.emod_eq_of_lt (by omega) (by omega)] at h2
  omega
theorem mod_vl {μ : Mem} {f : Int} {m k : Nat} (hm : 0 < m) : opMod (.int (f + (k : Int))) (.int (m : Int)) μ = .ok (.int ((vl f m k : Nat) : Int)) μ := by
  simp only [opMod, opInt]
  rw [if_neg (by omega), vl_cast hm, Int.fmod_eq_emod_of_nonneg _ (by omega)]

structure SomeI (many : Nat) (first : Int) (μ : Mem) (k : Nat) (ρ : Fr) (μ' : Mem) : Prop where
  h1 : ρ 1 = some (.int (many : Int))
  h2 : ρ 2 = some (.int first)
  h3 : ∃ z, ρ 3 = some (.int z)
  h4 : ρ 4 = some (.ref μ.length)
  ps : ∃ ps : List Nat, μ' = μ ++ [.list (nts ps)] ∧ ps ≠ [] ∧ ps.Nodup ∧ ∀ p ∈ ps, ∃ j, j < k ∧ p = vl first many j
noncomputable def bodyS : DS := sSeq (sIf (tCmp cEq (dBin opMod (dV 3) (dC (.int 3))) (dC (.int 1))) (sSeq (sExpr (dM1 .list bAppend (dV 4) (dBin opMod (dBin opAdd (dV 2) (dV 5)) (dV 1))))
    (sNil)) (sNil))
    (sSeq (sSet 3 (dBin opDiv (dV 3) (dC (.int 3))))
    (sNil))
theorem some_turn {c : Cx} {many : Nat} {first : Int} {μ ν : Mem} {k : Nat} {ρ : Fr} {T : V → Mem → Prop} (hm : 0 < many) (hk : k < many) (hm' : many ≤ 12) (h : SomeI many first μ k ρ ν) : okS (bodyS c (ρ.set 5 (.int (k : Int))) ν) (SomeI many first μ (k + 1)) T := by
  obtain ⟨h1, h2, ⟨z, h3⟩, h4, ps, rfl, p1, p2, p3⟩ := h
  obtain ⟨q, hq, _⟩ := modk (μ := μ ++ [.list (nts ps)]) (a := z) (n := 3) (by decide)
  have d3 := div_k (μ := μ ++ [.list (nts ps)]) (a := z) (n := 3) (by decide) (by decide)
  rw [show ((3 : Nat) : Int) = (3 : Int) from rfl] at hq d3
  have len : ps.length ≤ many := (Row.mk (n := many) p1 (fun p hp => by obtain ⟨j, _, rfl⟩ := p3 p hp; exact vl_lt hm) p2).len
  unfold bodyS
  rw [okS_seq, okS_if, ok_tCmp]
  simp only [ok_dBin, ok_dV, ok_dC, set_apply, Nat.reduceEqDiff, reduceIte, h3, hq, ok_ok, cEq_int, ok_opt_some]
  split
  · rw [okS_seq, okS_expr, ok_dM1]
    simp only [ok_dV, set_apply, Nat.reduceEqDiff, reduceIte, h4, ok_dBin, h2, h1, add_int, ok_ok, mod_vl hm]
    refine ⟨by simp [hasK], ?_⟩
    rw [append_last (by have : lim = 1000000 := rfl; simp [nts]; omega), ok_ok, okS_nil, okS_seq, okS_set, nts_app]
    have d3' := div_k (μ := μ ++ [.list (nts (ps ++ [vl first many k]))]) (a := z) (n := 3) (by decide) (by decide)
    rw [show ((3 : Nat) : Int) = (3 : Int) from rfl] at d3'
    simp only [ok_dBin, ok_dV, ok_dC, set_apply, Nat.reduceEqDiff, reduceIte, h3, d3', ok_ok, okS_nil]
    refine ⟨by simp [set_apply, h1], by simp [set_apply, h2], ⟨_, by simp [set_apply]; rfl⟩, by simp [set_apply, h4], ps ++ [vl first many k], rfl, by simp, ?_, ?_⟩
    · rw [List.nodup_append]
      refine ⟨p2, by simp, fun a ha b hb e => ?_⟩
      obtain ⟨j, hj, rfl⟩ := p3 a ha
      rw [List.mem_singleton.mp hb] at e
      exact vl_ne hm hj hk e
    · intro p hp
      rcases List.mem_append.mp hp with hp | hp
      · obtain ⟨j, hj, rfl⟩ := p3 p hp; exact ⟨j, by omega, rfl⟩
      · exact ⟨k, by omega, List.mem_singleton.mp hp⟩
  · rw [okS_nil, okS_seq, okS_set]
    simp only [ok_dBin, ok_dV, ok_dC, set_apply, Nat.reduceEqDiff, reduceIte, h3, d3, ok_ok, okS_nil]
    refine ⟨by simp [set_apply, h1], by simp [set_apply, h2], ⟨_, by simp [set_apply]; rfl⟩, by simp [set_apply, h4], ps, rfl, p1, p2, fun p hp => ?_⟩
    obtain ⟨j, hj, rfl⟩ := p3 p hp; exact ⟨j, by omega, rfl⟩

noncomputable def NewRow (n : Nat) (μ : Mem) (v : V) (μ' : Mem) : Prop := v = .ref μ.length ∧ ∃ ps, Row n ps ∧ μ' = μ ++ [.list (nts ps)]
theorem some_ok {fu n : Nat} {μ : Mem} {cell first : Int} {many : Nat} (hm : 0 < many) (hm' : many ≤ 12) : ok (callF Φ fu (n + 1) 6 [.int cell, .int (many : Int), .int first] μ) (NewRow many μ) := by
  refine ok_call rfl rfl ?_
  dsimp only [d__law_some]
  have m1 : opMul (.int cell) (.int 48271) μ = .ok (.int (cell * 48271)) μ := mul_small (by rw [show small 48271 = true from rfl, Bool.or_true])
  refine step_run (run_bin (run_bin (run_var rfl) rfl m1) (b := .int 1000003) rfl rfl) ?_
  have m2 := mod_vl (μ := μ) (f := first) (k := 0) hm
  rw [show first + ((0 : Nat) : Int) = first by simp] at m2
  refine step_run (run_lst (vs := [.int ((vl first many 0 : Nat) : Int)]) (run_cons (run_bin (run_var rfl) (run_var rfl) m2) rfl) (by show 1 ≤ lim; decide)) ?_
  have hr : rangeArgs (μ ++ [.list [V.int ((vl first many 0 : Nat) : Int)]]) [.int 1, .int (many : Int)] = .ok ⟨(List.range' 1 (many - 1)).map fun k => V.int (k : Nat), fun _ => true⟩ (μ ++ [.list [V.int ((vl first many 0 : Nat) : Int)]]) := by
    have := range2 (μ := μ ++ [.list [V.int ((vl first many 0 : Nat) : Int)]]) (a := 1) (n := many - 1) (lk (by omega))
    rwa [show 1 + (many - 1) = many by omega] at this
  rw [okS_seq, okS_for, ok_iRange]
  simp only [ok_dCons, ok_dNil, ok_dC, ok_dV, set_apply, Nat.reduceEqDiff, reduceIte, List.getElem?_cons_succ, List.getElem?_cons_zero, hr, ok_ok]
  refine okS_mono (for_rng (i := 5) (SomeI many first μ) (many - 1) 1 _ _ ⟨rfl, rfl, ⟨_, rfl⟩, rfl, [vl first many 0], rfl, by simp, by simp, fun p hp => ⟨0, by omega, List.mem_singleton.mp hp⟩⟩ fun k ρ ν h1 h2 h3 => some_turn hm (by omega) hm' h3) (fun ρ ν h => ?_) fun _ _ h => h
  obtain ⟨_, _, _, h4, ps, rfl, p1, p2, p3⟩ := h
  refine now_ret (ok_run (run_var h4) ⟨rfl, ps, ⟨p1, fun p hp => ?_, p2⟩, rfl⟩)
  obtain ⟨j, _, rfl⟩ := p3 p hp
  exact vl_lt hm
end
end Mine.L02
end
section
set_option autoImplicit false
set_option backward.eqns.nonrecursive false
set_option maxRecDepth 10000
set_option linter.unusedSimpArgs false
set_option linter.unusedVariables false
namespace Mine.L02
noncomputable section
open PySem

theorem run_emp {c : Cx} {ρ : Fr} {μ : Mem} : dLst dNil c ρ μ = .ok (.ref μ.length) (μ ++ [.list []]) := rfl
theorem Dr.set {μ μ' : Mem} (D : Dr μ μ') {a : Nat} {o : O} (ha : μ.length ≤ a) (h1 : 1 ≤ a) : Dr μ (μ'.set a o) := by
  obtain ⟨j, hj, hs⟩ := D.spot
  refine ⟨⟨j, hj, by rw [List.getElem?_set_ne (by omega)]; exact hs⟩, by simp; exact D.len, fun i o' hi e => ?_⟩
  have := (List.getElem?_eq_some_iff.mp e).1
  rw [List.getElem?_set_ne (by omega)]; exact D.old i o' hi e
theorem app_set {μ : Mem} {a : Nat} {xs : List V} {v : V} (h : μ[a]? = some (.list xs)) (hl : xs.length < lim) : bAppend μ (.ref a) v = .ok .none (μ.set a (.list (xs ++ [v]))) := by
  simp only [bAppend, h, hl, if_true]
theorem set_at {μ : Mem} {a : Nat} {o o' : O} (h : μ[a]? = some o) : (μ.set a o')[a]? = some o' := by
  rw [List.getElem?_set_self (List.getElem?_eq_some_iff.mp h).1]
theorem set_other {μ : Mem} {a b : Nat} {o : O} (h : b ≠ a) : (μ.set a o)[b]? = μ[b]? := List.getElem?_set_ne (Ne.symm h)

inductive Rows (μ : Mem) (m : Nat) : List Nat → List (List Nat) → Prop
  | nil : Rows μ m [] []
  | cons {r rs ps pss} : 1 ≤ r → μ[r]? = some (.list (nts ps)) → Row m ps → Rows μ m rs pss → Rows μ m (r :: rs) (ps :: pss)
theorem Rows.mono {μ μ' : Mem} {m : Nat} {rs : List Nat} {pss : List (List Nat)} (h : Rows μ m rs pss) (k : ∀ r ∈ rs, 1 ≤ r → ∀ o, μ[r]? = some o → μ'[r]? = some o) : Rows μ' m rs pss := by
  induction h with
  | nil => exact .nil
  | cons h1 h2 h3 h4 ih => exact .cons h1 (k _ List.mem_cons_self h1 _ h2) h3 (ih fun r hr => k r (List.mem_cons_of_mem _ hr))
theorem Rows.app {μ : Mem} {m : Nat} {rs : List Nat} {pss : List (List Nat)} {r : Nat} {ps : List Nat} (h : Rows μ m rs pss) (h1 : 1 ≤ r) (h2 : μ[r]? = some (.list (nts ps))) (h3 : Row m ps) : Rows μ m (rs ++ [r]) (pss ++ [ps]) := by
  induction h with
  | nil => exact .cons h1 h2 h3 .nil
  | cons g1 g2 g3 g4 ih => exact .cons g1 g2 g3 ih
theorem Rows.len {μ : Mem} {m : Nat} {rs : List Nat} {pss : List (List Nat)} (h : Rows μ m rs pss) : rs.length = pss.length := by
  induction h with
  | nil => rfl
  | cons _ _ _ _ ih => simp [ih]
theorem Rows.get {μ : Mem} {m : Nat} {rs : List Nat} {pss : List (List Nat)} (h : Rows μ m rs pss) {i : Nat} {ps : List Nat} (e : pss[i]? = some ps) : ∃ r, rs[i]? = some r ∧ 1 ≤ r ∧ μ[r]? = some (.list (nts ps)) ∧ Row m ps := by
  induction h generalizing i with
  | nil => cases e
  | @cons r rs ps' pss h1 h2 h3 h4 ih =>
    cases i with
    | zero => simp at e; subst e; exact ⟨r, rfl, h1, h2, h3⟩
    | succ i => simp at e; simpa using ih e
noncomputable def refs (rs : List Nat) : List V := rs.map V.ref
theorem refs_app {rs : List Nat} {r : Nat} : refs rs ++ [.ref r] = refs (rs ++ [r]) := by simp [refs]

structure Mach (μ : Mem) (m a b d : Nat) (mk : List V) (rs : List Nat) (pss : List (List Nat)) (bs : List Nat) : Prop where
  m0 : 0 < m
  m12 : m ≤ 12
  a1 : 1 ≤ a
  b1 : 1 ≤ b
  d1 : 1 ≤ d
  ga : μ[a]? = some (.list mk)
  gb : μ[b]? = some (.list (refs rs))
  gd : μ[d]? = some (.list (nts bs))
  la : mk.length = m
  lb : pss.length = m
  mks : ∀ x ∈ mk, Mk x
  rows : Rows μ m rs pss
  rd : Row m bs
structure MacI (ns : List Int) (μ : Mem) (m a x : Nat) (sx : List V) (k : Nat) (ρ : Fr) (ν : Mem) : Prop where
  h0 : ρ 0 = some (.scr ns)
  h1 : ρ 1 = some (.ref 0)
  h4 : ρ 4 = some (.int (m : Int))
  h5 : ρ 5 = some (.ref x)
  h6 : ρ 6 = some (.ref a)
  h7 : ρ 7 = some (.ref (a + 1))
  D : Dr μ ν
  x1 : 1 ≤ x
  xa : x < a
  gx : ν[x]? = some (.list sx)
  e : ∃ mk rs pss, ν[a]? = some (.list mk) ∧ ν[a + 1]? = some (.list (refs rs)) ∧ mk.length = k ∧ pss.length = k ∧ (∀ y ∈ mk, Mk y) ∧ Rows ν m rs pss ∧ ∀ r ∈ rs, a + 1 < r
noncomputable def bodyM : DS := (sSeq (sSet 9 (dCall 4 (dCons (dV 0) (dCons (dV 1) (dNil)))))
    (sSeq (sExpr (dM1 .list bAppend (dV 6) (dIdx (dV 5) (dBin opMod (dV 9) (dC (.int 6))))))
    (sSeq (sExpr (dM1 .list bAppend (dV 7) (dCall 6 (dCons (dV 9) (dCons (dV 4) (dCons (dBin opDiv (dV 9) (dC (.int 6))) (dNil)))))))
    (sNil))))
theorem mac_turn {fu n : Nat} {ns : List Int} {μ ν : Mem} {m a x k : Nat} {sx : List V} {ρ : Fr} {T : V → Mem → Prop} (hl : ns.length ≤ 63) (hm : 0 < m) (hm' : m ≤ 12) (hk : k < m) (ha : μ.length ≤ a) (hx : sx.length = 6) (hmk : ∀ y ∈ sx, Mk y) (h : MacI ns μ m a x sx k ρ ν) :
    okS (bodyM ⟨callF Φ fu (n + 1), fu⟩ (ρ.set 8 (.int (k : Int))) ν) (MacI ns μ m a x sx (k + 1)) T := by
  have hlim' : lim = 1000000 := rfl
  obtain ⟨h0, h1, h4, h5, h6, h7, D, x1, xa, gx, mk, rs, pss, ga, gb, lk1, lk2, hmks, hrows, hr⟩ := h
  unfold bodyM
  refine step_call (draw_dr (n := n) hl D.spot) (run_cons (run_var (by simp [set_apply, h0])) (run_cons (run_var (by simp [set_apply, h1])) rfl)) fun v ν₁ hv => ?_
  obtain ⟨⟨z, rfl⟩, D1⟩ := hv
  have gx1 := D1.old _ _ x1 gx
  have ga1 := D1.old a _ (by omega) ga
  have gb1 := D1.old (a + 1) _ (by omega) gb
  have rows1 := hrows.mono (μ' := ν₁) fun r _ q o e => D1.old r o q e
  have DD := D.trans D1
  obtain ⟨q, hq, hq6⟩ := modk (μ := ν₁) (a := z) (n := 6) (by decide)
  have d6 := fun ν => div_k (μ := ν) (a := z) (n := 6) (by decide) (by decide)
  rw [show ((6 : Nat) : Int) = (6 : Int) from rfl] at hq
  obtain ⟨y, hy⟩ : ∃ y, sx[q]? = some y := ⟨sx[q]'(by omega), List.getElem?_eq_getElem (by omega)⟩
  have hy' := hmk y (List.mem_of_getElem? hy)
  refine step_expr ?_
  refine ok_run (run_m1 (run_var (v := .ref a) (by simp [set_apply, h6])) (by simp [hasK, ga1]) (run_idx (run_var (v := .ref x) (by simp [set_apply, h5])) (run_bin (run_var (v := .int z) (by simp [set_apply])) rfl hq) (item_list gx1 hy (by omega))) (app_set ga1 (by omega))) ?_
  refine step_expr ?_
  have ga2 : (ν₁.set a (.list (mk ++ [y])))[a]? = some (.list (mk ++ [y])) := set_at ga1
  have gb2 : (ν₁.set a (.list (mk ++ [y])))[a + 1]? = some (.list (refs rs)) := by rw [set_other (by omega)]; exact gb1
  have gx2 : (ν₁.set a (.list (mk ++ [y])))[x]? = some (.list sx) := by rw [set_other (by omega)]; exact gx1
  have D2 : Dr μ (ν₁.set a (.list (mk ++ [y]))) := DD.set ha (by omega)
  have rows2 := rows1.mono (μ' := ν₁.set a (.list (mk ++ [y]))) fun r hr' _ o e => by rw [set_other (by have := hr r hr'; omega)]; exact e
  generalize ν₁.set a (.list (mk ++ [y])) = ν₂ at ga2 gb2 gx2 D2 rows2 ⊢
  rw [ok_dM1]
  refine ok_run (run_var (v := .ref (a + 1)) (by simp [set_apply, h7])) ⟨by simp [hasK, gb2], ?_⟩
  have d6' := d6 ν₂
  rw [show ((6 : Nat) : Int) = (6 : Int) from rfl] at d6'
  refine ok_mono (at_call (some_ok (n := n) (cell := z) (first := z.fdiv 6) hm hm') (run_cons (run_var (by simp [set_apply])) (run_cons (run_var (by simp [set_apply, h4])) (run_cons (run_bin (run_var (by simp [set_apply])) rfl d6') rfl)))) fun v ν₃ hv => ?_
  obtain ⟨rfl, ps, hps, rfl⟩ := hv
  have len2 : a + 1 < ν₂.length := (List.getElem?_eq_some_iff.mp gb2).1
  have pn := pre_new ν₂ (O.list (nts ps))
  have gb3 : (ν₂ ++ [O.list (nts ps)])[a + 1]? = some (.list (refs rs)) := pre_get pn gb2
  have gr3 : (ν₂ ++ [O.list (nts ps)])[ν₂.length]? = some (.list (nts ps)) := new_get _ _
  have lrs : (refs rs).length < lim := by simp [refs]; have := hrows.len; omega
  rw [app_set gb3 lrs, ok_ok, okS_nil, refs_app]
  have D3 : Dr μ ((ν₂ ++ [O.list (nts ps)]).set (a + 1) (.list (refs (rs ++ [ν₂.length])))) := (D2.grow pn).set (by omega) (by omega)
  refine ⟨by simp [set_apply, h0], by simp [set_apply, h1], by simp [set_apply, h4], by simp [set_apply, h5], by simp [set_apply, h6], by simp [set_apply, h7], D3, x1, xa, by rw [set_other (by omega)]; exact pre_get pn gx2, mk ++ [y], rs ++ [ν₂.length], pss ++ [ps], by rw [set_other (by omega)]; exact pre_get pn ga2, set_at gb3, by simp [lk1], by simp [lk2], ?_, ?_, ?_⟩
  · intro u hu
    rcases List.mem_append.mp hu with hu | hu
    · exact hmks u hu
    · rw [List.mem_singleton.mp hu]; exact hy'
  · refine ((rows2.mono fun r _ _ o e => pre_get pn e).app (by omega) gr3 hps).mono fun r hr' _ o e => ?_
    rw [set_other ?_]
    · exact e
    · rcases List.mem_append.mp hr' with q | q
      · have := hr r q; omega
      · rw [List.mem_singleton.mp q]; omega
  · intro r hr'
    rcases List.mem_append.mp hr' with q | q
    · exact hr r q
    · rw [List.mem_singleton.mp q]; omega

noncomputable def MachOut (μ : Mem) (most : Nat) (v : V) (μ' : Mem) : Prop := Dr μ μ' ∧ ∃ m a b d mk rs pss bs, v = .tup [.ref a, .ref b, .ref d] ∧ m ≤ most ∧ Mach μ' m a b d mk rs pss bs
theorem machine_ok {fu n : Nat} {ns : List Int} {μ : Mem} {nm most : Nat} {xs : List V} (hl : ns.length ≤ 63) (hs : ∃ j : Nat, 1 ≤ j ∧ μ[0]? = some (.list [.int (j : Int)])) (h1 : 1 ≤ nm) (hn : μ[nm]? = some (.list xs)) (hx : xs.length = 3) (hmk : ∀ y ∈ xs, Mk y) (hmost : 0 < most) (hmost' : most ≤ 12) :
    ok (callF Φ fu (n + 2) 7 [.scr ns, .ref 0, .ref nm, .int (most : Int)] μ) (MachOut μ most) := by
  have hlim' : lim = 1000000 := rfl
  refine ok_call rfl rfl ?_
  dsimp only [d__law_machine]
  refine step_set ?_
  rw [ok_dBin, ok_dC, ok_dBin]
  refine ok_mono (at_call (draw_dr (n := n) hl hs) rfl) fun v μ₁ hv => ?_
  obtain ⟨⟨z, rfl⟩, D1⟩ := hv
  obtain ⟨q, hq, hq6⟩ := modk (μ := μ₁) (a := z) (n := most) hmost
  rw [run_var (v := .int (most : Int)) rfl, ok_ok, hq, ok_ok, add_int, ok_ok]
  have hn1 := D1.old _ _ h1 hn
  rw [show (1 : Int) + (q : Int) = ((q + 1 : Nat) : Int) by omega]
  generalize hm : q + 1 = m
  have hm0 : 0 < m := by omega
  have hm12 : m ≤ most := by omega
  obtain ⟨x0, x1, x2, rfl⟩ : ∃ a b c, xs = [a, b, c] := by
    match xs, hx with
    | [a, b, c], _ => exact ⟨a, b, c, rfl⟩
  have i0 : item μ₁ (.ref nm) (.int 0) = .ok x0 μ₁ := item_list (i := 0) hn1 rfl (by show 3 ≤ lim; decide)
  have i1 : item μ₁ (.ref nm) (.int 1) = .ok x1 μ₁ := item_list (i := 1) hn1 rfl (by show 3 ≤ lim; decide)
  have g2 := pre_get (pre_new μ₁ (.list [.str (Str.ofString ""), x0, x1])) hn1
  refine step_run (run_add (run_var rfl) (run_lst (vs := [.str (Str.ofString ""), x0, x1]) (run_cons rfl (run_cons (run_idx (run_var rfl) rfl i0) (run_cons (run_idx (run_var rfl) rfl i1) rfl))) (by show 3 ≤ lim; decide)) g2 (new_get _ _) (by show 6 ≤ lim; decide)) ?_
  rw [okS_seq, okS_set, run_emp, ok_ok, okS_seq, okS_set, run_emp, ok_ok]
  have e1 : (μ₁ ++ [O.list [V.str (Str.ofString ""), x0, x1]]).length = μ₁.length + 1 := by simp
  have e2 : (μ₁ ++ [O.list [V.str (Str.ofString ""), x0, x1]] ++ [O.list ([x0, x1, x2] ++ [V.str (Str.ofString ""), x0, x1])]).length = μ₁.length + 2 := by simp
  have e3 : (μ₁ ++ [O.list [V.str (Str.ofString ""), x0, x1]] ++ [O.list ([x0, x1, x2] ++ [V.str (Str.ofString ""), x0, x1])] ++ [O.list []]).length = μ₁.length + 3 := by simp
  rw [e1, e2, e3]
  have p4 : μ₁ <+: μ₁ ++ [O.list [V.str (Str.ofString ""), x0, x1]] ++ [O.list ([x0, x1, x2] ++ [V.str (Str.ofString ""), x0, x1])] ++ [O.list []] ++ [O.list []] := by
    simp only [List.append_assoc]; exact List.prefix_append _ _
  have gX : (μ₁ ++ [O.list [V.str (Str.ofString ""), x0, x1]] ++ [O.list ([x0, x1, x2] ++ [V.str (Str.ofString ""), x0, x1])] ++ [O.list []] ++ [O.list []])[μ₁.length + 1]? = some (.list [x0, x1, x2, V.str (Str.ofString ""), x0, x1]) := by
    simp only [List.append_assoc]
    rw [List.getElem?_append_right (by omega)]; simp
  have gA : (μ₁ ++ [O.list [V.str (Str.ofString ""), x0, x1]] ++ [O.list ([x0, x1, x2] ++ [V.str (Str.ofString ""), x0, x1])] ++ [O.list []] ++ [O.list []])[μ₁.length + 2]? = some (.list []) := by
    simp only [List.append_assoc]
    rw [List.getElem?_append_right (by omega)]; simp
  have gB : (μ₁ ++ [O.list [V.str (Str.ofString ""), x0, x1]] ++ [O.list ([x0, x1, x2] ++ [V.str (Str.ofString ""), x0, x1])] ++ [O.list []] ++ [O.list []])[μ₁.length + 3]? = some (.list (refs [])) := by
    simp only [List.append_assoc]
    rw [List.getElem?_append_right (by omega)]; simp [refs]
  generalize μ₁ ++ [O.list [V.str (Str.ofString ""), x0, x1]] ++ [O.list ([x0, x1, x2] ++ [V.str (Str.ofString ""), x0, x1])] ++ [O.list []] ++ [O.list []] = μ₂ at p4 gX gA gB ⊢
  have hsx : ∀ y ∈ [x0, x1, x2, V.str (Str.ofString ""), x0, x1], Mk y := fun y hy => by
    have h0 := hmk x0 (by simp)
    have h1 := hmk x1 (by simp)
    have h2 := hmk x2 (by simp)
    have hE : Mk (.str (Str.ofString "")) := ⟨_, rfl, by decide +kernel, Lw.nil⟩
    simp only [List.mem_cons, List.not_mem_nil, or_false] at hy
    rcases hy with rfl | rfl | rfl | rfl | rfl | rfl <;> assumption
  have hr : rangeArgs μ₂ [.int (m : Int)] = .ok ⟨(List.range' 0 m).map fun k => V.int (k : Nat), fun _ => true⟩ μ₂ := range1 (lk (by omega))
  rw [okS_seq, okS_for, ok_iRange]
  simp only [ok_dCons, ok_dNil, ok_dV, set_apply, Nat.reduceEqDiff, reduceIte, List.getElem?_cons_succ, List.getElem?_cons_zero, hr, ok_ok]
  have D2 : Dr μ μ₂ := D1.grow p4
  have hl1 : μ.length ≤ μ₁.length := D1.len
  have hpos : 1 ≤ μ₁.length := by have := (List.getElem?_eq_some_iff.mp hn1).1; omega
  refine okS_mono (for_rng (i := 8) (MacI ns μ m (μ₁.length + 2) (μ₁.length + 1) [x0, x1, x2, V.str (Str.ofString ""), x0, x1]) m 0 _ _ ⟨rfl, rfl, rfl, rfl, rfl, rfl, D2, by omega, by omega, gX, [], [], [], gA, gB, rfl, rfl, (fun _ h => by cases h), Rows.nil, (fun _ h => by cases h)⟩ fun k ρ ν _ h2 h3 => mac_turn (n := n) hl hm0 (by omega) (by omega) (by omega) rfl hsx h3) (fun ρ ν h => ?_) fun _ _ h => h
  rw [Nat.zero_add] at h
  obtain ⟨h0, h1', h4, h5, h6, h7, D, _, _, _, mk, rs, pss, ga, gb, lk1, lk2, hmks, hrows, hrr⟩ := h
  refine step_call (draw_dr (n := n) hl D.spot) (run_cons (run_var h0) (run_cons (run_var h1') rfl)) fun v ν₁ hv => ?_
  obtain ⟨⟨z', rfl⟩, D3⟩ := hv
  have ga3 := D3.old _ _ (by omega) ga
  have gb3 := D3.old _ _ (by omega) gb
  have rows3 := hrows.mono (μ' := ν₁) fun r _ q o e => D3.old r o q e
  have DD := D.trans D3
  have hpos3 : 1 ≤ ν₁.length := by have := (List.getElem?_eq_some_iff.mp gb3).1; omega
  obtain ⟨w, hw, _⟩ := modk (μ := ν₁) (a := z') (n := 4) (by decide)
  have d4 := div_k (μ := ν₁) (a := z') (n := 4) (by decide) (by decide)
  rw [show ((4 : Nat) : Int) = (4 : Int) from rfl] at hw d4
  have fin : ∀ ps, Row m ps → MachOut μ most (.tup [.ref (μ₁.length + 2), .ref (μ₁.length + 3), .ref ν₁.length]) (ν₁ ++ [.list (nts ps)]) := fun ps hps => by
    have pn := pre_new ν₁ (O.list (nts ps))
    exact ⟨DD.grow pn, m, _, _, _, mk, rs, pss, ps, rfl, hm12, ⟨hm0, by omega, by omega, by omega, hpos3, pre_get pn ga3, pre_get pn gb3, new_get _ _, lk1, lk2, hmks, rows3.mono fun r _ _ o e => pre_get pn e, hps⟩⟩
  rw [okS_seq, okS_if]
  have t0 : ∀ c, tCmp cEq (dBin opMod (dV 9) (dC (.int 4))) (dC (.int 3)) c (ρ.set 9 (.int z')) ν₁ = .ok ((w : Int) == 3) ν₁ := fun c => by rw [tCmp, run_bin (run_var rfl) rfl hw]; rfl
  rw [t0, ok_ok]
  split
  · refine now_ret ?_
    rw [ok_dTup]
    simp only [ok_dCons, ok_dV, set_apply, Nat.reduceEqDiff, reduceIte, h6, h7]
    refine ok_mono (at_call (some_ok (n := n) (cell := z') (first := z'.fdiv 4) hm0 (by omega)) (run_cons (run_var (by simp [set_apply])) (run_cons (run_var (by simp [set_apply, h4])) (run_cons (run_bin (run_var (by simp [set_apply])) rfl d4) rfl)))) fun v ν₂ hv => ?_
    obtain ⟨rfl, ps, hps, rfl⟩ := hv
    rw [ok_dNil, ok_newT]
    exact ⟨by show 3 ≤ lim; decide, fin ps hps⟩
  · rw [okS_nil]
    refine now_ret ?_
    have mv := mod_vl (μ := ν₁) (f := z'.fdiv 4) (k := 0) hm0
    rw [show z'.fdiv 4 + ((0 : Nat) : Int) = z'.fdiv 4 by simp] at mv
    refine ok_run (run_tup (run_cons (run_var (v := .ref (μ₁.length + 2)) (by simp [set_apply, h6])) (run_cons (run_var (v := .ref (μ₁.length + 3)) (by simp [set_apply, h7])) (run_cons (run_lst (vs := nts [vl (z'.fdiv 4) m 0]) (run_cons (run_bin (run_bin (run_var (by simp [set_apply])) rfl d4) (run_var (by simp [set_apply, h4])) mv) rfl) (by show 1 ≤ lim; decide)) rfl))) (by show 3 ≤ lim; decide)) ?_
    exact fin _ ⟨by simp, fun p hp => by rw [List.mem_singleton.mp hp]; exact vl_lt hm0, by simp⟩
end
end Mine.L02
end
section
set_option autoImplicit false
set_option backward.eqns.nonrecursive false
set_option maxRecDepth 10000
set_option linter.unusedSimpArgs false
set_option linter.unusedVariables false
namespace Mine.L02
noncomputable section
open PySem

theorem in_abc_all : ∀ k, k < 26 → Txt.contains abc ⟨#[97 + k]⟩ = true := by decide +kernel
theorem in_abc {c : Nat} (h : isL c = true) : Txt.contains abc ⟨#[c]⟩ = true := by
  simp only [isL, Bool.and_eq_true, decide_eq_true_eq] at h
  have := in_abc_all (c - 97) (by omega)
  rwa [show 97 + (c - 97) = c by omega] at this
theorem truths_true {μ : Mem} : ∀ {xs : List V}, (∀ x ∈ xs, x = .bool true) → ∃ bs, truths μ xs = some bs ∧ bs.all id = true
  | [], _ => ⟨[], rfl, rfl⟩
  | x :: r, h => by
    obtain ⟨bs, h1, h2⟩ := truths_true (μ := μ) (xs := r) fun y hy => h y (List.mem_cons_of_mem _ hy)
    have hx := h x List.mem_cons_self
    subst hx
    exact ⟨true :: bs, by simp only [truths, truth, h1], by simp [h2]⟩
theorem all_true {μ : Mem} {a : Nat} {xs : List V} (h : μ[a]? = some (.list xs)) (hx : ∀ x ∈ xs, x = .bool true) : bAll μ (.ref a) = .ok (.bool true) μ := by
  obtain ⟨bs, h1, h2⟩ := truths_true (μ := μ) hx
  simp only [bAll, h, h1, R.opt, R.bind, h2]

theorem is_mark_ok {fu n : Nat} {μ : Mem} {v : V} (hv : Mk v) : ok (callF Φ fu (n + 1) 0 [v] μ) fun u μ' => u = .bool true ∧ μ <+: μ' := by
  have hlim' : lim = 1000000 := rfl
  obtain ⟨x, rfl, hl, hw⟩ := hv
  refine ok_call rfl rfl ?_
  dsimp only [d_is_mark]
  have t0 : ∀ c ρ, ρ 0 = some (V.str x) → (tOr (tNot (tE (dB1 (bIsi .str) (dV 0)))) (tOr (tCmp cGt (dB1 bLen (dV 0)) (dC (.int 6))) (tFalse))) c ρ μ = .ok false μ := fun c ρ h => by
    simp only [tOr, tNot, tE, dB1, dV, h, R.opt, R.bind, bIsi, isT, truth, Bool.not_true, Bool.false_eq_true, if_false, tCmp, bLen, dC, cGt, cInt, tFalse]
    have : ¬ ((x.length : Int) > 6) := by omega
    simp [this]
  rw [okS_seq, okS_if, t0 _ _ rfl, ok_ok, if_neg (by simp), okS_nil]
  refine now_ret ?_
  rw [ok_dB1, ok_dComp]
  have ha : x.cps.all (· < 128) = true := by
    rw [Array.all_eq_true_iff_forall_mem]
    intro c hc
    have := isL_lt (hw c (by simpa using hc))
    simpa using this
  have hi : iStr (dV 0) ⟨callF Φ fu n, fu⟩ (fun i => [V.str x][i]?) μ = .ok ⟨chrs x, fun _ => true⟩ μ := by
    simp only [iStr, dV, List.getElem?_cons_zero, R.opt, R.bind, ha, if_true]
  rw [hi, ok_ok]
  refine ⟨rfl, ok_compP (fun v => v = .bool true) (fun ν => ν = μ) _ [] μ rfl (by simp [chrs]; have : x.cps.size = x.length := rfl; omega) (fun _ h => by cases h) (fun _ _ => rfl) (fun v hv ν hν => ?_) fun xs ν hx hp hν => ?_⟩
  · unfold chrs at hv
    obtain ⟨c, hc, rfl⟩ := List.mem_map.mp hv
    refine ⟨_, cb1_none rfl, ?_⟩
    subst hν
    rw [ok_dCmp, run_var (v := .str ⟨#[c]⟩) (by simp [set_apply]), ok_ok, ok_dC]
    have : cInS ν (.str ⟨#[c]⟩) (.str (Str.ofString "abcdefghijklmnopqrstuvwxyz")) = some true := by
      show some (Txt.contains abc ⟨#[c]⟩) = some true
      rw [in_abc (hw c hc)]
    rw [this, ok_opt_some]
    exact ⟨rfl, rfl⟩
  · subst hν
    rw [ok_newL]
    refine ⟨by rw [hx]; simp [chrs]; have : x.cps.size = x.length := rfl; omega, ?_⟩
    rw [all_true (new_get _ _) hp]
    exact ⟨rfl, pre_new _ _⟩

noncomputable def goodV (m : Nat) : V → Bool
  | .int i => decide (0 ≤ i) && decide (i < (m : Int))
  | _ => false
noncomputable def Thing (μ : Mem) (v : V) : Prop := ∀ a, v = .ref a → ∃ xs, μ[a]? = some (.list xs)
theorem isT_ref {μ : Mem} {a : Nat} {xs : List V} {T : BT} (h : μ[a]? = some (.list xs)) : isT T μ (.ref a) = some (match T with | .list => true | _ => false) := by simp only [isT, h] <;> (cases T <;> rfl)
theorem is_place_run {c : Cx} {ρ : Fr} {μ : Mem} {v : V} {m : Nat} (h0 : ρ 0 = some v) (h1 : ρ 1 = some (.int (m : Int))) (hv : Thing μ v) :
    dAnd (dB1 (bIsi .int) (dV 0)) (dAnd (dNot (dB1 (bIsi .bool) (dV 0))) (dCmp2 cLe cLt (dC (.int 0)) (dV 0) (dV 1))) c ρ μ = .ok (.bool (goodV m v)) μ := by
  cases v with
  | int i =>
    simp only [dAnd, dB1, dV, h0, h1, R.opt, R.bind, bIsi, isT, truth, if_true, dNot, Bool.not_false, dCmp2, dC, cLe, cLt, cInt, goodV]
    by_cases hi : (0 : Int) ≤ i
    · simp [hi]
    · simp [hi]
  | bool b => simp only [dAnd, dB1, dV, h0, R.opt, R.bind, bIsi, isT, truth, if_true, dNot, Bool.not_true, Bool.false_eq_true, if_false, goodV]
  | ref a =>
    obtain ⟨xs, hx⟩ := hv a rfl
    simp only [dAnd, dB1, dV, h0, R.opt, R.bind, bIsi, isT_ref hx, truth, Bool.false_eq_true, if_false, goodV]
  | none => simp only [dAnd, dB1, dV, h0, R.opt, R.bind, bIsi, isT, truth, Bool.false_eq_true, if_false, goodV]
  | str => simp only [dAnd, dB1, dV, h0, R.opt, R.bind, bIsi, isT, truth, Bool.false_eq_true, if_false, goodV]
  | tup => simp only [dAnd, dB1, dV, h0, R.opt, R.bind, bIsi, isT, truth, Bool.false_eq_true, if_false, goodV]
  | scr => simp only [dAnd, dB1, dV, h0, R.opt, R.bind, bIsi, isT, truth, Bool.false_eq_true, if_false, goodV]
theorem callF_ret {fu n f : Nat} {F : Fn} {args : List V} {μ μ' : Mem} {d : DE} {v : V} (hf : Φ f = some F) (ha : args.length = F.np) (hb : F.body = sSeq (sRet d) sNil) (h : d ⟨callF Φ fu n, fu⟩ (fun i => args[i]?) μ = .ok v μ') : callF Φ fu (n + 1) f args μ = .ok v μ' := by
  simp only [callF, hf, ha, if_true, hb, sSeq, sRet, h, R.thenS]
theorem is_place_eq {fu n : Nat} {μ : Mem} {v : V} {m : Nat} (hv : Thing μ v) : callF Φ fu (n + 1) 1 [v, .int (m : Int)] μ = .ok (.bool (goodV m v)) μ :=
  callF_ret (F := ⟨2, d_is_place⟩) rfl rfl rfl (is_place_run rfl rfl hv)

theorem good_nat {m p : Nat} : goodV m (.int (p : Int)) = decide (p < m) := by
  simp only [goodV]
  by_cases h : p < m
  · simp [h]
  · simp [h]
theorem thing_int {μ : Mem} {i : Int} : Thing μ (.int i) := fun a e => by cases e
theorem toD_nts {μ : Mem} {n : Nat} : ∀ ps : List Nat, allD (toD n μ) (nts ps) = some (ps.map fun (p : Nat) => PyData.int (p : Int))
  | [] => rfl
  | p :: r => by
    have : toD n μ (.int (p : Int)) = some (.int (p : Int)) := by cases n <;> rfl
    simp only [nts, List.map_cons, allD, this]
    have ih := toD_nts (μ := μ) (n := n) r
    simp only [nts] at ih
    rw [ih]; rfl
theorem eqv_int {a b : Int} : PyData.eqv (.int a) (.int b) = (a == b) := rfl
theorem any_nts {ps : List Nat} {p : Nat} : ((ps.map fun (p : Nat) => PyData.int (p : Int)).any fun y => PyData.eqv y (.int (p : Int))) = ps.contains p := by
  rw [List.any_map, List.contains_eq_any_beq]
  congr 1; funext q
  show ((q : Int) == (p : Int)) = (p == q)
  rw [Bool.eq_iff_iff, beq_iff_eq, beq_iff_eq]; omega
theorem toD_int {μ : Mem} {n : Nat} {i : Int} : toD n μ (.int i) = some (.int i) := by cases n <;> rfl
theorem in_nts {μ : Mem} {a p : Nat} {ps : List Nat} (h : μ[a]? = some (.list (nts ps))) : cIn μ (.int (p : Int)) (.ref a) = some (ps.contains p) := by
  simp only [cIn, h, toD_int, toD_nts, any_nts]
noncomputable def bodyP : DS := (sSeq (sIf (tOr (tNot (tE (dCall 1 (dCons (dV 3) (dCons (dV 1) (dNil)))))) (tOr (tCmp cIn (dV 3) (dSlc (dV 0) (oNone) (oSome (dV 2)))) (tFalse))) (sSeq (sRaise 4 (dCons (dC (.str (Str.ofString "no place, or one twice"))) (dNil)))
    (sNil)) (sNil))
    (sNil))
structure PlI (μ : Mem) (r m : Nat) (ρ : Fr) (ν : Mem) : Prop where
  h0 : ρ 0 = some (.ref r)
  h1 : ρ 1 = some (.int (m : Int))
  p : μ <+: ν
theorem nts_cut {ps : List Nat} {k : Nat} : (nts ps).take k = nts (ps.take k) := by simp [nts]
theorem place_turn {fu n : Nat} {μ ν : Mem} {r m k p : Nat} {ps : List Nat} {ρ : Fr} {T : V → Mem → Prop} (hr : μ[r]? = some (.list (nts ps))) (hl : ps.length ≤ 1000) (hp : p < m) (hn : p ∉ ps.take k) (h : PlI μ r m ρ ν) :
    okS (bodyP ⟨callF Φ fu (n + 1), fu⟩ ((ρ.set 2 (.int (k : Int))).set 3 (.int (p : Int))) ν) (PlI μ r m) T := by
  obtain ⟨h0, h1, hpre⟩ := h
  have hr' := pre_get hpre hr
  unfold bodyP
  have hc : dCall 1 (dCons (dV 3) (dCons (dV 1) (dNil))) ⟨callF Φ fu (n + 1), fu⟩ ((ρ.set 2 (.int (k : Int))).set 3 (.int (p : Int))) ν = .ok (.bool true) ν := by
    rw [dCall, run_cons (run_var (v := .int (p : Int)) (by simp [set_apply])) (run_cons (run_var (v := .int (m : Int)) (by simp [set_apply, h1])) rfl), R.bind_ok]
    show callF Φ fu (n + 1) 1 [.int (p : Int), .int (m : Int)] ν = _
    rw [is_place_eq thing_int, good_nat, decide_eq_true hp]
  have hs : dSlc (dV 0) oNone (oSome (dV 2)) ⟨callF Φ fu (n + 1), fu⟩ ((ρ.set 2 (.int (k : Int))).set 3 (.int (p : Int))) ν = .ok (.ref ν.length) (ν ++ [.list (nts (ps.take k))]) := by
    refine run_slc (run_var (by simp [set_apply, h0])) rfl (by rw [oSome, run_var (v := .int (k : Int)) (by simp [set_apply])]; rfl) hr' (cut_to.trans nts_cut) (lk (by simp [nts]; omega))
  rw [okS_seq, okS_if]
  refine or_no (not_run hc rfl ⟨rfl, or_no (cmp_run (run_var (v := .int (p : Int)) (by simp [set_apply])) hs (in_nts (new_get _ _)) ⟨by simpa using hn, ?_⟩)⟩)
  rw [ok_tFalse, if_neg (by simp), okS_nil, okS_nil]
  exact ⟨by simp [set_apply, h0], by simp [set_apply, h1], hpre.trans (pre_new _ _)⟩
theorem places_loop {fu n : Nat} {μ : Mem} {r m : Nat} {ps : List Nat} {T : V → Mem → Prop} (hr : μ[r]? = some (.list (nts ps))) (hR : Row m ps) (hl : ps.length ≤ 1000) : ∀ (rest : List Nat) (k : Nat) (ρ : Fr) (ν : Mem), ps.drop k = rest → PlI μ r m ρ ν →
    okS (forS (fun μ => decide (μ[r]? = some (.list (nts ps)))) (bd2 2 3) bodyP ⟨callF Φ fu (n + 1), fu⟩ (enumL k (nts rest)) ρ ν) (PlI μ r m) T
  | [], k, ρ, ν, _, h => okS_for_nil (by simp [pre_get h.p hr]) h
  | p :: rest, k, ρ, ν, hd, h => by
    have hk : ps[k]? = some p := by
      have := congrArg List.head? hd
      rw [List.head?_drop] at this; simpa using this
    obtain ⟨hk1, hk2⟩ := List.getElem?_eq_some_iff.mp hk
    have hd' : ps.drop (k + 1) = rest := by
      have := congrArg List.tail hd
      rw [List.tail_drop] at this; simpa using this
    refine okS_for_cons (by simp [pre_get h.p hr]) rfl (okS_mono (place_turn hr hl (hR.lt p (List.mem_of_getElem? hk)) (fun q => ?_) h) (fun ρ' ν' h' => places_loop hr hR hl rest (k + 1) ρ' ν' hd' h') fun _ _ h => h)
    obtain ⟨i, hi, e⟩ := List.getElem_of_mem q
    simp only [List.length_take] at hi
    rw [List.getElem_take] at e
    have := nodup_inj hR.nd (i := i) (j := k) (by omega) hk1 (e.trans hk2.symm)
    omega
theorem need_places_ok {fu n : Nat} {μ : Mem} {r m : Nat} {ps : List Nat} (hr : μ[r]? = some (.list (nts ps))) (hR : Row m ps) (hl : ps.length ≤ 1000) : ok (callF Φ fu (n + 2) 2 [.ref r, .int (m : Int)] μ) fun v μ' => v = .none ∧ μ <+: μ' := by
  refine ok_call rfl rfl ?_
  dsimp only [d_need_places]
  have hne : ps.length ≠ 0 := fun q => hR.ne (List.length_eq_zero_iff.mp q)
  have hl0 : (nts ps).length = ps.length := by simp [nts]
  have t0 : (tOr (tNot (tE (dB1 (bIsi .list) (dV 0)))) (tOr (tCmp cEq (dB1 bLen (dV 0)) (dC (.int 0))) (tFalse))) ⟨callF Φ fu (n + 1), fu⟩ (fun i => [V.ref r, V.int (m : Int)][i]?) μ = .ok false μ := by
    simp only [tOr, tNot, tE, dB1, dV, List.getElem?_cons_zero, R.opt, R.bind, bIsi, isT_ref hr, truth, Bool.not_true, Bool.false_eq_true, if_false, tCmp, len_list hr, dC, cEq_int, tFalse, hl0]
    have : ((ps.length : Int) == 0) = false := by rw [beq_eq_false_iff_ne]; omega
    simp [this]
  rw [okS_seq, okS_if, t0, ok_ok, if_neg (by simp), okS_nil, okS_seq, okS_for]
  have hi : iEnum (dV 0) ⟨callF Φ fu (n + 1), fu⟩ (fun i => [V.ref r, V.int (m : Int)][i]?) μ = .ok ⟨enumL 0 (nts ps), fun μ => decide (μ[r]? = some (.list (nts ps)))⟩ μ := by
    simp only [iEnum, dV, List.getElem?_cons_zero, R.opt, R.bind, hr]
  rw [hi, ok_ok]
  exact okS_mono (places_loop (n := n) hr hR hl ps 0 _ _ rfl ⟨rfl, rfl, List.prefix_refl _⟩) (fun ρ ν h => ⟨rfl, h.p⟩) fun _ _ h => h
end
end Mine.L02
end
section
set_option autoImplicit false
set_option backward.eqns.nonrecursive false
set_option maxRecDepth 10000
set_option linter.unusedSimpArgs false
set_option linter.unusedVariables false
namespace Mine.L02
noncomputable section
open PySem

structure Kp (d : Nat) (μ ν : Mem) : Prop where
  len : μ.length ≤ ν.length
  old : ∀ i o, i ≠ d → μ[i]? = some o → ν[i]? = some o
theorem Kp.of {d : Nat} {μ ν : Mem} (h : μ <+: ν) : Kp d μ ν := ⟨pre_len h, fun i o _ e => pre_get h e⟩
theorem Kp.trans {d : Nat} {μ ν κ : Mem} (a : Kp d μ ν) (b : Kp d ν κ) : Kp d μ κ := ⟨Nat.le_trans a.len b.len, fun i o h e => b.old i o h (a.old i o h e)⟩
theorem Kp.set {d : Nat} {μ : Mem} {o : O} : Kp d μ (μ.set d o) := ⟨by simp, fun i o' h e => by rw [set_other h]; exact e⟩

theorem copy_rows {c : Cx} {ρ : Fr} {m b j lo : Nat} {rs0 : List Nat} {μ0 : Mem} (h6 : ρ j = none) (hb : μ0[b]? = some (.list (refs rs0))) : ∀ (rs : List Nat) (pss : List (List Nat)) (acc : List Nat) (accs : List (List Nat)) (ν : Mem), μ0 <+: ν → 1 ≤ ν.length → m ≤ 100 → Rows ν m rs pss → Rows ν m acc accs → acc.length + rs.length ≤ 1000 → (∀ r ∈ acc, lo ≤ r) → lo ≤ ν.length →
    ok (compS (fun μ => decide (μ[b]? = some (.list (refs rs0)))) (cb1 j) tTrue (dB1 bList (dV j)) c ρ (refs rs) ν (refs acc)) fun xs ν' => ∃ rs', xs = refs rs' ∧ Rows ν' m rs' (accs ++ pss) ∧ ν <+: ν' ∧ ∀ r ∈ rs', lo ≤ r
  | [], pss, acc, accs, ν, hp, h1, h12, hr, ha, hl, hA, _ => by
    cases hr
    exact ok_comp_nil (by simp [pre_get hp hb]) ⟨acc, rfl, by rw [List.append_nil]; exact ha, List.prefix_refl _, hA⟩
  | r :: rs, pss, acc, accs, ν, hp, h1, h12, hr, ha, hl, hA, hν => by
    cases hr with
    | @cons _ _ ps pss g1 g2 g3 g4 =>
      simp only [List.length_cons] at hl
      have hlen : (nts ps).length ≤ lim := lk (by have := g3.len; simp [nts]; omega)
      have pn := pre_new ν (O.list (nts ps))
      have e : dB1 bList (dV j) c (ρ.set j (.ref r)) ν = .ok (.ref ν.length) (ν ++ [.list (nts ps)]) := by
        rw [dB1, run_var (v := .ref r) (by simp [set_apply]), R.bind_ok]
        simp only [bList, g2, run_newL hlen]
      refine ok_comp_cons (by simp [pre_get hp hb]) (cb1_none h6) (ok_run e ⟨by have : lim = 1000000 := rfl; simp [refs]; omega, ?_⟩)
      rw [refs_app]
      refine ok_mono (copy_rows h6 hb rs pss (acc ++ [ν.length]) (accs ++ [ps]) (ν ++ [.list (nts ps)]) (hp.trans pn) (by simp) h12 (g4.mono fun r _ _ o e => pre_get pn e) ((ha.mono fun r _ _ o e => pre_get pn e).app h1 (new_get _ _) g3) (by simp; omega) (fun r hr => ?_) (Nat.le_trans hν (pre_len pn))) fun xs ν' h => ?_
      · rcases List.mem_append.mp hr with q | q
        · exact hA r q
        · rw [List.mem_singleton.mp q]; exact hν
      obtain ⟨rs', e1, e2, e3, e4⟩ := h
      exact ⟨rs', e1, by rw [List.append_assoc] at e2; exact e2, pn.trans e3, e4⟩

theorem put_names {μ : Mem} {s dx : Nat} {fs : List (Str × V)} {name : Str} {v : V} (h1 : μ[s]? = some (.inst 0 dx)) (h2 : μ[dx]? = some (.ns fs)) (hl : fs.length < 1000) : putA 0 name μ v (.ref s) = some (μ.set dx (.ns ((name, v) :: fs))) := by
  simp only [putA, h1, h2, hl, if_true]
theorem okS_setA {c : Cx} {ρ : Fr} {μ μ₁ μ₂ : Mem} {k : Nat} {name : Str} {o e : DE} {v : V} {rest : DS} {Q : Fr → Mem → Prop} {T : V → Mem → Prop} (s : V) (h1 : e c ρ μ = .ok v μ₁) (h2 : o c ρ μ₁ = .ok s μ₁) (h3 : putA k name μ₁ v s = some μ₂) (h : okS (rest c ρ μ₂) Q T) : okS (sSeq (sSetA k name o e) rest c ρ μ) Q T := by
  have e : sSetA k name o e c ρ μ = .next ρ μ₂ := by simp only [sSetA, h1, R.thenS, h2, h3]
  rw [okS_seq, e]; exact h

structure ObjM (lo : Nat) (μ : Mem) (s m : Nat) (mk : List V) (pss : List (List Nat)) (bs : List Nat) : Prop where
  m0 : 0 < m
  m12 : m ≤ 12
  la : mk.length = m
  lb : pss.length = m
  mks : ∀ x ∈ mk, Mk x
  rd : Row m bs
  e : ∃ dx f q nl rs, (lo ≤ s ∧ lo ≤ dx ∧ lo ≤ f ∧ lo ≤ q ∧ lo ≤ nl ∧ ∀ r ∈ rs, lo ≤ r) ∧ μ[s]? = some (.inst 0 dx) ∧ μ[dx]? = some (.ns [(Str.ofString "firsts", .ref f), (Str.ofString "roads", .ref q), (Str.ofString "names", .ref nl)]) ∧ μ[f]? = some (.list (nts bs)) ∧ μ[q]? = some (.list (refs rs)) ∧ Rows μ m rs pss ∧ μ[nl]? = some (.list mk)
theorem ObjM.mono {lo : Nat} {μ μ' : Mem} {s m : Nat} {mk : List V} {pss : List (List Nat)} {bs : List Nat} (h : ObjM lo μ s m mk pss bs) (k : ∀ i, lo ≤ i → ∀ o, μ[i]? = some o → μ'[i]? = some o) : ObjM lo μ' s m mk pss bs := by
  obtain ⟨dx, f, q, nl, rs, ⟨h1, h2, h3, h4, h5, h6⟩, g1, g2, g3, g4, g5, g6⟩ := h.e
  exact ⟨h.m0, h.m12, h.la, h.lb, h.mks, h.rd, dx, f, q, nl, rs, ⟨h1, h2, h3, h4, h5, h6⟩, k _ h1 _ g1, k _ h2 _ g2, k _ h3 _ g3, k _ h4 _ g4, g5.mono fun r q _ o e => k r (h6 r q) o e, k _ h5 _ g6⟩

structure InI (μ : Mem) (s a b d m : Nat) (ρ : Fr) (ν : Mem) : Prop where
  h0 : ρ 0 = some (.ref s)
  h1 : ρ 1 = some (.ref a)
  h2 : ρ 2 = some (.ref b)
  h3 : ρ 3 = some (.ref d)
  h5 : ρ 5 = none
  h6 : ρ 6 = none
  p : μ <+: ν
theorem rows_loop {fu n : Nat} {μ : Mem} {s a b d m : Nat} {mk : List V} {rs0 : List Nat} {T : V → Mem → Prop} (hb : μ[b]? = some (.list (refs rs0))) (ha : μ[a]? = some (.list mk)) (hm : mk.length = m) (h12 : m ≤ 12) : ∀ (rs : List Nat) (pss : List (List Nat)) (ρ : Fr) (ν : Mem), Rows μ m rs pss → InI μ s a b d m ρ ν →
    okS (forS (fun μ => decide (μ[b]? = some (.list (refs rs0)))) (bd1 4) (sSeq (sExpr (dCall 2 (dCons (dV 4) (dCons (dB1 bLen (dV 1)) (dNil))))) (sNil)) ⟨callF Φ fu (n + 2), fu⟩ (refs rs) ρ ν) (InI μ s a b d m) T
  | [], _, ρ, ν, _, h => okS_for_nil (by simp [pre_get h.p hb]) h
  | r :: rs, pss, ρ, ν, hr, h => by
    cases hr with
    | @cons _ _ ps pss g1 g2 g3 g4 =>
      obtain ⟨h0, h1, h2, h3, h5, h6, p⟩ := id h
      refine okS_for_cons (by simp [pre_get h.p hb]) rfl ?_
      rw [okS_seq, okS_expr]
      refine ok_mono (at_call (need_places_ok (n := n) (m := m) (pre_get p g2) g3 (by have := g3.len; omega)) (run_cons (run_var (by simp [set_apply])) (run_cons (by rw [← hm]; exact run_len (run_var (by simp [set_apply, h1])) (pre_get p ha)) rfl))) fun v ν' hv => ?_
      rw [okS_nil]
      exact rows_loop hb ha hm h12 rs pss _ ν' g4 ⟨by simp [set_apply, h0], by simp [set_apply, h1], by simp [set_apply, h2], by simp [set_apply, h3], by simp [set_apply, h5], by simp [set_apply, h6], p.trans hv.2⟩

theorem bList_ref {μ : Mem} {a : Nat} {xs : List V} (h : μ[a]? = some (.list xs)) (hl : xs.length ≤ lim) : bList μ (.ref a) = .ok (.ref μ.length) (μ ++ [.list xs]) := by
  simp only [bList, h, run_newL hl]
theorem lst_call {c : Cx} {ρ : Fr} {μ : Mem} {i a : Nat} {xs : List V} (hi : ρ i = some (.ref a)) (h : μ[a]? = some (.list xs)) (hl : xs.length ≤ lim) : dB1 bList (dV i) c ρ μ = .ok (.ref μ.length) (μ ++ [.list xs]) := by
  rw [dB1, run_var hi, R.bind_ok, bList_ref h hl]

theorem init_ok {fu n lo : Nat} {μ : Mem} {s dx a b d m : Nat} {mk : List V} {rs : List Nat} {pss : List (List Nat)} {bs : List Nat} (M : Mach μ m a b d mk rs pss bs) (hs : lo ≤ s) (hdx : lo ≤ dx) (hlo : lo ≤ μ.length) (g1 : μ[s]? = some (.inst 0 dx)) (g2 : μ[dx]? = some (.ns [])) :
    ok (callF Φ fu (n + 3) 12 [.ref s, .ref a, .ref b, .ref d] μ) fun v μ' => v = .none ∧ Kp dx μ μ' ∧ ObjM lo μ' s m mk pss bs := by
  have hlim' : lim = 1000000 := rfl
  obtain ⟨m0, m12, a1, b1, d1, ga, gb, gd, la, lb, mks, rows, rd⟩ := id M
  have lrs : (refs rs).length = m := by simp [refs]; rw [rows.len, lb]
  refine ok_call rfl rfl ?_
  dsimp only [d_Machine___init__]
  have t1 : (tOr (tNot (tE (dB1 (bIsi .list) (dV 1)))) (tOr (tNot (tCmp2 cLe cLe (dC (.int 1)) (dB1 bLen (dV 1)) (dC (.int 12)))) (tFalse))) ⟨callF Φ fu (n + 2), fu⟩ (fun i => [V.ref s, V.ref a, V.ref b, V.ref d][i]?) μ = .ok false μ := by
    simp only [tOr, tNot, tE, dB1, dV, List.getElem?_cons_zero, List.getElem?_cons_succ, R.opt, R.bind, bIsi, isT_ref ga, truth, Bool.not_true, Bool.false_eq_true, if_false, tCmp2, len_list ga, dC, cLe, cInt, tFalse, la]
    have e1 : (1 : Int) ≤ (m : Int) := by omega
    have e2 : (m : Int) ≤ 12 := by omega
    simp [e1, e2]
  rw [okS_seq, okS_if, t1, ok_ok, if_neg (by simp), okS_nil, okS_seq, okS_if, ok_tNot, ok_tE, ok_dB1, ok_dComp, ok_iSeq, run_var (v := .ref a) rfl, ok_ok]
  simp only [ga]
  refine ⟨rfl, ok_compP (fun v => v = .bool true) (fun ν => μ <+: ν) _ [] μ (List.prefix_refl _) (by simp; omega) (fun _ h => by cases h) (fun ν h => by simp [pre_get h ga]) (fun v hv ν hν => ?_) fun xs ν hx hp hν => ?_⟩
  · refine ⟨_, cb1_none rfl, ok_mono (at_call (is_mark_ok (n := n + 1) (mks v hv)) (run_cons (run_var (by simp [set_apply])) rfl)) fun u ν' h => ⟨h.1, hν.trans h.2⟩⟩
  rw [ok_newL]
  simp only [List.length_nil, Nat.zero_add] at hx
  refine ⟨by omega, ?_⟩
  rw [all_true (new_get _ _) hp, ok_ok, truth, ok_opt_some, if_neg (by simp), okS_nil]
  have p1 := hν.trans (pre_new ν (O.list xs))
  generalize ν ++ [O.list xs] = ν₁ at p1
  have ga1 := pre_get p1 ga
  have gb1 := pre_get p1 gb
  have t2 : (tOr (tNot (tE (dB1 (bIsi .list) (dV 2)))) (tOr (tCmp cNe (dB1 bLen (dV 2)) (dB1 bLen (dV 1))) (tFalse))) ⟨callF Φ fu (n + 2), fu⟩ (fun i => [V.ref s, V.ref a, V.ref b, V.ref d][i]?) ν₁ = .ok false ν₁ := by
    have e : cNe ν₁ (.int (m : Int)) (.int (m : Int)) = some false := by
      show some (!((m : Int) == (m : Int))) = some false
      simp
    simp only [tOr, tNot, tE, dB1, dV, List.getElem?_cons_zero, List.getElem?_cons_succ, R.opt, R.bind, bIsi, isT_ref gb1, truth, Bool.not_true, Bool.false_eq_true, if_false, tCmp, len_list ga1, len_list gb1, la, lrs, e, tFalse]
  rw [okS_seq, okS_if, t2, ok_ok, if_neg (by simp), okS_nil, okS_seq, okS_for, ok_iSeq, run_var (v := .ref b) rfl, ok_ok]
  simp only [gb1]
  refine okS_mono (rows_loop (s := s) (d := d) (n := n) gb1 ga1 la m12 rs pss _ _ (rows.mono fun r _ _ o e => pre_get p1 e) ⟨rfl, rfl, rfl, rfl, rfl, rfl, List.prefix_refl _⟩) (fun ρ ν₂ h => ?_) fun _ _ h => h
  obtain ⟨h0, h1, h2, h3, h5, h6, p2⟩ := h
  have p02 := p1.trans p2
  refine step_expr ?_
  refine ok_mono (at_call (need_places_ok (n := n) (m := m) (pre_get p02 gd) rd (by have := rd.len; omega)) (run_cons (run_var h3) (run_cons (by rw [← la]; exact run_len (run_var h1) (pre_get p02 ga)) rfl))) fun v ν₃ hv => ?_
  have p03 := p02.trans hv.2
  -- names
  have n1 := pre_new ν₃ (O.list mk)
  have s4 := pre_get (p03.trans n1) g1
  have x4 := pre_get (p03.trans n1) g2
  refine okS_setA (.ref s) (lst_call h1 (pre_get p03 ga) (by omega)) (run_var h0) (put_names s4 x4 (by show 0 < 1000; decide)) ?_
  have k4 : Kp dx μ (ν₃ ++ [O.list mk]) := .of (p03.trans n1)
  have hdl : dx < ν₃.length := (List.getElem?_eq_some_iff.mp (pre_get p03 g2)).1
  have nl4 : ((ν₃ ++ [O.list mk]).set dx (.ns [(Str.ofString "names", .ref ν₃.length)]))[ν₃.length]? = some (.list mk) := by rw [set_other (by omega)]; exact new_get _ _
  have x5 : ((ν₃ ++ [O.list mk]).set dx (.ns [(Str.ofString "names", .ref ν₃.length)]))[dx]? = some (.ns [(Str.ofString "names", .ref ν₃.length)]) := set_at x4
  have k5 := k4.trans (Kp.set (μ := ν₃ ++ [O.list mk]) (o := .ns [(Str.ofString "names", .ref ν₃.length)]))
  have pos3 : 1 ≤ ν₃.length := by omega
  generalize (ν₃ ++ [O.list mk]).set dx (.ns [(Str.ofString "names", .ref ν₃.length)]) = ν₅ at nl4 x5 k5 ⊢
  -- everything of the machine is there still
  have nd : ∀ i o, μ[i]? = some (.list o) → i ≠ dx := fun i o e q => by rw [q, g2] at e; cases e
  have gb5 := k5.old b _ (nd b _ gb) gb
  have gd5 := k5.old d _ (nd d _ gd) gd
  have s5 := k5.old s _ (fun q => by rw [q, g2] at g1; cases g1) g1
  have rows5 : Rows ν₅ m rs pss := by
    have : ∀ {rs : List Nat} {pss : List (List Nat)}, Rows μ m rs pss → Rows ν₅ m rs pss := fun h => by
      induction h with
      | nil => exact .nil
      | cons q1 q2 q3 _ ih => exact .cons q1 (k5.old _ _ (nd _ _ q2) q2) q3 ih
    exact this rows
  have pos5 : 1 ≤ ν₅.length := by have := (List.getElem?_eq_some_iff.mp x5).1; omega
  -- roads
  have cr : ok (dComp [6] (iSeq (dV 2)) (cb1 6) (tTrue) (dB1 bList (dV 6)) ⟨callF Φ fu (n + 2), fu⟩ ρ ν₅) fun v ν' => ∃ rs' κ, v = .ref κ.length ∧ ν' = κ ++ [.list (refs rs')] ∧ Rows κ m rs' pss ∧ ν₅ <+: κ ∧ rs'.length = m ∧ ∀ r ∈ rs', lo ≤ r := by
    rw [ok_dComp, ok_iSeq, run_var h2, ok_ok]
    simp only [gb5]
    refine ⟨by simp [h6], ok_mono (copy_rows (lo := lo) h6 gb5 rs pss [] [] ν₅ (List.prefix_refl _) pos5 (by omega) rows5 .nil (by have := rows.len; simp; omega) (fun _ h => by cases h) (by have := k5.len; omega)) fun xs κ h => ?_⟩
    obtain ⟨rs', rfl, e2, e3, e4⟩ := h
    have : rs'.length = m := by rw [e2.len]; simpa using lb
    rw [ok_newL]
    exact ⟨by simp [refs]; omega, rs', κ, rfl, rfl, by simpa using e2, e3, this, e4⟩
  obtain ⟨v', ν₆, ev, rs', κ, rfl, rfl, rows6, p6, lrs', hlo6⟩ := ok_of cr
  have n6 := pre_new κ (O.list (refs rs'))
  have p57 := p6.trans n6
  refine okS_setA (.ref s) ev (run_var h0) (put_names (pre_get p57 s5) (pre_get p57 x5) (by show 1 < 1000; decide)) ?_
  have hdk : dx < κ.length := (List.getElem?_eq_some_iff.mp (pre_get p6 x5)).1
  have nl7 : ((κ ++ [O.list (refs rs')]).set dx (.ns [(Str.ofString "roads", .ref κ.length), (Str.ofString "names", .ref ν₃.length)]))[ν₃.length]? = some (.list mk) := by rw [set_other (by omega)]; exact pre_get p57 nl4
  have q7 : ((κ ++ [O.list (refs rs')]).set dx (.ns [(Str.ofString "roads", .ref κ.length), (Str.ofString "names", .ref ν₃.length)]))[κ.length]? = some (.list (refs rs')) := by rw [set_other (by omega)]; exact new_get _ _
  have x7 : ((κ ++ [O.list (refs rs')]).set dx (.ns [(Str.ofString "roads", .ref κ.length), (Str.ofString "names", .ref ν₃.length)]))[dx]? = some (.ns [(Str.ofString "roads", .ref κ.length), (Str.ofString "names", .ref ν₃.length)]) := set_at (pre_get p57 x5)
  have k7 := (k5.trans (.of p57)).trans (Kp.set (μ := κ ++ [O.list (refs rs')]) (o := .ns [(Str.ofString "roads", .ref κ.length), (Str.ofString "names", .ref ν₃.length)]))
  have rows7 : Rows ((κ ++ [O.list (refs rs')]).set dx (.ns [(Str.ofString "roads", .ref κ.length), (Str.ofString "names", .ref ν₃.length)])) m rs' pss := by
    have hx : κ[dx]? = some (.ns [(Str.ofString "names", .ref ν₃.length)]) := pre_get p6 x5
    have : ∀ {rs : List Nat} {pss : List (List Nat)}, Rows κ m rs pss → Rows ((κ ++ [O.list (refs rs')]).set dx (.ns [(Str.ofString "roads", .ref κ.length), (Str.ofString "names", .ref ν₃.length)])) m rs pss := fun h => by
      induction h with
      | nil => exact .nil
      | cons q1 q2 q3 _ ih => exact .cons q1 (by rw [set_other (fun q => by rw [q, hx] at q2; cases q2)]; exact pre_get n6 q2) q3 ih
    exact this rows6
  have pos7 : 1 ≤ κ.length := by omega
  generalize (κ ++ [O.list (refs rs')]).set dx (.ns [(Str.ofString "roads", .ref κ.length), (Str.ofString "names", .ref ν₃.length)]) = ν₇ at nl7 q7 x7 k7 rows7 ⊢
  have gd7 := k7.old d _ (nd d _ gd) gd
  have s7 := k7.old s _ (fun q => by rw [q, g2] at g1; cases g1) g1
  have n8 := pre_new ν₇ (O.list (nts bs))
  have hd7 : dx < ν₇.length := (List.getElem?_eq_some_iff.mp x7).1
  refine okS_setA (.ref s) (lst_call h3 gd7 (lk (by have := rd.len; simp [nts]; omega))) (run_var h0) (put_names (pre_get n8 s7) (pre_get n8 x7) (by show 2 < 1000; decide)) ?_
  rw [okS_nil]
  have so : ∀ i o, i ≠ dx → ν₇[i]? = some o → ((ν₇ ++ [O.list (nts bs)]).set dx (.ns [(Str.ofString "firsts", .ref ν₇.length), (Str.ofString "roads", .ref κ.length), (Str.ofString "names", .ref ν₃.length)]))[i]? = some o := fun i o hi e => by rw [set_other hi]; exact pre_get n8 e
  refine ⟨trivial, (k7.trans (.of n8)).trans Kp.set, m0, m12, la, lb, mks, rd, dx, ν₇.length, κ.length, ν₃.length, rs', ⟨hs, hdx, by have := k7.len; omega, by have := k5.len; have := pre_len p6; omega, by have := pre_len p03; omega, hlo6⟩, so _ _ (fun q => by rw [q, g2] at g1; cases g1) s7, set_at (pre_get n8 x7), by rw [set_other (by omega)]; exact new_get _ _, so _ _ (fun q => by rw [q, x7] at q7; cases q7) q7, ?_, so _ _ (fun q => by rw [q, x7] at nl7; cases nl7) nl7⟩
  have : ∀ {rs : List Nat} {pss : List (List Nat)}, Rows ν₇ m rs pss → Rows ((ν₇ ++ [O.list (nts bs)]).set dx (.ns [(Str.ofString "firsts", .ref ν₇.length), (Str.ofString "roads", .ref κ.length), (Str.ofString "names", .ref ν₃.length)])) m rs pss := fun h => by
    induction h with
    | nil => exact .nil
    | cons q1 q2 q3 _ ih => exact .cons q1 (so _ _ (fun q => by rw [q, x7] at q2; cases q2) q2) q3 ih
  exact this rows7

theorem getA_of {μ : Mem} {s dx : Nat} {fs : List (Str × V)} {name : Str} {v : V} (h1 : μ[s]? = some (.inst 0 dx)) (h2 : μ[dx]? = some (.ns fs)) (h3 : fs.lookup name = some v) : getA 0 name μ (.ref s) = .ok v μ := by
  simp only [getA, h1, h2, if_true, h3]; rfl
theorem ne_nf : (Str.ofString "names" == Str.ofString "firsts") = false := by decide +kernel
theorem ne_nr : (Str.ofString "names" == Str.ofString "roads") = false := by decide +kernel
theorem ne_rf : (Str.ofString "roads" == Str.ofString "firsts") = false := by decide +kernel
theorem ObjM.firsts {lo : Nat} {μ : Mem} {s m : Nat} {mk : List V} {pss : List (List Nat)} {bs : List Nat} (h : ObjM lo μ s m mk pss bs) : ∃ f, getA 0 (Str.ofString "firsts") μ (.ref s) = .ok (.ref f) μ ∧ μ[f]? = some (.list (nts bs)) := by
  obtain ⟨dx, f, q, nl, rs, _, g1, g2, g3, g4, g5, g6⟩ := h.e
  exact ⟨f, getA_of g1 g2 (by rfl), g3⟩
theorem ObjM.names {lo : Nat} {μ : Mem} {s m : Nat} {mk : List V} {pss : List (List Nat)} {bs : List Nat} (h : ObjM lo μ s m mk pss bs) : ∃ f, getA 0 (Str.ofString "names") μ (.ref s) = .ok (.ref f) μ ∧ μ[f]? = some (.list mk) := by
  obtain ⟨dx, f, q, nl, rs, _, g1, g2, g3, g4, g5, g6⟩ := h.e
  exact ⟨nl, getA_of g1 g2 (by rw [List.lookup_cons, ne_nf, List.lookup_cons, ne_nr, List.lookup_cons, beq_self_eq_true]), g6⟩
theorem ObjM.roads {lo : Nat} {μ : Mem} {s m : Nat} {mk : List V} {pss : List (List Nat)} {bs : List Nat} (h : ObjM lo μ s m mk pss bs) : ∃ f rs, getA 0 (Str.ofString "roads") μ (.ref s) = .ok (.ref f) μ ∧ μ[f]? = some (.list (refs rs)) ∧ Rows μ m rs pss := by
  obtain ⟨dx, f, q, nl, rs, _, g1, g2, g3, g4, g5, g6⟩ := h.e
  exact ⟨q, rs, getA_of g1 g2 (by rw [List.lookup_cons, ne_rf, List.lookup_cons, beq_self_eq_true]), g4, g5⟩
end
end Mine.L02
end
section
set_option autoImplicit false
set_option backward.eqns.nonrecursive false
set_option maxRecDepth 10000
set_option linter.unusedSimpArgs false
set_option linter.unusedVariables false
namespace Mine.L02
noncomputable section
open PySem

/- runs that may raise -/
noncomputable def okx {α : Type} (r : R α) (Q : α → Mem → Prop) (X : Nat → Mem → Prop) : Prop := match r with
  | .ok a μ => Q a μ
  | .exc c μ => X c μ
  | .bad => False
noncomputable def okSx (r : RS) (Q : Fr → Mem → Prop) (T : V → Mem → Prop) (X : Nat → Mem → Prop) : Prop := match r with
  | .next ρ μ => Q ρ μ
  | .ret v μ => T v μ
  | .exc c _ μ => X c μ
  | .bad => False
section
variable {α : Type} {c : Cx} {ρ : Fr} {μ : Mem} {Q Q' : Fr → Mem → Prop} {T T' : V → Mem → Prop} {X X' : Nat → Mem → Prop}
theorem okx_ok {r : R α} {P : α → Mem → Prop} (h : ok r P) : okx r P X := by
  cases r with
  | ok => exact h
  | exc => exact h.elim
  | bad => exact h.elim
theorem okSx_mono {r : RS} (h : okSx r Q T X) (h1 : ∀ ρ μ, Q ρ μ → Q' ρ μ) (h2 : ∀ v μ, T v μ → T' v μ) (h3 : ∀ c μ, X c μ → X' c μ) : okSx r Q' T' X' := by
  cases r with
  | next => exact h1 _ _ h
  | ret => exact h2 _ _ h
  | exc => exact h3 _ _ h
  | bad => exact h
theorem okSx_seq {a b : DS} : okSx (sSeq a b c ρ μ) Q T X = okSx (a c ρ μ) (fun ρ μ => okSx (b c ρ μ) Q T X) T X := by
  simp only [sSeq]; cases a c ρ μ <;> rfl
theorem okSx_nil (h : Q ρ μ) : okSx (sNil c ρ μ) Q T X := h
theorem okSx_if {t : DT} {a b : DS} (h : ok (t c ρ μ) fun q ν => okSx (if q = true then a c ρ ν else b c ρ ν) Q T X) : okSx (sIf t a b c ρ μ) Q T X := by
  simp only [sIf]
  cases ht : t c ρ μ with
  | ok q ν =>
    rw [ht] at h
    exact h
  | exc => rw [ht] at h; exact h.elim
  | bad => rw [ht] at h; exact h.elim
theorem okSx_raise {k : Nat} {s : Str} {rest : DS} (h : X k μ) : okSx (sSeq (sRaise k (dCons (dC (.str s)) dNil)) rest c ρ μ) Q T X := by rw [okSx_seq]; exact h
theorem okSx_expr {d : DE} (h : okx (d c ρ μ) (fun _ ν => Q ρ ν) X) : okSx (sExpr d c ρ μ) Q T X := by
  simp only [sExpr]
  cases hd : d c ρ μ with
  | ok v ν => rw [hd] at h; exact h
  | exc => rw [hd] at h; exact h
  | bad => rw [hd] at h; exact h.elim
theorem okSx_for {it : DI} {bd : Bd} {body : DS} (h : ok (it c ρ μ) fun t ν => okSx (forS t.chk bd body c t.items ρ ν) Q T X) : okSx (sFor it bd body c ρ μ) Q T X := by
  simp only [sFor]
  cases hd : it c ρ μ with
  | ok t ν => rw [hd] at h; exact h
  | exc => rw [hd] at h; exact h.elim
  | bad => rw [hd] at h; exact h.elim
theorem okSx_for_nil {chk : Mem → Bool} {bd : Bd} {body : DS} (h : chk μ = true) (hq : Q ρ μ) : okSx (forS chk bd body c [] ρ μ) Q T X := by rw [forS, if_pos h]; exact hq
theorem okSx_for_cons {chk : Mem → Bool} {bd : Bd} {body : DS} {v : V} {r : List V} {ρ' : Fr} (h1 : chk μ = true) (h2 : bd v ρ = some ρ') (h3 : okSx (body c ρ' μ) (fun ρ'' μ' => okSx (forS chk bd body c r ρ'' μ') Q T X) T X) : okSx (forS chk bd body c (v :: r) ρ μ) Q T X := by
  rw [forS, if_pos h1, h2]
  simp only
  cases hb : body c ρ' μ with
  | next => rw [hb] at h3; exact h3
  | ret => rw [hb] at h3; exact h3
  | exc => rw [hb] at h3; exact h3
  | bad => rw [hb] at h3; exact h3
theorem okx_call {fu n f : Nat} {F : Fn} {args : List V} {P : V → Mem → Prop} (hf : Φ f = some F) (ha : args.length = F.np) (h : okSx (F.body ⟨callF Φ fu n, fu⟩ (fun i => args[i]?) μ) (fun _ μ => P .none μ) P X) : okx (callF Φ fu (n + 1) f args μ) P X := by
  simp only [callF, hf, ha, if_true]
  cases hb : F.body ⟨callF Φ fu n, fu⟩ (fun i => args[i]?) μ with
  | next ρ μ' => rw [hb] at h; exact h
  | ret v μ' => rw [hb] at h; exact h
  | exc c ρ μ' => rw [hb] at h; exact h
  | bad => rw [hb] at h; exact h
end

theorem Thing.mono {μ μ' : Mem} {v : V} (h : Thing μ v) (k : μ <+: μ') : Thing μ' v := fun a e => let ⟨xs, q⟩ := h a e; ⟨xs, pre_get k q⟩

noncomputable def NL (μ : Mem) (v : V) : Prop := isT .list μ v = some false
theorem isT_mono {T : BT} {μ μ' : Mem} {v : V} {b : Bool} (h : isT T μ v = some b) (k : μ <+: μ') : isT T μ' v = some b := by
  cases v with
  | ref a =>
    simp only [isT] at h ⊢
    cases e : μ[a]? with
    | none => rw [e] at h; cases h
    | some o => rw [e] at h; rw [pre_get k e]; exact h
  | _ => exact h
inductive BadV (μ : Mem) (m : Nat) (qs : List Nat) : V → Prop
  | odd {v} : Thing μ v → goodV m v = false → BadV μ m qs v
  | twice {p : Nat} : p < m → p ∈ qs → BadV μ m qs (.int (p : Int))
theorem BadV.mono {μ μ' : Mem} {m : Nat} {qs : List Nat} {v : V} (h : BadV μ m qs v) (k : μ <+: μ') : BadV μ' m qs v := by
  cases h with
  | odd h1 h2 => exact .odd (h1.mono k) h2
  | twice h1 h2 => exact .twice h1 h2
inductive NoRow (μ : Mem) (m : Nat) : V → Prop
  | nl {v} : NL μ v → NoRow μ m v
  | emp {a} : μ[a]? = some (.list []) → NoRow μ m (.ref a)
  | at {a qs v rest} : μ[a]? = some (.list (nts qs ++ v :: rest)) → (nts qs ++ v :: rest).length ≤ 1000 → qs.Nodup → (∀ p ∈ qs, p < m) → BadV μ m qs v → NoRow μ m (.ref a)
theorem NoRow.mono {μ μ' : Mem} {m : Nat} {v : V} (h : NoRow μ m v) (k : μ <+: μ') : NoRow μ' m v := by
  cases h with
  | nl h => exact .nl (isT_mono h k)
  | emp h => exact .emp (pre_get k h)
  | «at» h1 h2 h3 h4 h5 => exact .at (pre_get k h1) h2 h3 h4 (h5.mono k)

section
variable {fu n : Nat} {μ ν : Mem} {r m k : Nat} {xs : List V} {qs : List Nat} {ρ : Fr} {Q : Fr → Mem → Prop} {T : V → Mem → Prop} {X : Nat → Mem → Prop}
theorem take_run (hr : ν[r]? = some (.list xs)) (hl : xs.length ≤ 1000) (hk : xs.take k = nts qs) (h0 : ρ 0 = some (.ref r)) {v : V} :
    dSlc (dV 0) oNone (oSome (dV 2)) ⟨callF Φ fu (n + 1), fu⟩ ((ρ.set 2 (.int (k : Int))).set 3 v) ν = .ok (.ref ν.length) (ν ++ [.list (nts qs)]) := by
  refine run_slc (run_var (by simp [set_apply, h0])) rfl (by rw [oSome, run_var (v := .int (k : Int)) (by simp [set_apply])]; rfl) hr (cut_to.trans hk) (lk ?_)
  have := congrArg List.length hk
  rw [List.length_take] at this
  omega
theorem place_call {v : V} (h1 : ρ 1 = some (.int (m : Int))) (hv : Thing ν v) : dCall 1 (dCons (dV 3) (dCons (dV 1) (dNil))) ⟨callF Φ fu (n + 1), fu⟩ ((ρ.set 2 (.int (k : Int))).set 3 v) ν = .ok (.bool (goodV m v)) ν := by
  rw [dCall, run_cons (run_var (v := v) (by simp [set_apply])) (run_cons (run_var (v := .int (m : Int)) (by simp [set_apply, h1])) rfl), R.bind_ok]
  exact is_place_eq hv
theorem turn_yes {p : Nat} (hr : μ[r]? = some (.list xs)) (hl : xs.length ≤ 1000) (hk : xs.take k = nts qs) (hp : p < m) (hn : p ∉ qs) (h : PlI μ r m ρ ν) (hq : ∀ ρ' ν', PlI μ r m ρ' ν' → Q ρ' ν') :
    okSx (bodyP ⟨callF Φ fu (n + 1), fu⟩ ((ρ.set 2 (.int (k : Int))).set 3 (.int (p : Int))) ν) Q T X := by
  obtain ⟨h0, h1, hpre⟩ := h
  unfold bodyP
  rw [okSx_seq]
  refine okSx_if (or_no (not_run (place_call h1 thing_int) rfl ⟨by rw [good_nat, decide_eq_true hp]; rfl, or_no (cmp_run (run_var (v := .int (p : Int)) (by simp [set_apply])) (take_run (pre_get hpre hr) hl hk h0) (in_nts (new_get _ _)) ⟨by simpa using hn, ?_⟩)⟩))
  rw [ok_tFalse, if_neg (by simp)]
  exact okSx_nil (okSx_nil (hq _ _ ⟨by simp [set_apply, h0], by simp [set_apply, h1], hpre.trans (pre_new _ _)⟩))
theorem or_yes {c : Cx} {ρ : Fr} {μ : Mem} {t u : DT} {P : Bool → Mem → Prop} (h : ok (t c ρ μ) fun q ν => q = true ∧ P true ν) : ok (tOr t u c ρ μ) P := by
  simp only [tOr]
  cases e : t c ρ μ with
  | ok q ν => rw [e] at h; obtain ⟨rfl, h⟩ := h; exact h
  | exc => rw [e] at h; exact h.elim
  | bad => rw [e] at h; exact h.elim
theorem turn_no {v : V} (hr : μ[r]? = some (.list xs)) (hl : xs.length ≤ 1000) (hk : xs.take k = nts qs) (hv : BadV μ m qs v) (h : PlI μ r m ρ ν) :
    okSx (bodyP ⟨callF Φ fu (n + 1), fu⟩ ((ρ.set 2 (.int (k : Int))).set 3 v) ν) Q T (fun e ν' => e = 4 ∧ μ <+: ν') := by
  obtain ⟨h0, h1, hpre⟩ := h
  unfold bodyP
  rw [okSx_seq]
  cases hv with
  | odd g1 g2 =>
    refine okSx_if (or_yes (not_run (place_call h1 (g1.mono hpre)) rfl ⟨by rw [g2]; rfl, ?_⟩))
    rw [if_pos rfl]
    exact okSx_raise ⟨rfl, hpre⟩
  | @twice p g1 g2 =>
    refine okSx_if (or_no (not_run (place_call h1 thing_int) rfl ⟨by rw [good_nat, decide_eq_true g1]; rfl, or_yes (cmp_run (run_var (v := .int (p : Int)) (by simp [set_apply])) (take_run (pre_get hpre hr) hl hk h0) (in_nts (new_get _ _)) ⟨by simpa using g2, ?_⟩)⟩))
    rw [if_pos rfl]
    exact okSx_raise ⟨rfl, hpre.trans (pre_new _ _)⟩
end
theorem places_no {fu n : Nat} {μ : Mem} {r m : Nat} {xs rest : List V} {v : V} {T : V → Mem → Prop} (hr : μ[r]? = some (.list xs)) (hl : xs.length ≤ 1000) : ∀ (q2 q1 : List Nat) (ρ : Fr) (ν : Mem), xs = nts (q1 ++ q2) ++ v :: rest → (q1 ++ q2).Nodup → (∀ p ∈ q1 ++ q2, p < m) → BadV μ m (q1 ++ q2) v → PlI μ r m ρ ν →
    okSx (forS (fun μ => decide (μ[r]? = some (.list xs))) (bd2 2 3) bodyP ⟨callF Φ fu (n + 1), fu⟩ (enumL q1.length (nts q2 ++ v :: rest)) ρ ν) (fun _ _ => False) T (fun e ν' => e = 4 ∧ μ <+: ν')
  | [], q1, ρ, ν, hx, _, _, hv, h => by
    rw [List.append_nil] at hx hv
    refine okSx_for_cons (by simp [pre_get h.p hr]) rfl (turn_no hr hl (qs := q1) ?_ hv h)
    rw [hx, List.take_append_of_le_length (by simp [nts]), List.take_of_length_le (by simp [nts])]
  | p :: q2, q1, ρ, ν, hx, hn, hp, hv, h => by
    have e : q1 ++ p :: q2 = (q1 ++ [p]) ++ q2 := by simp
    refine okSx_for_cons (by simp [pre_get h.p hr]) rfl (turn_yes hr hl (qs := q1) ?_ (hp p (by simp)) (fun q => ?_) h fun ρ' ν' h' => ?_)
    · rw [hx, List.take_append_of_le_length (by simp [nts]), nts_cut, List.take_left]
    · exact (List.nodup_append.mp hn).2.2 p q p List.mem_cons_self rfl
    · have := places_no (fu := fu) (n := n) (T := T) hr hl q2 (q1 ++ [p]) ρ' ν' (by rw [← e]; exact hx) (by rw [← e]; exact hn) (by rw [← e]; exact hp) (by rw [← e]; exact hv) h'
      rw [List.length_append] at this
      exact this
theorem need_places_no {fu n : Nat} {μ : Mem} {m : Nat} {v : V} (h : NoRow μ m v) : okx (callF Φ fu (n + 2) 2 [v, .int (m : Int)] μ) (fun _ _ => False) (fun e ν => e = 4 ∧ μ <+: ν) := by
  refine okx_call rfl rfl ?_
  dsimp only [d_need_places]
  rw [okSx_seq]
  cases h with
  | nl h =>
    refine okSx_if (or_yes (not_run (d := dB1 (bIsi .list) (dV 0)) (v := .bool false) (μ' := μ) ?_ rfl ⟨rfl, ?_⟩))
    · simp only [dB1, dV, List.getElem?_cons_zero, R.opt, R.bind, bIsi]
      rw [show isT .list μ v = some false from h]
    · rw [if_pos rfl]; exact okSx_raise ⟨rfl, List.prefix_refl _⟩
  | @emp a h =>
    refine okSx_if (or_no (not_run (d := dB1 (bIsi .list) (dV 0)) (v := .bool true) (μ' := μ) ?_ rfl ⟨rfl, or_yes (cmp_run (run_len (run_var rfl) h) rfl (t := true) rfl ⟨rfl, ?_⟩)⟩))
    · simp only [dB1, dV, List.getElem?_cons_zero, R.opt, R.bind, bIsi, isT_ref h]
    · rw [if_pos rfl]; exact okSx_raise ⟨rfl, List.prefix_refl _⟩
  | @«at» a qs v rest h1 h2 h3 h4 h5 =>
    refine okSx_if (or_no (not_run (d := dB1 (bIsi .list) (dV 0)) (v := .bool true) (μ' := μ) ?_ rfl ⟨rfl, or_no (cmp_run (run_len (run_var rfl) h1) rfl (t := false) ?_ ⟨rfl, ?_⟩)⟩))
    · simp only [dB1, dV, List.getElem?_cons_zero, R.opt, R.bind, bIsi, isT_ref h1]
    · rw [cEq_int]
      have : (((nts qs ++ v :: rest).length : Int) == 0) = false := by rw [beq_eq_false_iff_ne]; simp; omega
      rw [this]
    · rw [ok_tFalse, if_neg (by simp)]
      refine okSx_nil ?_
      rw [okSx_seq]
      refine okSx_for ?_
      have hi : iEnum (dV 0) ⟨callF Φ fu (n + 1), fu⟩ (fun i => [V.ref a, V.int (m : Int)][i]?) μ = .ok ⟨enumL 0 (nts qs ++ v :: rest), fun μ => decide (μ[a]? = some (.list (nts qs ++ v :: rest)))⟩ μ := by
        simp only [iEnum, dV, List.getElem?_cons_zero, R.opt, R.bind, h1]
      rw [hi, ok_ok]
      exact okSx_mono (places_no (n := n) h1 h2 qs [] _ _ rfl h3 h4 h5 ⟨rfl, rfl, List.prefix_refl _⟩) (fun _ _ h => h.elim) (fun _ _ h => h) fun _ _ h => h
end
end Mine.L02
end
section
set_option autoImplicit false
set_option backward.eqns.nonrecursive false
set_option maxRecDepth 10000
set_option linter.unusedSimpArgs false
set_option linter.unusedVariables false
namespace Mine.L02
noncomputable section
open PySem

section
variable {c : Cx} {ρ : Fr}
theorem ok_compR {chk : Mem → Bool} {bd : Bd} {elt : DE} (p : V → Prop) (G : V → V → Prop) (I : Mem → Prop) {Q : List V → Mem → Prop} :
    ∀ (items acc : List V) (μ : Mem), I μ → acc.length + items.length ≤ lim → (∀ x ∈ acc, p x) → (∀ μ, I μ → chk μ = true) → (∀ v ∈ items, ∀ μ, I μ → ∃ ρ', bd v ρ = some ρ' ∧ ok (elt c ρ' μ) fun x μ' => (p x ∧ G v x) ∧ I μ') →
      (∀ xs μ, xs.length = acc.length + items.length → (∀ x ∈ xs, p x) → (∀ x ∈ acc, x ∈ xs) → (∀ v ∈ items, ∃ x ∈ xs, G v x) → I μ → Q xs μ) → ok (compS chk bd tTrue elt c ρ items μ acc) Q
  | [], acc, μ, hi, _, ha, hc, _, hq => ok_comp_nil (hc μ hi) (hq acc μ rfl ha (fun _ h => h) (fun _ h => by cases h) hi)
  | v :: r, acc, μ, hi, hl, ha, hc, he, hq => by
    obtain ⟨ρ', h1, h2⟩ := he v List.mem_cons_self μ hi
    simp only [List.length_cons] at hl
    refine ok_comp_cons (hc μ hi) h1 (ok_mono h2 fun x μ' h => ⟨by omega, ?_⟩)
    refine ok_compR p G I r (acc ++ [x]) μ' h.2 (by simp; omega) (fun y hy => ?_) hc (fun u hu => he u (List.mem_cons_of_mem _ hu)) fun xs μ hx hp hac hG => hq xs μ (by simp at hx ⊢; omega) hp (fun y hy => hac y (List.mem_append_left _ hy)) fun u hu => ?_
    · rcases List.mem_append.mp hy with hy | hy
      · exact ha y hy
      · rw [List.mem_singleton.mp hy]; exact h.1.1
    · rcases List.mem_cons.mp hu with rfl | hu
      · exact ⟨x, hac x (by simp), h.1.2⟩
      · exact hG u hu
end
theorem truths_some {μ : Mem} : ∀ {xs : List V}, (∀ x ∈ xs, ∃ b, x = .bool b) → ∃ bs, truths μ xs = some bs ∧ (V.bool false ∈ xs → bs.all id = false)
  | [], _ => ⟨[], rfl, fun h => by cases h⟩
  | x :: r, h => by
    obtain ⟨bs, h1, h2⟩ := truths_some (μ := μ) (xs := r) fun y hy => h y (List.mem_cons_of_mem _ hy)
    obtain ⟨b, rfl⟩ := h x List.mem_cons_self
    refine ⟨b :: bs, by simp only [truths, truth, h1], fun q => ?_⟩
    rcases List.mem_cons.mp q with q | q
    · cases q; rfl
    · simp [h2 q]
theorem all_false {μ : Mem} {a : Nat} {xs : List V} (h : μ[a]? = some (.list xs)) (hx : ∀ x ∈ xs, ∃ b, x = .bool b) (hf : V.bool false ∈ xs) : bAll μ (.ref a) = .ok (.bool false) μ := by
  obtain ⟨bs, h1, h2⟩ := truths_some (μ := μ) hx
  simp only [bAll, h, h1, R.opt, R.bind, h2 hf]

inductive NoMk (μ : Mem) : V → Prop
  | ns {v} : isT .str μ v = some false → NoMk μ v
  | long {x} : 6 < x.length → NoMk μ (.str x)
  | sign {x c} : x.length ≤ 6 → x.cps.all (· < 128) = true → c ∈ x.cps.toList → Txt.contains abc ⟨#[c]⟩ = false → NoMk μ (.str x)
theorem NoMk.mono {μ μ' : Mem} {v : V} (h : NoMk μ v) (k : μ <+: μ') : NoMk μ' v := by
  cases h with
  | ns h => exact .ns (isT_mono h k)
  | long h => exact .long h
  | sign h1 h2 h3 h4 => exact .sign h1 h2 h3 h4
theorem is_mark_no {fu n : Nat} {μ : Mem} {v : V} (hv : NoMk μ v) : ok (callF Φ fu (n + 1) 0 [v] μ) fun u μ' => u = .bool false ∧ μ <+: μ' := by
  have hlim' : lim = 1000000 := rfl
  refine ok_call rfl rfl ?_
  dsimp only [d_is_mark]
  rw [okS_seq, okS_if]
  cases hv with
  | ns h =>
    refine or_yes (not_run (d := dB1 (bIsi .str) (dV 0)) (v := .bool false) (μ' := μ) ?_ rfl ⟨rfl, ?_⟩)
    · simp only [dB1, dV, List.getElem?_cons_zero, R.opt, R.bind, bIsi, h]
    · rw [if_pos rfl]
      exact now_ret ⟨rfl, List.prefix_refl _⟩
  | @long x h =>
    refine or_no (not_run (d := dB1 (bIsi .str) (dV 0)) (v := .bool true) (μ' := μ) rfl rfl ⟨rfl, or_yes (cmp_run (l := dB1 bLen (dV 0)) (a := .int x.length) (μ₁ := μ) rfl rfl (t := true) ?_ ⟨rfl, ?_⟩)⟩)
    · simp only [cGt, cInt]
      have : ((x.length : Int) > 6) := by omega
      simp [this]
    · rw [if_pos rfl]
      exact now_ret ⟨rfl, List.prefix_refl _⟩
  | @sign x s h1 h2 h3 h4 =>
    refine or_no (not_run (d := dB1 (bIsi .str) (dV 0)) (v := .bool true) (μ' := μ) rfl rfl ⟨rfl, or_no (cmp_run (l := dB1 bLen (dV 0)) (a := .int x.length) (μ₁ := μ) rfl rfl (t := false) ?_ ⟨rfl, ?_⟩)⟩)
    · simp only [cGt, cInt]
      have : ¬ ((x.length : Int) > 6) := by omega
      simp [this]
    · rw [ok_tFalse, if_neg (by simp), okS_nil]
      refine now_ret ?_
      rw [ok_dB1, ok_dComp]
      have hi : iStr (dV 0) ⟨callF Φ fu n, fu⟩ (fun i => [V.str x][i]?) μ = .ok ⟨chrs x, fun _ => true⟩ μ := by
        simp only [iStr, dV, List.getElem?_cons_zero, R.opt, R.bind, h2, if_true]
      rw [hi, ok_ok]
      refine ⟨rfl, ok_compR (fun v => ∃ b, v = .bool b) (fun v u => v = .str ⟨#[s]⟩ → u = .bool false) (fun ν => ν = μ) _ [] μ rfl (by simp [chrs]; have : x.cps.size = x.length := rfl; omega) (fun _ h => by cases h) (fun _ _ => rfl) (fun v hv ν hν => ?_) fun xs ν hx hp _ hG hν => ?_⟩
      · unfold chrs at hv
        obtain ⟨s', hc, rfl⟩ := List.mem_map.mp hv
        refine ⟨_, cb1_none rfl, ?_⟩
        subst hν
        rw [ok_dCmp, run_var (v := .str ⟨#[s']⟩) (by simp [set_apply]), ok_ok, ok_dC]
        have : cInS ν (.str ⟨#[s']⟩) (.str (Str.ofString "abcdefghijklmnopqrstuvwxyz")) = some (Txt.contains abc ⟨#[s']⟩) := rfl
        rw [this, ok_opt_some]
        refine ⟨⟨⟨_, rfl⟩, fun q => ?_⟩, rfl⟩
        have e : s' = s := by injection q with q; injection q with q; simpa using q
        rw [e, h4]
      · subst hν
        obtain ⟨u, hu, e⟩ := hG (.str ⟨#[s]⟩) (List.mem_map.mpr ⟨s, h3, rfl⟩)
        rw [ok_newL]
        refine ⟨by rw [hx]; simp [chrs]; have : x.cps.size = x.length := rfl; omega, ?_⟩
        rw [all_false (new_get _ _) hp (e rfl ▸ hu)]
        exact ⟨rfl, pre_new _ _⟩

/- the three that are handed to a machine -/
inductive NoMarks (μ : Mem) : V → Prop
  | nl {v} : NL μ v → NoMarks μ v
  | few {a} : μ[a]? = some (.list []) → NoMarks μ (.ref a)
  | many {a xs} : μ[a]? = some (.list xs) → 12 < xs.length → NoMarks μ (.ref a)
  | at {a xs v} : μ[a]? = some (.list xs) → xs.length ≤ 12 → (∀ x ∈ xs, Mk x ∨ NoMk μ x) → v ∈ xs → NoMk μ v → NoMarks μ (.ref a)
noncomputable def Marks (m : Nat) (μ : Mem) (v : V) : Prop := ∃ a mk, v = .ref a ∧ 1 ≤ a ∧ μ[a]? = some (.list mk) ∧ mk.length = m ∧ 0 < m ∧ m ≤ 12 ∧ ∀ x ∈ mk, Mk x
noncomputable def Ways (m : Nat) (μ : Mem) (v : V) : Prop := ∃ b rs pss, v = .ref b ∧ 1 ≤ b ∧ μ[b]? = some (.list (refs rs)) ∧ Rows μ m rs pss ∧ rs.length = m
inductive NoWays (μ : Mem) (m : Nat) : V → Prop
  | nl {v} : NL μ v → NoWays μ m v
  | len {b ws} : μ[b]? = some (.list ws) → ws.length ≠ m → NoWays μ m (.ref b)
  | at {b rs pss w rest} : μ[b]? = some (.list (refs rs ++ w :: rest)) → (refs rs ++ w :: rest).length = m → Rows μ m rs pss → NoRow μ m w → NoWays μ m (.ref b)
inductive Ref3 (μ : Mem) (x y z : V) : Prop
  | marks : NoMarks μ x → Ref3 μ x y z
  | ways {m} : Marks m μ x → NoWays μ m y → Ref3 μ x y z
  | begins {m} : Marks m μ x → Ways m μ y → NoRow μ m z → Ref3 μ x y z
theorem Rows.pre {μ μ' : Mem} {m : Nat} {rs : List Nat} {pss : List (List Nat)} (h : Rows μ m rs pss) (k : μ <+: μ') : Rows μ' m rs pss := h.mono fun r _ _ o e => pre_get k e
theorem NoMarks.mono {μ μ' : Mem} {v : V} (h : NoMarks μ v) (k : μ <+: μ') : NoMarks μ' v := by
  cases h with
  | nl h => exact .nl (isT_mono h k)
  | few h => exact .few (pre_get k h)
  | many h1 h2 => exact .many (pre_get k h1) h2
  | «at» h1 h2 h3 h4 h5 => exact .at (pre_get k h1) h2 (fun x hx => (h3 x hx).imp id fun q => q.mono k) h4 (h5.mono k)
theorem Marks.mono {m : Nat} {μ μ' : Mem} {v : V} (h : Marks m μ v) (k : μ <+: μ') : Marks m μ' v := let ⟨a, mk, h1, h2, h3, r⟩ := h; ⟨a, mk, h1, h2, pre_get k h3, r⟩
theorem Ways.mono {m : Nat} {μ μ' : Mem} {v : V} (h : Ways m μ v) (k : μ <+: μ') : Ways m μ' v := let ⟨b, rs, pss, h1, h2, h3, h4, h5⟩ := h; ⟨b, rs, pss, h1, h2, pre_get k h3, h4.pre k, h5⟩
theorem NoWays.mono {μ μ' : Mem} {m : Nat} {v : V} (h : NoWays μ m v) (k : μ <+: μ') : NoWays μ' m v := by
  cases h with
  | nl h => exact .nl (isT_mono h k)
  | len h1 h2 => exact .len (pre_get k h1) h2
  | «at» h1 h2 h3 h4 => exact .at (pre_get k h1) h2 (h3.pre k) (h4.mono k)
theorem Ref3.mono {μ μ' : Mem} {x y z : V} (h : Ref3 μ x y z) (k : μ <+: μ') : Ref3 μ' x y z := by
  cases h with
  | marks h => exact .marks (h.mono k)
  | ways h1 h2 => exact .ways (h1.mono k) (h2.mono k)
  | begins h1 h2 h3 => exact .begins (h1.mono k) (h2.mono k) (h3.mono k)

section
variable {fu n : Nat} {μ : Mem} {ρ : Fr}
noncomputable def t1 : DT := (tOr (tNot (tE (dB1 (bIsi .list) (dV 1)))) (tOr (tNot (tCmp2 cLe cLe (dC (.int 1)) (dB1 bLen (dV 1)) (dC (.int 12)))) (tFalse)))
noncomputable def tAll : DT := tNot (tE (dB1 bAll (dComp [5] (iSeq (dV 1)) (cb1 5) (tTrue) (dCall 0 (dCons (dV 5) (dNil))))))
noncomputable def t2 : DT := (tOr (tNot (tE (dB1 (bIsi .list) (dV 2)))) (tOr (tCmp cNe (dB1 bLen (dV 2)) (dB1 bLen (dV 1))) (tFalse)))
theorem t1_nl {c : Cx} {v : V} (h1 : ρ 1 = some v) (h : NL μ v) : t1 c ρ μ = .ok true μ := by
  simp only [t1, tOr, tNot, tE, dB1, dV, h1, R.opt, R.bind, bIsi, show isT .list μ v = some false from h, truth, Bool.not_false, if_true]
theorem t1_list {c : Cx} {a : Nat} {xs : List V} (h1 : ρ 1 = some (.ref a)) (h : μ[a]? = some (.list xs)) : t1 c ρ μ = .ok (!(decide (1 ≤ xs.length) && decide (xs.length ≤ 12))) μ := by
  simp only [t1, tOr, tNot, tE, dB1, dV, h1, R.opt, R.bind, bIsi, isT_ref h, truth, Bool.not_true, Bool.false_eq_true, if_false, tCmp2, len_list h, dC, cLe, cInt, tFalse]
  by_cases q1 : 1 ≤ xs.length
  · have e1 : (1 : Int) ≤ (xs.length : Int) := by omega
    by_cases q2 : xs.length ≤ 12
    · have e2 : (xs.length : Int) ≤ 12 := by omega
      simp [q1, q2, e1, e2]
    · have e2 : ¬ (xs.length : Int) ≤ 12 := by omega
      simp [q1, q2, e1, e2]
  · have e1 : ¬ (1 : Int) ≤ (xs.length : Int) := by omega
    simp [q1, e1]
theorem all_no {a : Nat} {xs : List V} {v : V} (h1 : ρ 1 = some (.ref a)) (h5 : ρ 5 = none) (h : μ[a]? = some (.list xs)) (hl : xs.length ≤ 12) (hx : ∀ x ∈ xs, Mk x ∨ NoMk μ x) (hv : v ∈ xs) (hn : NoMk μ v) :
    ok (tAll ⟨callF Φ fu (n + 2), fu⟩ ρ μ) fun q ν => q = true ∧ μ <+: ν := by
  have hlim' : lim = 1000000 := rfl
  unfold tAll
  rw [ok_tNot, ok_tE, ok_dB1, ok_dComp, ok_iSeq, run_var h1, ok_ok]
  simp only [h]
  refine ⟨by simp [h5], ok_compR (fun v => ∃ b, v = .bool b) (fun v' u => v' = v → u = .bool false) (fun ν => μ <+: ν) _ [] μ (List.prefix_refl _) (by simp; omega) (fun _ h => by cases h) (fun ν hν => by simp [pre_get hν h]) (fun v' hv' ν hν => ?_) fun ys ν hy hp _ hG hν => ?_⟩
  · refine ⟨_, cb1_none h5, ?_⟩
    by_cases e : v' = v
    · subst e
      exact ok_mono (at_call (is_mark_no (n := n + 1) (hn.mono hν)) (run_cons (run_var (by simp [set_apply])) rfl)) fun u ν' h => ⟨⟨⟨_, h.1⟩, fun _ => h.1⟩, hν.trans h.2⟩
    · rcases hx v' hv' with q | q
      · exact ok_mono (at_call (is_mark_ok (n := n + 1) q) (run_cons (run_var (by simp [set_apply])) rfl)) fun u ν' h => ⟨⟨⟨_, h.1⟩, fun q => absurd q e⟩, hν.trans h.2⟩
      · exact ok_mono (at_call (is_mark_no (n := n + 1) (q.mono hν)) (run_cons (run_var (by simp [set_apply])) rfl)) fun u ν' h => ⟨⟨⟨_, h.1⟩, fun q => absurd q e⟩, hν.trans h.2⟩
  · obtain ⟨u, hu, e⟩ := hG v hv
    rw [ok_newL]
    simp only [List.length_nil, Nat.zero_add] at hy
    refine ⟨by omega, ?_⟩
    rw [all_false (new_get _ _) hp (e rfl ▸ hu), ok_ok, truth, ok_opt_some]
    exact ⟨rfl, hν.trans (pre_new _ _)⟩
theorem all_yes {a : Nat} {xs : List V} (h1 : ρ 1 = some (.ref a)) (h5 : ρ 5 = none) (h : μ[a]? = some (.list xs)) (hl : xs.length ≤ 12) (hx : ∀ x ∈ xs, Mk x) :
    ok (tAll ⟨callF Φ fu (n + 2), fu⟩ ρ μ) fun q ν => q = false ∧ μ <+: ν := by
  have hlim' : lim = 1000000 := rfl
  unfold tAll
  rw [ok_tNot, ok_tE, ok_dB1, ok_dComp, ok_iSeq, run_var h1, ok_ok]
  simp only [h]
  refine ⟨by simp [h5], ok_compP (fun v => v = .bool true) (fun ν => μ <+: ν) _ [] μ (List.prefix_refl _) (by simp; omega) (fun _ h => by cases h) (fun ν hν => by simp [pre_get hν h]) (fun v hv ν hν => ?_) fun ys ν hy hp hν => ?_⟩
  · exact ⟨_, cb1_none h5, ok_mono (at_call (is_mark_ok (n := n + 1) (hx v hv)) (run_cons (run_var (by simp [set_apply])) rfl)) fun u ν' h => ⟨h.1, hν.trans h.2⟩⟩
  · rw [ok_newL]
    simp only [List.length_nil, Nat.zero_add] at hy
    refine ⟨by omega, ?_⟩
    rw [all_true (new_get _ _) hp, ok_ok, truth, ok_opt_some]
    exact ⟨rfl, hν.trans (pre_new _ _)⟩
theorem t2_nl {c : Cx} {v : V} (h2 : ρ 2 = some v) (h : NL μ v) : t2 c ρ μ = .ok true μ := by
  simp only [t2, tOr, tNot, tE, dB1, dV, h2, R.opt, R.bind, bIsi, show isT .list μ v = some false from h, truth, Bool.not_false, if_true]
theorem t2_list {c : Cx} {a b : Nat} {xs ws : List V} (h1 : ρ 1 = some (.ref a)) (h2 : ρ 2 = some (.ref b)) (h : μ[a]? = some (.list xs)) (h' : μ[b]? = some (.list ws)) : t2 c ρ μ = .ok (!decide (ws.length = xs.length)) μ := by
  have e : cNe μ (.int (ws.length : Int)) (.int (xs.length : Int)) = some (!decide (ws.length = xs.length)) := by
    show some (!((ws.length : Int) == (xs.length : Int))) = _
    by_cases q : ws.length = xs.length
    · simp [q]
    · have : ¬ (ws.length : Int) = (xs.length : Int) := by omega
      simp [q, this]
  simp only [t2, tOr, tNot, tE, dB1, dV, h1, h2, R.opt, R.bind, bIsi, isT_ref h', truth, Bool.not_true, Bool.false_eq_true, if_false, tCmp, len_list h, len_list h', e, tFalse]
  by_cases q : ws.length = xs.length <;> simp [q]
end

structure InJ (μ : Mem) (a : Nat) (z : V) (ρ : Fr) (ν : Mem) : Prop where
  h1 : ρ 1 = some (.ref a)
  h3 : ρ 3 = some z
  p : μ <+: ν
noncomputable def bodyR : DS := (sSeq (sExpr (dCall 2 (dCons (dV 4) (dCons (dB1 bLen (dV 1)) (dNil))))) (sNil))
section
variable {fu n : Nat} {μ : Mem} {a m : Nat} {mk ws : List V} {z : V} {b : Nat} {T : V → Mem → Prop}
theorem args_run {ρ : Fr} {ν : Mem} {v : V} (h : InJ μ a z ρ ν) (ha : μ[a]? = some (.list mk)) (hm : mk.length = m) : (dCons (dV 4) (dCons (dB1 bLen (dV 1)) dNil)) ⟨callF Φ fu (n + 2), fu⟩ (ρ.set 4 v) ν = .ok [v, .int (m : Int)] ν :=
  run_cons (run_var (by simp [set_apply])) (run_cons (by rw [← hm]; exact run_len (run_var (by simp [set_apply, h.h1])) (pre_get h.p ha)) rfl)
theorem rows_yes {X : Nat → Mem → Prop} (hb : μ[b]? = some (.list ws)) (ha : μ[a]? = some (.list mk)) (hm : mk.length = m) (h12 : m ≤ 12) {rest : List V} {Q : Fr → Mem → Prop} (hq : ∀ ρ ν, InJ μ a z ρ ν → okSx (forS (fun μ => decide (μ[b]? = some (.list ws))) (bd1 4) bodyR ⟨callF Φ fu (n + 2), fu⟩ rest ρ ν) Q T X) : ∀ (rs : List Nat) (pss : List (List Nat)) (ρ : Fr) (ν : Mem), Rows μ m rs pss → InJ μ a z ρ ν →
    okSx (forS (fun μ => decide (μ[b]? = some (.list ws))) (bd1 4) bodyR ⟨callF Φ fu (n + 2), fu⟩ (refs rs ++ rest) ρ ν) Q T X
  | [], _, ρ, ν, _, h => hq ρ ν h
  | r :: rs, pss, ρ, ν, hr, h => by
    cases hr with
    | @cons _ _ ps pss g1 g2 g3 g4 =>
      refine okSx_for_cons (by simp [pre_get h.p hb]) rfl ?_
      unfold bodyR
      rw [okSx_seq]
      refine okSx_expr ?_
      rw [dCall, args_run h ha hm, R.bind_ok]
      refine okx_ok (ok_mono (need_places_ok (n := n) (m := m) (pre_get h.p g2) g3 (by have := g3.len; omega)) fun v ν' hv => okSx_nil ?_)
      exact rows_yes hb ha hm h12 hq rs pss _ ν' g4 ⟨by simp [set_apply, h.h1], by simp [set_apply, h.h3], h.p.trans hv.2⟩
theorem okx_no {α : Type} {r : R α} {Q : α → Mem → Prop} {X X' : Nat → Mem → Prop} (h : okx r (fun _ _ => False) X) (k : ∀ e ν, X e ν → X' e ν) : okx r Q X' := by
  cases r with
  | ok => exact h.elim
  | exc => exact k _ _ h
  | bad => exact h.elim
theorem row_no {ρ : Fr} {ν : Mem} {w : V} {rest : List V} (hb : μ[b]? = some (.list ws)) (ha : μ[a]? = some (.list mk)) (hm : mk.length = m) (hw : NoRow μ m w) (h : InJ μ a z ρ ν) {Q : Fr → Mem → Prop} :
    okSx (forS (fun μ => decide (μ[b]? = some (.list ws))) (bd1 4) bodyR ⟨callF Φ fu (n + 2), fu⟩ (w :: rest) ρ ν) Q T (fun e ν' => e = 4 ∧ μ <+: ν') := by
  refine okSx_for_cons (by simp [pre_get h.p hb]) rfl ?_
  unfold bodyR
  rw [okSx_seq]
  refine okSx_expr ?_
  rw [dCall, args_run h ha hm, R.bind_ok]
  exact okx_no (need_places_no (n := n) (hw.mono h.p)) fun e ν' q => ⟨q.1, h.p.trans q.2⟩
end
theorem init_no {fu n : Nat} {μ : Mem} {s : Nat} {x y z : V} (h : Ref3 μ x y z) : okx (callF Φ fu (n + 3) 12 [.ref s, x, y, z] μ) (fun _ _ => False) (fun e ν => e = 4 ∧ μ <+: ν) := by
  have good : ∀ {a : Nat} {mk : List V} {m : Nat} {T : V → Mem → Prop} {rest : DS}, μ[a]? = some (.list mk) → mk.length = m → 0 < m → m ≤ 12 → (∀ x ∈ mk, Mk x) → (∀ ν, μ <+: ν → okSx (rest ⟨callF Φ fu (n + 2), fu⟩ (fun i => [V.ref s, .ref a, y, z][i]?) ν) (fun _ _ => False) T (fun e ν => e = 4 ∧ μ <+: ν)) →
      okSx (sSeq (sIf t1 (sSeq (sRaise 4 (dCons (dC (.str (Str.ofString "one to twelve marks are wanted"))) (dNil))) (sNil)) (sNil)) (sSeq (sIf tAll (sSeq (sRaise 4 (dCons (dC (.str (Str.ofString "no mark"))) (dNil))) (sNil)) (sNil)) rest) ⟨callF Φ fu (n + 2), fu⟩ (fun i => [V.ref s, .ref a, y, z][i]?) μ) (fun _ _ => False) T (fun e ν => e = 4 ∧ μ <+: ν) := fun {a mk m T rest} g1 g2 g3 g4 g5 hr => by
    rw [okSx_seq]
    refine okSx_if (ok_run (t1_list rfl g1) ?_)
    rw [if_neg (by rw [decide_eq_true (show 1 ≤ mk.length by omega), decide_eq_true (show mk.length ≤ 12 by omega)]; simp)]
    refine okSx_nil ?_
    rw [okSx_seq]
    refine okSx_if (ok_mono (all_yes rfl rfl g1 (by omega) g5) fun q ν h => ?_)
    rw [h.1, if_neg (by simp)]
    exact okSx_nil (hr ν h.2)
  refine okx_call rfl rfl ?_
  cases h with
  | marks h =>
    dsimp only [d_Machine___init__]
    rw [okSx_seq]
    cases h with
    | nl h =>
      refine okSx_if (ok_run (t1_nl rfl h) ?_)
      rw [if_pos rfl]; exact okSx_raise ⟨rfl, List.prefix_refl _⟩
    | few h =>
      refine okSx_if (ok_run (t1_list rfl h) ?_)
      rw [if_pos (by rfl)]; exact okSx_raise ⟨rfl, List.prefix_refl _⟩
    | many h h' =>
      refine okSx_if (ok_run (t1_list rfl h) ?_)
      rw [if_pos (by simp; omega)]; exact okSx_raise ⟨rfl, List.prefix_refl _⟩
    | @«at» a xs v h1 h2 h3 h4 h5 =>
      have : 1 ≤ xs.length := List.length_pos_of_mem h4
      refine okSx_if (ok_run (t1_list rfl h1) ?_)
      rw [if_neg (by rw [decide_eq_true this, decide_eq_true h2]; simp)]
      refine okSx_nil ?_
      rw [okSx_seq]
      refine okSx_if (ok_mono (all_no rfl rfl h1 h2 h3 h4 h5) fun q ν h => ?_)
      rw [h.1, if_pos rfl]; exact okSx_raise ⟨rfl, h.2⟩
  | @ways m h h' =>
    obtain ⟨a, mk, rfl, _, g1, g2, g3, g4, g5⟩ := h
    refine good g1 g2 g3 g4 g5 fun ν hν => ?_
    rw [okSx_seq]
    have ga := pre_get hν g1
    cases h' with
    | nl h =>
      refine okSx_if (ok_run (t2_nl rfl (isT_mono h hν)) ?_)
      rw [if_pos rfl]; exact okSx_raise ⟨rfl, hν⟩
    | len h h' =>
      refine okSx_if (ok_run (t2_list rfl rfl ga (pre_get hν h)) ?_)
      rw [if_pos (by simp; omega)]; exact okSx_raise ⟨rfl, hν⟩
    | @«at» b rs pss w rest h1 h2 h3 h4 =>
      have gb := pre_get hν h1
      refine okSx_if (ok_run (t2_list rfl rfl ga gb) ?_)
      rw [if_neg (by simp only [Bool.not_eq_true', decide_eq_false_iff_not, Decidable.not_not]; omega)]
      refine okSx_nil ?_
      rw [okSx_seq]
      refine okSx_for ?_
      rw [ok_iSeq, run_var (v := .ref b) rfl, ok_ok]
      simp only [gb]
      refine okSx_mono (rows_yes (z := z) (X := fun e ν' => e = 4 ∧ ν <+: ν') (Q := fun _ _ => False) gb ga g2 g4 (fun ρ ν' h => row_no gb ga g2 (h4.mono hν) h) rs pss _ _ (h3.pre hν) ⟨rfl, rfl, List.prefix_refl _⟩) (fun _ _ h => h.elim) (fun _ _ h => h) fun e ν' h => ⟨h.1, hν.trans h.2⟩
  | @begins m h h' h'' =>
    obtain ⟨a, mk, rfl, _, g1, g2, g3, g4, g5⟩ := h
    obtain ⟨b, rs, pss, rfl, _, k1, k2, k3⟩ := h'
    refine good g1 g2 g3 g4 g5 fun ν hν => ?_
    rw [okSx_seq]
    have ga := pre_get hν g1
    have gb := pre_get hν k1
    refine okSx_if (ok_run (t2_list rfl rfl ga gb) ?_)
    rw [if_neg (by simp [refs]; omega)]
    refine okSx_nil ?_
    rw [okSx_seq]
    refine okSx_for ?_
    rw [ok_iSeq, run_var (v := .ref b) rfl, ok_ok]
    simp only [gb]
    have := rows_yes (fu := fu) (n := n) (z := z) (X := fun e ν' => e = 4 ∧ ν <+: ν') (T := fun _ _ => False) (Q := fun ρ ν' => InJ ν a z ρ ν') (rest := []) gb ga g2 g4 (fun ρ ν' h => okSx_for_nil (by simp [pre_get h.p gb]) h) rs pss (fun i => [V.ref s, .ref a, .ref b, z][i]?) ν (k2.pre hν) ⟨rfl, rfl, List.prefix_refl _⟩
    rw [List.append_nil] at this
    refine okSx_mono this (fun ρ ν' h => ?_) (fun _ _ h => h.elim) fun e ν' h => ⟨h.1, hν.trans h.2⟩
    rw [okSx_seq]
    refine okSx_expr ?_
    have e : (dCons (dV 3) (dCons (dB1 bLen (dV 1)) dNil)) ⟨callF Φ fu (n + 2), fu⟩ ρ ν' = .ok [z, .int (m : Int)] ν' := run_cons (run_var h.h3) (run_cons (by rw [← g2]; exact run_len (run_var h.h1) (pre_get h.p ga)) rfl)
    rw [dCall, e, R.bind_ok]
    exact okx_no (need_places_no (n := n) (h''.mono (hν.trans h.p))) fun e ν'' q => ⟨q.1, (hν.trans h.p).trans q.2⟩

theorem okS_try {c : Cx} {ρ : Fr} {μ : Mem} {h : Nat → Option Bool} {body : DS} {Q : Fr → Mem → Prop} {T : V → Mem → Prop} (k : okSx (body c ρ μ) (fun _ _ => False) (fun _ _ => False) (fun e ν => ∃ b, h e = some b ∧ T (.bool b) ν)) : okS (sTryIsi h body c ρ μ) Q T := by
  simp only [sTryIsi]
  cases hb : body c ρ μ with
  | next => rw [hb] at k; exact k.elim
  | ret => rw [hb] at k; exact k.elim
  | bad => rw [hb] at k; exact k.elim
  | exc e ρ' ν =>
    rw [hb] at k
    obtain ⟨b, h1, h2⟩ := k
    simp only [h1]; exact h2
noncomputable def Bad3 (μ : Mem) (v : V) : Prop := ∃ a x y z, v = .ref a ∧ 1 ≤ a ∧ μ[a]? = some (.list [x, y, z]) ∧ Ref3 μ x y z
theorem refused_ok {fu n : Nat} {μ : Mem} {v : V} (h : Bad3 μ v) : ok (callF Φ fu (n + 4) 9 [v] μ) fun v μ' => v = .bool true ∧ μ <+: μ' := by
  obtain ⟨a, x, y, z, rfl, _, ha, h3⟩ := h
  have hl : ([x, y, z] : List V).length ≤ lim := by show 3 ≤ lim; decide
  refine ok_call rfl rfl ?_
  dsimp only [d__law_refused]
  rw [okS_seq]
  refine okS_try ?_
  rw [okSx_seq]
  refine okSx_expr ?_
  have i0 : item μ (.ref a) (.int 0) = .ok x μ := item_list (i := 0) ha rfl hl
  have i1 : item μ (.ref a) (.int 1) = .ok y μ := item_list (i := 1) ha rfl hl
  have i2 : item μ (.ref a) (.int 2) = .ok z μ := item_list (i := 2) ha rfl hl
  have e : (dCons (dIdx (dV 0) (dC (.int 0))) (dCons (dIdx (dV 0) (dC (.int 1))) (dCons (dIdx (dV 0) (dC (.int 2))) (dNil)))) ⟨callF Φ fu (n + 3), fu⟩ (fun i => [V.ref a][i]?) μ = .ok [x, y, z] μ := by
    have q0 : dIdx (dV 0) (dC (.int 0)) ⟨callF Φ fu (n + 3), fu⟩ (fun i => [V.ref a][i]?) μ = .ok x μ := i0
    have q1 : dIdx (dV 0) (dC (.int 1)) ⟨callF Φ fu (n + 3), fu⟩ (fun i => [V.ref a][i]?) μ = .ok y μ := i1
    have q2 : dIdx (dV 0) (dC (.int 2)) ⟨callF Φ fu (n + 3), fu⟩ (fun i => [V.ref a][i]?) μ = .ok z μ := i2
    exact run_cons q0 (run_cons q1 (run_cons q2 rfl))
  rw [dNew, e, R.bind_ok]
  have pn : μ <+: μ ++ [O.ns []] ++ [O.inst 0 μ.length] := (pre_new _ _).trans (pre_new _ _)
  have h := init_no (fu := fu) (n := n) (s := μ.length + 1) (h3.mono pn)
  show okx ((callF Φ fu (n + 3) 12 [.ref (μ.length + 1), x, y, z] (μ ++ [O.ns []] ++ [O.inst 0 μ.length])).bind _) _ _
  cases hc : callF Φ fu (n + 3) 12 [.ref (μ.length + 1), x, y, z] (μ ++ [O.ns []] ++ [O.inst 0 μ.length]) with
  | ok v ν => rw [hc] at h; exact h.elim
  | exc k ν =>
    rw [hc] at h
    obtain ⟨rfl, h2⟩ := h
    exact ⟨true, rfl, rfl, pn.trans h2⟩
  | bad => rw [hc] at h; exact h.elim
end
end Mine.L02
end
section
set_option autoImplicit false
set_option backward.eqns.nonrecursive false
set_option maxRecDepth 10000
set_option linter.unusedSimpArgs false
set_option linter.unusedVariables false
namespace Mine.L02
noncomputable section
open PySem

noncomputable abbrev Pr := Mem → V → Prop
noncomputable def Mo (p : Pr) : Prop := ∀ μ μ' v, μ <+: μ' → p μ v → p μ' v
noncomputable def LO (p : Pr) (n : Nat) : Pr := fun μ v => ∃ a vs, v = .ref a ∧ 1 ≤ a ∧ μ[a]? = some (.list vs) ∧ vs.length ≤ n ∧ ∀ x ∈ vs, p μ x
noncomputable def LX (p : Pr) (n : Nat) : Pr := fun μ v => ∃ a vs, v = .ref a ∧ 1 ≤ a ∧ μ[a]? = some (.list vs) ∧ vs.length = n ∧ ∀ x ∈ vs, p μ x
theorem Mo.thing : Mo Thing := fun μ μ' v k h => h.mono k
theorem Mo.lo {p : Pr} {n : Nat} (hp : Mo p) : Mo (LO p n) := fun μ μ' v k ⟨a, vs, h1, h2, h3, h4, h5⟩ => ⟨a, vs, h1, h2, pre_get k h3, h4, fun x hx => hp _ _ _ k (h5 x hx)⟩
theorem Mo.lx {p : Pr} {n : Nat} (hp : Mo p) : Mo (LX p n) := fun μ μ' v k ⟨a, vs, h1, h2, h3, h4, h5⟩ => ⟨a, vs, h1, h2, pre_get k h3, h4, fun x hx => hp _ _ _ k (h5 x hx)⟩
noncomputable def EvP (c : Cx) (ρ : Fr) (μ0 : Mem) (p : Pr) (d : DE) : Prop := ∀ μ, μ0 <+: μ → ok (d c ρ μ) fun v μ' => p μ' v ∧ μ <+: μ'
noncomputable def EvL (c : Cx) (ρ : Fr) (μ0 : Mem) (p : Pr) (k : Nat) (d : DL) : Prop := ∀ μ, μ0 <+: μ → ok (d c ρ μ) fun vs μ' => (vs.length = k ∧ ∀ x ∈ vs, p μ' x) ∧ μ <+: μ'
section
variable {c : Cx} {ρ : Fr} {μ0 : Mem} {p q : Pr}
theorem EvP.mono {d : DE} (h : EvP c ρ μ0 p d) (k : ∀ μ v, p μ v → q μ v) : EvP c ρ μ0 q d := fun μ hμ => ok_mono (h μ hμ) fun v μ' ⟨h1, h2⟩ => ⟨k _ _ h1, h2⟩
theorem EvP.later {d : DE} {μ1 : Mem} (h : EvP c ρ μ0 p d) (k : μ0 <+: μ1) : EvP c ρ μ1 p d := fun μ hμ => h μ (k.trans hμ)
theorem EvP.var {i : Nat} {v : V} (hp : Mo p) (hi : ρ i = some v) (h : p μ0 v) : EvP c ρ μ0 p (dV i) := fun μ hμ => by
  rw [run_var hi]; exact ⟨hp _ _ _ hμ h, List.prefix_refl _⟩
theorem EvP.con {v : V} (h : ∀ μ, p μ v) : EvP c ρ μ0 p (dC v) := fun μ _ => ⟨h μ, List.prefix_refl _⟩
theorem EvL.nil : EvL c ρ μ0 p 0 dNil := fun μ _ => ⟨⟨rfl, fun _ h => by cases h⟩, List.prefix_refl _⟩
theorem EvL.cons {d : DE} {ds : DL} {k : Nat} (hp : Mo p) (h : EvP c ρ μ0 p d) (hs : EvL c ρ μ0 p k ds) : EvL c ρ μ0 p (k + 1) (dCons d ds) := fun μ hμ => by
  rw [ok_dCons]
  refine ok_mono (h μ hμ) fun v μ1 ⟨h1, h2⟩ => ok_mono (hs μ1 (hμ.trans h2)) fun vs μ2 ⟨⟨h3, h4⟩, h5⟩ => ⟨⟨by simp [h3], fun x hx => ?_⟩, h2.trans h5⟩
  rcases List.mem_cons.mp hx with rfl | hx
  · exact hp _ _ _ h5 h1
  · exact h4 x hx
theorem EvP.lst {ds : DL} {k : Nat} (hp : Mo p) (h0 : 1 ≤ μ0.length) (hs : EvL c ρ μ0 p k ds) (hk : k ≤ 1000) : EvP c ρ μ0 (LX p k) (dLst ds) := fun μ hμ => by
  rw [ok_dLst]
  refine ok_mono (hs μ hμ) fun vs μ1 ⟨⟨h3, h4⟩, h5⟩ => ?_
  rw [ok_newL]
  have pn := pre_new μ1 (O.list vs)
  exact ⟨lk (by omega), ⟨_, vs, rfl, by have := pre_len hμ; have := pre_len h5; omega, new_get _ _, h3, fun x hx => hp _ _ _ pn (h4 x hx)⟩, h5.trans pn⟩
theorem LX.lo {n : Nat} {μ : Mem} {v : V} (h : LX p n μ v) : LO p n μ v := let ⟨a, vs, h1, h2, h3, h4, h5⟩ := h; ⟨a, vs, h1, h2, h3, by omega, h5⟩
theorem EvP.addX {d e : DE} {j k : Nat} (hp : Mo p) (h : EvP c ρ μ0 (LX p j) d) (h' : EvP c ρ μ0 (LX p k) e) (hl : j + k ≤ 1000) (h0 : 1 ≤ μ0.length) : EvP c ρ μ0 (LX p (j + k)) (dBin opAdd d e) := fun μ hμ => by
  rw [ok_dBin]
  refine ok_mono (h μ hμ) fun v μ1 ⟨h1, h2⟩ => ok_mono (h' μ1 (hμ.trans h2)) fun u μ2 ⟨h3, h4⟩ => ?_
  obtain ⟨a, vs, rfl, a1, a2, a3, a4⟩ := hp.lx _ _ _ h4 h1
  obtain ⟨b, us, rfl, b1, b2, b3, b4⟩ := h3
  rw [add_list a2 b2, ok_newL]
  have pn := pre_new μ2 (O.list (vs ++ us))
  refine ⟨lk (by simp; omega), ⟨_, _, rfl, by have := pre_len hμ; have := pre_len h2; have := pre_len h4; omega, new_get _ _, by simp; omega, fun x hx => ?_⟩, (h2.trans h4).trans pn⟩
  rcases List.mem_append.mp hx with q | q
  · exact hp _ _ _ pn (a4 x q)
  · exact hp _ _ _ pn (b4 x q)
theorem cut_sub {α : Type} {lo hi : Option Int} {xs : List α} : ∀ x ∈ cut lo hi xs, x ∈ xs := fun x hx => List.mem_of_mem_drop (List.mem_of_mem_take hx)
theorem cut_len {α : Type} {lo hi : Option Int} {xs : List α} : (cut lo hi xs).length ≤ xs.length := by simp only [cut, List.length_take, List.length_drop]; omega
noncomputable def EvO (c : Cx) (ρ : Fr) (μ0 : Mem) (o : DO) : Prop := ∃ l, ∀ μ, μ0 <+: μ → o c ρ μ = .ok l μ
theorem EvO.none : EvO c ρ μ0 oNone := ⟨_, fun _ _ => rfl⟩
theorem EvO.some {d : DE} {i : Int} (h : ∀ μ, μ0 <+: μ → d c ρ μ = .ok (.int i) μ) : EvO c ρ μ0 (oSome d) := ⟨_, fun μ hμ => by rw [oSome, h μ hμ]; rfl⟩
theorem EvP.slc {d : DE} {lo hi : DO} {j : Nat} (hp : Mo p) (h : EvP c ρ μ0 (LO p j) d) (h1 : EvO c ρ μ0 lo) (h2 : EvO c ρ μ0 hi) (hj : j ≤ 1000) (h0 : 1 ≤ μ0.length) : EvP c ρ μ0 (LO p j) (dSlc d lo hi) := fun μ hμ => by
  obtain ⟨l, hl⟩ := h1
  obtain ⟨u, hu⟩ := h2
  rw [ok_dSlc]
  refine ok_mono (h μ hμ) fun v μ1 ⟨g1, g2⟩ => ?_
  rw [hl μ1 (hμ.trans g2), ok_ok, hu μ1 (hμ.trans g2), ok_ok]
  obtain ⟨a, vs, rfl, a1, a2, a3, a4⟩ := g1
  rw [slc_list a2, ok_newL]
  have pn := pre_new μ1 (O.list (cut l u vs))
  have := cut_len (lo := l) (hi := u) (xs := vs)
  exact ⟨lk (by omega), ⟨_, _, rfl, by have := pre_len hμ; have := pre_len g2; omega, new_get _ _, by omega, fun x hx => hp _ _ _ pn (a4 x (cut_sub x hx))⟩, g2.trans pn⟩
theorem EvP.idx {d e : DE} {n i : Nat} (h : EvP c ρ μ0 (LX p n) d) (hi : ∀ μ, μ0 <+: μ → e c ρ μ = .ok (.int (i : Int)) μ) (hn : i < n) (hn' : n ≤ 1000) : EvP c ρ μ0 p (dIdx d e) := fun μ hμ => by
  rw [ok_dIdx]
  refine ok_mono (h μ hμ) fun v μ1 ⟨g1, g2⟩ => ?_
  obtain ⟨a, vs, rfl, a1, a2, a3, a4⟩ := g1
  rw [hi μ1 (hμ.trans g2), ok_ok, item_list a2 (List.getElem?_eq_getElem (by omega)) (lk (by omega))]
  exact ⟨a4 _ (List.getElem_mem _), g2⟩
end
theorem thing_at {v : V} (h : ∀ a, v ≠ .ref a) (μ : Mem) : Thing μ v := fun a e => absurd e (h a)
theorem LO.thing {p : Pr} {n : Nat} {μ : Mem} {v : V} (h : LO p n μ v) : Thing μ v := by
  obtain ⟨a, vs, rfl, _, h3, _⟩ := h
  intro b e
  cases e
  exact ⟨vs, h3⟩


noncomputable def IsL (xs : List V) : Pr := fun μ v => ∃ a, v = .ref a ∧ 1 ≤ a ∧ μ[a]? = some (.list xs)
noncomputable def Odd (m : Nat) : Pr := fun μ v => Thing μ v ∧ goodV m v = false
noncomputable def Tru : Pr := fun _ _ => True
theorem Mo.isl {xs : List V} : Mo (IsL xs) := fun μ μ' v k ⟨a, h1, h2, h3⟩ => ⟨a, h1, h2, pre_get k h3⟩
theorem Mo.odd {m : Nat} : Mo (Odd m) := fun μ μ' v k h => ⟨h.1.mono k, h.2⟩
theorem Mo.tru : Mo Tru := fun _ _ _ _ _ => trivial
theorem Mo.norow {m : Nat} : Mo (fun μ v => NoRow μ m v) := fun _ _ _ k h => h.mono k
theorem Mo.nomk : Mo NoMk := fun _ _ _ k h => h.mono k
theorem Mo.nomarks : Mo NoMarks := fun _ _ _ k h => h.mono k
theorem Mo.noways {m : Nat} : Mo (fun μ v => NoWays μ m v) := fun _ _ _ k h => h.mono k
theorem Mo.marks {m : Nat} : Mo (Marks m) := fun _ _ _ k h => h.mono k
theorem Mo.ways {m : Nat} : Mo (Ways m) := fun _ _ _ k h => h.mono k
theorem Mo.nl : Mo NL := fun _ _ _ k h => isT_mono h k
theorem Mo.bad3 : Mo Bad3 := fun _ _ _ k ⟨a, x, y, z, h1, h2, h3, h4⟩ => ⟨a, x, y, z, h1, h2, pre_get k h3, h4.mono k⟩
section
variable {c : Cx} {ρ : Fr} {μ0 : Mem} {p q r : Pr}
theorem EvP.tru {d : DE} (h : EvP c ρ μ0 p d) : EvP c ρ μ0 Tru d := h.mono fun _ _ _ => trivial
theorem EvP.tri {d1 d2 d3 : DE} (hp : Mo p) (hq : Mo q) (h0 : 1 ≤ μ0.length) (h1 : EvP c ρ μ0 p d1) (h2 : EvP c ρ μ0 q d2) (h3 : EvP c ρ μ0 r d3) (k : ∀ μ x y z, p μ x → q μ y → r μ z → Ref3 μ x y z) : EvP c ρ μ0 Bad3 (dLst (dCons d1 (dCons d2 (dCons d3 dNil)))) := fun μ hμ => by
  rw [ok_dLst, ok_dCons]
  refine ok_mono (h1 μ hμ) fun x μ1 ⟨g1, k1⟩ => ?_
  rw [ok_dCons]
  refine ok_mono (h2 μ1 (hμ.trans k1)) fun y μ2 ⟨g2, k2⟩ => ?_
  rw [ok_dCons]
  refine ok_mono (h3 μ2 ((hμ.trans k1).trans k2)) fun z μ3 ⟨g3, k3⟩ => ?_
  rw [ok_dNil, ok_newL]
  have pn := pre_new μ3 (O.list [x, y, z])
  refine ⟨by show 3 ≤ lim; decide, ⟨_, x, y, z, rfl, by have := pre_len hμ; have := pre_len k1; have := pre_len k2; have := pre_len k3; omega, new_get _ _, (k _ _ _ _ (hp _ _ _ (k2.trans k3) g1) (hq _ _ _ k3 g2) g3).mono pn⟩, ((k1.trans k2).trans k3).trans pn⟩
theorem EvP.nil (h0 : 1 ≤ μ0.length) : EvP c ρ μ0 (IsL []) (dLst dNil) := fun μ hμ => by
  rw [ok_dLst, ok_dNil, ok_newL]
  exact ⟨by decide, ⟨_, rfl, by have := pre_len hμ; omega, new_get _ _⟩, pre_new _ _⟩
theorem EvP.one {i : Nat} {v : V} (h0 : 1 ≤ μ0.length) (hi : ρ i = some v) : EvP c ρ μ0 (IsL [v]) (dLst (dCons (dV i) dNil)) := fun μ hμ => by
  rw [ok_dLst, ok_dCons, run_var hi, ok_ok, ok_dNil, ok_newL]
  exact ⟨by show 1 ≤ lim; decide, ⟨_, rfl, by have := pre_len hμ; omega, new_get _ _⟩, pre_new _ _⟩
theorem EvP.addI {d e : DE} {xs ys : List V} (h0 : 1 ≤ μ0.length) (h : EvP c ρ μ0 (IsL xs) d) (h' : EvP c ρ μ0 (IsL ys) e) (hl : (xs ++ ys).length ≤ 1000) : EvP c ρ μ0 (IsL (xs ++ ys)) (dBin opAdd d e) := fun μ hμ => by
  rw [ok_dBin]
  refine ok_mono (h μ hμ) fun v μ1 ⟨h1, h2⟩ => ok_mono (h' μ1 (hμ.trans h2)) fun u μ2 ⟨h3, h4⟩ => ?_
  obtain ⟨a, rfl, a1, a2⟩ := Mo.isl _ _ _ h4 h1
  obtain ⟨b, rfl, b1, b2⟩ := h3
  rw [add_list a2 b2, ok_newL]
  exact ⟨lk hl, ⟨_, rfl, by have := pre_len hμ; have := pre_len h2; have := pre_len h4; omega, new_get _ _⟩, (h2.trans h4).trans (pre_new _ _)⟩
theorem EvP.slcI {d : DE} {lo hi : DO} {l u : Option Int} {xs ys : List V} (h0 : 1 ≤ μ0.length) (h : EvP c ρ μ0 (IsL xs) d) (h1 : ∀ μ, lo c ρ μ = .ok l μ) (h2 : ∀ μ, hi c ρ μ = .ok u μ) (hy : cut l u xs = ys) (hl : ys.length ≤ 1000) : EvP c ρ μ0 (IsL ys) (dSlc d lo hi) := fun μ hμ => by
  rw [ok_dSlc]
  refine ok_mono (h μ hμ) fun v μ1 ⟨g1, g2⟩ => ?_
  rw [h1, ok_ok, h2, ok_ok]
  obtain ⟨a, rfl, a1, a2⟩ := g1
  rw [slc_list a2, hy, ok_newL]
  exact ⟨lk hl, ⟨_, rfl, by have := pre_len hμ; have := pre_len g2; omega, new_get _ _⟩, g2.trans (pre_new _ _)⟩
theorem EvP.tupI {d : DE} {xs : List V} (h : EvP c ρ μ0 (IsL xs) d) (hl : xs.length ≤ 1000) : EvP c ρ μ0 NL (dB1 bTuple d) := fun μ hμ => by
  rw [ok_dB1]
  refine ok_mono (h μ hμ) fun v μ1 ⟨g1, g2⟩ => ?_
  obtain ⟨a, rfl, a1, a2⟩ := g1
  simp only [bTuple, a2]
  rw [ok_newT]
  exact ⟨lk hl, rfl, g2⟩
theorem EvP.rep {d : DE} {k j : Nat} (hp : Mo p) (h0 : 1 ≤ μ0.length) (h : EvP c ρ μ0 (LX p k) d) (hk : k ≤ 10) (hj : j ≤ 20) : EvP c ρ μ0 (LX p (j * k)) (dBin opRep d (dC (.int (j : Int)))) := fun μ hμ => by
  rw [ok_dBin]
  refine ok_mono (h μ hμ) fun v μ1 ⟨h1, h2⟩ => ?_
  obtain ⟨a, vs, rfl, a1, a2, a3, a4⟩ := h1
  rw [ok_dC]
  have hc : (0 : Int) ≤ (j : Int) ∧ (j : Int) ≤ 100 ∧ vs.length ≤ 1000 := by omega
  have hlen : (List.replicate j vs).flatten.length = j * k := by rw [List.length_flatten, List.map_replicate, a3]; simp
  have : j * k ≤ 20 * 10 := Nat.mul_le_mul hj hk
  simp only [opRep, a2, hc, and_self, if_true, Int.toNat_natCast]
  rw [ok_newL]
  have pn := pre_new μ1 (O.list (List.replicate j vs).flatten)
  refine ⟨lk (by omega), ⟨_, _, rfl, by have := pre_len hμ; have := pre_len h2; omega, new_get _ _, hlen, fun x hx => hp _ _ _ pn ?_⟩, h2.trans pn⟩
  obtain ⟨l, hl, hx⟩ := List.mem_flatten.mp hx
  rw [(List.mem_replicate.mp hl).2] at hx
  exact a4 x hx
theorem ok_compM {chk : Mem → Bool} {bd : Bd} {elt : DE} (hq : Mo q) (hc : ∀ ν, μ0 <+: ν → chk ν = true) : ∀ (items acc : List V) (μ : Mem), μ0 <+: μ → acc.length + items.length ≤ lim → (∀ x ∈ acc, q μ x) → (∀ v ∈ items, ∃ ρ', bd v ρ = some ρ' ∧ EvP c ρ' μ0 q elt) →
    ok (compS chk bd tTrue elt c ρ items μ acc) fun xs ν => xs.length = acc.length + items.length ∧ (∀ x ∈ xs, q ν x) ∧ μ <+: ν
  | [], acc, μ, hi, _, ha, _ => ok_comp_nil (hc μ hi) ⟨rfl, ha, List.prefix_refl _⟩
  | v :: r, acc, μ, hi, hl, ha, he => by
    obtain ⟨ρ', h1, h2⟩ := he v List.mem_cons_self
    simp only [List.length_cons] at hl
    refine ok_comp_cons (hc μ hi) h1 (ok_mono (h2 μ hi) fun x μ' ⟨g1, g2⟩ => ⟨by omega, ?_⟩)
    refine ok_mono (ok_compM hq hc r (acc ++ [x]) μ' (hi.trans g2) (by simp; omega) (fun y hy => ?_) fun u hu => he u (List.mem_cons_of_mem _ hu)) fun xs ν ⟨k1, k2, k3⟩ => ⟨by simp at k1 ⊢; omega, k2, g2.trans k3⟩
    rcases List.mem_append.mp hy with hy | hy
    · exact hq _ _ _ g2 (ha y hy)
    · rw [List.mem_singleton.mp hy]; exact g1
theorem EvP.comp {i j k : Nat} {elt : DE} {v : V} (hp : Mo p) (hq : Mo q) (h0 : 1 ≤ μ0.length) (hi : ρ i = some v) (hj : ρ j = none) (hv : LX p k μ0 v) (hk : k ≤ 1000) (he : ∀ x, p μ0 x → EvP c (ρ.set j x) μ0 q elt) : EvP c ρ μ0 (LX q k) (dComp [j] (iSeq (dV i)) (cb1 j) tTrue elt) := fun μ hμ => by
  obtain ⟨a, vs, rfl, a1, a2, a3, a4⟩ := hv
  rw [ok_dComp, ok_iSeq, run_var hi, ok_ok]
  simp only [pre_get hμ a2]
  have : lim = 1000000 := rfl
  refine ⟨by simp [hj], ok_mono (ok_compM (μ0 := μ) hq (fun ν hν => by simp [pre_get (hμ.trans hν) a2]) vs [] μ (List.prefix_refl _) (by simp; omega) (fun _ h => by cases h) fun x hx => ⟨_, cb1_none hj, (he x (a4 x hx)).later hμ⟩) fun xs ν ⟨k1, k2, k3⟩ => ?_⟩
  rw [ok_newL]
  simp only [List.length_nil, Nat.zero_add] at k1
  have pn := pre_new ν (O.list xs)
  exact ⟨by omega, ⟨_, xs, rfl, by have := pre_len hμ; have := pre_len k3; omega, new_get _ _, by omega, fun x hx => hq _ _ _ pn (k2 x hx)⟩, k3.trans pn⟩
end
end
end Mine.L02
end
section
set_option autoImplicit false
set_option backward.eqns.nonrecursive false
set_option maxRecDepth 10000
set_option linter.unusedSimpArgs false
set_option linter.unusedVariables false
namespace Mine.L02
noncomputable section
open PySem

structure WrI (cell : Int) (a b d m at' : Nat) (ov : V) (ρ : Fr) : Prop where
  h0 : ρ 0 = some (.int cell)
  h1 : ρ 1 = some (.ref a)
  h2 : ρ 2 = some (.ref b)
  h3 : ρ 3 = some (.ref d)
  h4 : ρ 4 = some (.int (m : Int))
  h5 : ρ 5 = some (.int (at' : Int))
  h6 : ρ 6 = some ov
theorem WrI.set {cell : Int} {a b d m at' : Nat} {ov : V} {ρ : Fr} (h : WrI cell a b d m at' ov ρ) {i : Nat} {v : V} (hi : 6 < i) : WrI cell a b d m at' ov (ρ.set i v) := by
  obtain ⟨h0, h1, h2, h3, h4, h5, h6⟩ := h
  refine ⟨?_, ?_, ?_, ?_, ?_, ?_, ?_⟩ <;> rw [set_apply, if_neg (by omega)] <;> assumption
theorem norow_emp {m : Nat} {μ : Mem} {v : V} (h : IsL [] μ v) : NoRow μ m v := let ⟨a, h1, _, h3⟩ := h; h1 ▸ .emp h3
theorem norow_odd {m : Nat} {μ : Mem} {v ov : V} {ps : List Nat} (h : IsL (nts ps ++ [ov]) μ v) (hp : ∀ p ∈ ps, p < m) (hn : ps.Nodup) (hl : ps.length ≤ 100) (ho : Odd m μ ov) : NoRow μ m v := by
  obtain ⟨a, rfl, _, h3⟩ := h
  exact .at h3 (by simp [nts]; omega) hn hp (.odd ho.1 ho.2)
theorem norow_twice {m : Nat} {μ : Mem} {v : V} {ps : List Nat} (h : IsL (nts ps ++ nts (ps.take 1)) μ v) (hR : Row m ps) (hl : ps.length ≤ 100) : NoRow μ m v := by
  obtain ⟨a, rfl, _, h3⟩ := h
  obtain ⟨p, qs, rfl⟩ : ∃ p qs, ps = p :: qs := by cases ps with | nil => exact absurd rfl hR.ne | cons p qs => exact ⟨p, qs, rfl⟩
  refine .at (qs := p :: qs) (v := .int (p : Int)) (rest := []) h3 (by simp [nts] at hl ⊢; omega) hR.nd hR.lt (.twice (hR.lt p List.mem_cons_self) List.mem_cons_self)
theorem odd_of {m : Nat} {μ : Mem} {v : V} (h : ∀ a, v ≠ .ref a) (hg : goodV m v = false) : Odd m μ v := ⟨thing_at h μ, hg⟩
theorem rows_take {μ : Mem} {m : Nat} {rs : List Nat} {pss : List (List Nat)} (h : Rows μ m rs pss) : ∀ k, Rows μ m (rs.take k) (pss.take k) := by
  induction h with
  | nil => intro k; cases k <;> exact .nil
  | cons h1 h2 h3 _ ih => intro k; cases k with
    | zero => exact .nil
    | succ k => exact .cons h1 h2 h3 (ih k)
theorem cut_neg1 {α : Type} {xs : List α} (h : 0 < xs.length) : (cut none (some (-1)) xs).length = xs.length - 1 := by
  simp only [cut, Option.elim, List.drop_zero, List.length_take]
  have : clipAt xs.length (-1) = xs.length - 1 := by simp only [clipAt]; split <;> omega
  rw [this]; omega

theorem wrong_ok {fu n : Nat} {μ : Mem} {cell : Int} {m a b d : Nat} {mk : List V} {rs : List Nat} {pss : List (List Nat)} {bs : List Nat} (M : Mach μ m a b d mk rs pss bs) :
    ok (callF Φ fu (n + 1) 8 [.int cell, .ref a, .ref b, .ref d] μ) fun v μ' => Bad3 μ' v ∧ μ <+: μ' := by
  have hlim' : lim = 1000000 := rfl
  obtain ⟨m0, m12, a1, b1, d1, ga, gb, gd, la, lb, mks, rows, rd⟩ := id M
  have lrs : rs.length = m := by rw [rows.len, lb]
  have lbs := rd.len
  have pos : 1 ≤ μ.length := by have := (List.getElem?_eq_some_iff.mp ga).1; omega
  refine ok_call rfl rfl ?_
  dsimp only [d__law_wrong]
  have d28 := fun ν => div_k (μ := ν) (a := cell) (n := 28) (by decide) (by decide)
  have d400 := fun ν => div_k (μ := ν) (a := cell) (n := 400) (by decide) (by decide)
  rw [show ((28 : Nat) : Int) = (28 : Int) from rfl] at d28
  rw [show ((400 : Nat) : Int) = (400 : Int) from rfl] at d400
  obtain ⟨at', hat, hat'⟩ := modk (μ := μ) (a := cell.fdiv 28) (n := m) m0
  obtain ⟨ps, hps⟩ : ∃ ps, pss[at']? = some ps := ⟨_, List.getElem?_eq_getElem (by omega)⟩
  obtain ⟨r, hr, r1, gr, rr⟩ := rows.get hps
  have lps := rr.len
  refine step_run (run_len (run_var rfl) ga) ?_
  rw [la]
  refine step_run (run_bin (run_bin (run_var rfl) rfl (d28 μ)) (run_var rfl) hat) ?_
  -- odd
  obtain ⟨o7, ho7, ho7'⟩ : ∃ k : Nat, (∀ ν, opMod (.int (cell.fdiv 400)) (.int 7) ν = .ok (.int (k : Int)) ν) ∧ k < 7 := by
    obtain ⟨k, h1, h2⟩ := fmod_nat (a := cell.fdiv 400) (n := 7) (by decide)
    refine ⟨k, fun ν => ?_, h2⟩
    simp only [opMod, opInt]
    rw [if_neg (by decide)]
    exact congrArg (fun z => R.ok (V.int z) ν) h1
  obtain ⟨o28, ho28, ho28'⟩ : ∃ k : Nat, (∀ ν, opMod (.int cell) (.int 28) ν = .ok (.int (k : Int)) ν) ∧ k < 28 := by
    obtain ⟨k, h1, h2⟩ := fmod_nat (a := cell) (n := 28) (by decide)
    refine ⟨k, fun ν => ?_, h2⟩
    simp only [opMod, opInt]
    rw [if_neg (by decide)]
    exact congrArg (fun z => R.ok (V.int z) ν) h1
  refine step_set ?_
  have odd : ∀ c ρ, ρ 0 = some (.int cell) → ρ 4 = some (.int (m : Int)) → EvP c ρ μ (Odd m) (dIdx (dLst (dCons (dUn opNeg (dC (.int 1))) (dCons (dV 4) (dCons (dC (.bool true)) (dCons (dC .none) (dCons (dC (.str (Str.ofString "0"))) (dCons (dLst (dCons (dC (.int 0)) (dNil))) (dCons (dBin opPow (dC (.int 10)) (dC (.int 20))) (dNil))))))))) (dBin opMod (dBin opDiv (dV 0) (dC (.int 400))) (dC (.int 7)))) := fun c ρ h0 h4 =>
    EvP.idx (n := 7) (i := o7) (EvP.lst Mo.odd pos (EvL.cons Mo.odd (fun ν _ => ⟨odd_of (fun a => by simp) rfl, List.prefix_refl _⟩)
      (EvL.cons Mo.odd (EvP.var Mo.odd h4 (odd_of (fun a => by simp) (by rw [good_nat]; simp)))
      (EvL.cons Mo.odd (EvP.con fun _ => odd_of (fun a => by simp) rfl) (EvL.cons Mo.odd (EvP.con fun _ => odd_of (fun a => by simp) rfl) (EvL.cons Mo.odd (EvP.con fun _ => odd_of (fun a => by simp) rfl)
      (EvL.cons Mo.odd ((EvP.lst (p := Tru) Mo.tru pos (EvL.cons Mo.tru (EvP.con fun _ => trivial) EvL.nil) (by decide)).mono fun _ v h => ⟨h.lo.thing, by obtain ⟨a, vs, rfl, _⟩ := h; rfl⟩)
      (EvL.cons Mo.odd (fun ν _ => ok_run (a := .int 100000000000000000000) (μ' := ν) (by simp [dBin, dC, R.bind, opPow, opInt]) ⟨odd_of (fun a => by simp) (by simp only [goodV, Bool.and_eq_false_iff, decide_eq_false_iff_not]; omega), List.prefix_refl _⟩) EvL.nil))))))) (by decide)) (fun ν _ => run_bin (run_bin (run_var h0) rfl (d400 ν)) rfl (ho7 ν)) ho7' (by decide)
  refine ok_mono (odd _ _ rfl rfl μ (List.prefix_refl _)) fun ov μ1 ⟨hov, p1⟩ => ?_
  have B : WrI cell a b d m at' ov ((((Fr.set (fun i => [V.int cell, V.ref a, V.ref b, V.ref d][i]?) 4 (.int (m : Int))).set 5 (.int (at' : Int)))).set 6 ov) := ⟨rfl, rfl, rfl, rfl, rfl, rfl, rfl⟩
  have n10 : ∀ i, 6 < i → ((((Fr.set (fun i => [V.int cell, V.ref a, V.ref b, V.ref d][i]?) 4 (.int (m : Int))).set 5 (.int (at' : Int)))).set 6 ov) i = none := fun i hi => by
    rw [set_apply, if_neg (by omega), set_apply, if_neg (by omega), set_apply, if_neg (by omega)]
    match i, hi with
    | i + 4, _ => rfl
  generalize (((Fr.set (fun i => [V.int cell, V.ref a, V.ref b, V.ref d][i]?) 4 (.int (m : Int))).set 5 (.int (at' : Int)))).set 6 ov = ρ at B n10
  have pos1 : 1 ≤ μ1.length := Nat.le_trans pos (pre_len p1)
  -- the parts, from any frame like this on
  have eM : ∀ c ρ, WrI cell a b d m at' ov ρ → EvP c ρ μ1 (IsL mk) (dV 1) := fun c ρ B => EvP.var Mo.isl B.h1 ⟨a, rfl, a1, pre_get p1 ga⟩
  have eW : ∀ c ρ, WrI cell a b d m at' ov ρ → EvP c ρ μ1 (IsL (refs rs)) (dV 2) := fun c ρ B => EvP.var Mo.isl B.h2 ⟨b, rfl, b1, pre_get p1 gb⟩
  have eB : ∀ c ρ, WrI cell a b d m at' ov ρ → EvP c ρ μ1 (IsL (nts bs)) (dV 3) := fun c ρ B => EvP.var Mo.isl B.h3 ⟨d, rfl, d1, pre_get p1 gd⟩
  have pM : ∀ c ρ, WrI cell a b d m at' ov ρ → EvP c ρ μ1 (Marks m) (dV 1) := fun c ρ B => EvP.var Mo.marks B.h1 ⟨a, mk, rfl, a1, pre_get p1 ga, la, m0, m12, mks⟩
  have pW : ∀ c ρ, WrI cell a b d m at' ov ρ → EvP c ρ μ1 (Ways m) (dV 2) := fun c ρ B => EvP.var Mo.ways B.h2 ⟨b, rs, pss, rfl, b1, pre_get p1 gb, rows.pre p1, lrs⟩
  have eO : ∀ c ρ, WrI cell a b d m at' ov ρ → EvP c ρ μ1 (IsL [ov]) (dLst (dCons (dV 6) dNil)) := fun c ρ B => EvP.one pos1 B.h6
  have eR : ∀ c ρ, WrI cell a b d m at' ov ρ → EvP c ρ μ1 (IsL (nts ps)) (dIdx (dV 2) (dV 5)) := fun c ρ B ν hν => by
    rw [ok_dIdx, run_var B.h2, ok_ok, run_var B.h5, ok_ok, item_list (xs := refs rs) (i := at') (v := .ref r) (pre_get (p1.trans hν) gb) (by simp [refs, hr]) (lk (by simp [refs]; omega))]
    exact ⟨⟨r, rfl, r1, pre_get (p1.trans hν) gr⟩, List.prefix_refl _⟩
  have e1 : ∀ c ρ, WrI cell a b d m at' ov ρ → ∀ μ, (oSome (dC (.int 1))) c ρ μ = .ok (some ((1 : Nat) : Int)) μ := fun c ρ B μ => rfl
  have eA : ∀ c ρ, WrI cell a b d m at' ov ρ → ∀ μ, (oSome (dV 5)) c ρ μ = .ok (some (at' : Int)) μ := fun c ρ B μ => by rw [oSome, run_var B.h5]; rfl
  have eA1 : ∀ c ρ, WrI cell a b d m at' ov ρ → ∀ μ, (oSome (dBin opAdd (dV 5) (dC (.int 1)))) c ρ μ = .ok (some ((at' + 1 : Nat) : Int)) μ := fun c ρ B μ => by rw [oSome, run_bin (run_var B.h5) (b := .int 1) rfl add_int]; rfl
  have odd1 : Odd m μ1 ov := hov
  -- rows that are none
  have z1 : ∀ c ρ, WrI cell a b d m at' ov ρ → EvP c ρ μ1 (fun μ v => NoRow μ m v) (dLst dNil) := fun c ρ B => (EvP.nil pos1).mono fun _ _ h => norow_emp h
  have later : ∀ {c ρ xs} {d : DE}, EvP c ρ μ1 (IsL xs) d → EvP c ρ μ1 (fun μ v => IsL xs μ v ∧ Odd m μ ov) d := fun {c ρ xs d} h ν hν => ok_mono (h ν hν) fun v ν' ⟨g1, g2⟩ => ⟨⟨g1, Mo.odd _ _ _ (hν.trans g2) odd1⟩, g2⟩
  have z2 : ∀ c ρ, WrI cell a b d m at' ov ρ → EvP c ρ μ1 (fun μ v => NoRow μ m v) (dLst (dCons (dV 6) dNil)) := fun c ρ B => (later (eO c ρ B)).mono fun _ _ h => norow_odd (ps := []) h.1 (fun _ h => by cases h) List.nodup_nil (by decide) h.2
  have z3 : ∀ c ρ, WrI cell a b d m at' ov ρ → EvP c ρ μ1 (fun μ v => NoRow μ m v) (dBin opAdd (dV 3) (dSlc (dV 3) (oNone) (oSome (dC (.int 1))))) := fun c ρ B => (EvP.addI pos1 (eB c ρ B) (EvP.slcI pos1 (eB c ρ B) (fun _ => rfl) (e1 c ρ B) (cut_to.trans nts_cut) (by simp [nts]; omega)) (by simp [nts]; omega)).mono fun _ _ h => norow_twice h rd (by omega)
  have z4 : ∀ c ρ, WrI cell a b d m at' ov ρ → EvP c ρ μ1 (fun μ v => NoRow μ m v) (dB1 bTuple (dV 3)) := fun c ρ B => ((eB c ρ B).tupI (by simp [nts]; omega)).mono fun _ _ h => .nl h
  have zc : ∀ c ρ (v : V), (∀ μ, NL μ v) → EvP c ρ μ1 (fun μ v => NoRow μ m v) (dC v) := fun c ρ v h => EvP.con fun μ => .nl (h μ)
  have y1 : ∀ c ρ, WrI cell a b d m at' ov ρ → EvP c ρ μ1 (fun μ v => NoRow μ m v) (dBin opAdd (dIdx (dV 2) (dV 5)) (dLst (dCons (dV 6) dNil))) := fun c ρ B => (later (EvP.addI pos1 (eR c ρ B) (eO c ρ B) (by simp [nts]; omega))).mono fun _ _ h => norow_odd h.1 rr.lt rr.nd (by omega) h.2
  have y2 : ∀ c ρ, WrI cell a b d m at' ov ρ → EvP c ρ μ1 (fun μ v => NoRow μ m v) (dBin opAdd (dIdx (dV 2) (dV 5)) (dSlc (dIdx (dV 2) (dV 5)) (oNone) (oSome (dC (.int 1))))) := fun c ρ B => (EvP.addI pos1 (eR c ρ B) (EvP.slcI pos1 (eR c ρ B) (fun _ => rfl) (e1 c ρ B) (cut_to.trans nts_cut) (by simp [nts]; omega)) (by simp [nts]; omega)).mono fun _ _ h => norow_twice h rr (by omega)
  have y3 : ∀ c ρ, WrI cell a b d m at' ov ρ → EvP c ρ μ1 (fun μ v => NoRow μ m v) (dB1 bTuple (dIdx (dV 2) (dV 5))) := fun c ρ B => ((eR c ρ B).tupI (by simp [nts]; omega)).mono fun _ _ h => .nl h
  have y4 : ∀ c ρ, EvP c ρ μ1 (fun μ v => NoRow μ m v) dDic := fun c ρ ν hν => ⟨.nl (by show isT .list _ (.ref ν.length) = _; simp only [isT, new_get]), pre_new _ _⟩
  have tri : ∀ {c ρ} {z : DE}, WrI cell a b d m at' ov ρ → EvP c ρ μ1 (fun μ v => NoRow μ m v) z → EvP c ρ μ1 Bad3 (dLst (dCons (dV 1) (dCons (dV 2) (dCons z dNil)))) := fun B h => EvP.tri Mo.marks Mo.ways pos1 (pM _ _ B) (pW _ _ B) h fun _ _ _ _ h1 h2 h3 => .begins h1 h2 h3
  have triW : ∀ {c ρ} {y : DE}, WrI cell a b d m at' ov ρ → EvP c ρ μ1 (fun μ v => NoWays μ m v) y → EvP c ρ μ1 Bad3 (dLst (dCons (dV 1) (dCons y (dCons (dV 3) dNil)))) := fun B h => EvP.tri Mo.marks Mo.noways pos1 (pM _ _ B) h (eB _ _ B) fun _ _ _ _ h1 h2 _ => .ways h1 h2
  have triM : ∀ {c ρ} {x y z : DE} {p q : Pr}, Mo p → EvP c ρ μ1 NoMarks x → EvP c ρ μ1 p y → EvP c ρ μ1 q z → EvP c ρ μ1 Bad3 (dLst (dCons x (dCons y (dCons z dNil)))) := fun hp h h' h'' => EvP.tri Mo.nomarks hp pos1 h h' h'' fun _ _ _ _ h1 _ _ => .marks h1
  have em : ∀ c ρ, EvP c ρ μ1 (IsL []) (dLst dNil) := fun c ρ => EvP.nil pos1
  have emM : ∀ c ρ, EvP c ρ μ1 NoMarks (dLst dNil) := fun c ρ => (em c ρ).mono fun _ _ h => let ⟨a, h1, _, h3⟩ := h; h1 ▸ .few h3
  have l0 : ∀ c ρ, EvP c ρ μ1 (LX Tru 1) (dLst (dCons (dC (.int 0)) dNil)) := fun c ρ => EvP.lst Mo.tru pos1 (EvL.cons Mo.tru (EvP.con fun _ => trivial) EvL.nil) (by decide)
  -- the first four
  refine step_set ?_
  refine ok_mono (EvP.lst (k := 4) Mo.bad3 pos1 (EvL.cons Mo.bad3 (tri B (z1 _ _ B)) (EvL.cons Mo.bad3 (tri B (z2 _ _ B)) (EvL.cons Mo.bad3 (tri B (z3 _ _ B)) (EvL.cons Mo.bad3 (tri B (z4 _ _ B)) EvL.nil)))) (by decide) μ1 (List.prefix_refl _)) fun v2 μ2 ⟨k2, p2⟩ => ?_
  have B2 : WrI cell a b d m at' ov (ρ.set 7 v2) := B.set (by decide)
  -- four more
  refine step_set ?_
  have w1 : ∀ c ρ, WrI cell a b d m at' ov ρ → EvP c ρ μ1 (fun μ v => NoWays μ m v) (dSlc (dV 2) (oNone) (oSome (dUn opNeg (dC (.int 1))))) := fun c ρ B => (EvP.slcI (u := some (-1)) pos1 (eW c ρ B) (fun _ => rfl) (fun _ => rfl) rfl (by have := cut_neg1 (xs := refs rs) (by simp [refs]; omega); simp [refs] at this ⊢; omega)).mono fun _ _ h => by
    obtain ⟨a, rfl, _, h3⟩ := h
    refine .len h3 ?_
    have := cut_neg1 (xs := refs rs) (by simp [refs]; omega)
    simp [refs] at this ⊢; omega
  refine ok_mono (EvP.addX (j := 4) (k := 4) Mo.bad3 (EvP.var (μ0 := μ2) Mo.bad3.lx (by simp [set_apply]) k2) ((EvP.lst (k := 4) Mo.bad3 pos1 (EvL.cons Mo.bad3 (tri B2 (zc _ _ .none fun _ => rfl)) (EvL.cons Mo.bad3 (triM Mo.isl (emM _ _) (em _ _) (em _ _)) (EvL.cons Mo.bad3 (triM Mo.isl (emM _ _) (em _ _) (l0 _ _)) (EvL.cons Mo.bad3 (triW B2 (w1 _ _ B2)) EvL.nil)))) (by decide)).later p2) (by decide) (Nat.le_trans pos1 (pre_len p2)) μ2 (List.prefix_refl _)) fun v3 μ3 ⟨k3, p3⟩ => ?_
  have B3 : WrI cell a b d m at' ov ((ρ.set 7 v2).set 7 v3) := B2.set (by decide)
  have q3 := p2.trans p3
  -- one more
  refine step_set ?_
  have w2 : ∀ c ρ, WrI cell a b d m at' ov ρ → EvP c ρ μ1 (fun μ v => NoWays μ m v) (dBin opAdd (dV 2) (dLst (dCons (dLst (dCons (dC (.int 0)) (dNil))) (dNil)))) := fun c ρ B =>
    (EvP.addX (p := Tru) (j := m) (k := 1) Mo.tru ((eW c ρ B).mono fun _ _ h => let ⟨a, h1, h2, h3⟩ := h; ⟨a, _, h1, h2, h3, by simp [refs]; omega, fun _ _ => trivial⟩) (EvP.lst Mo.tru pos1 (EvL.cons Mo.tru (l0 c ρ).tru EvL.nil) (by decide)) (by omega) pos1).mono fun _ _ h => by
      obtain ⟨a, vs, rfl, _, h3, h4, _⟩ := h
      exact .len h3 (by omega)
  refine ok_mono (EvP.addX (j := 8) (k := 1) Mo.bad3 (EvP.var (μ0 := μ3) Mo.bad3.lx (by simp [set_apply]) k3) ((EvP.lst (k := 1) Mo.bad3 pos1 (EvL.cons Mo.bad3 (triW B3 (w2 _ _ B3)) EvL.nil) (by decide)).later q3) (by decide) (Nat.le_trans pos1 (pre_len q3)) μ3 (List.prefix_refl _)) fun v4 μ4 ⟨k4, p4⟩ => ?_
  have B4 : WrI cell a b d m at' ov (((ρ.set 7 v2).set 7 v3).set 7 v4) := B3.set (by decide)
  have q4 := q3.trans p4
  -- the rows
  refine step_set ?_
  refine ok_mono (EvP.lst (p := fun μ v => NoRow μ m v) (k := 9) Mo.norow pos1 (EvL.cons Mo.norow (z1 _ _ B4) (EvL.cons Mo.norow (z2 _ _ B4) (EvL.cons Mo.norow (y1 _ _ B4) (EvL.cons Mo.norow (y2 _ _ B4) (EvL.cons Mo.norow (y3 _ _ B4) (EvL.cons Mo.norow (zc _ _ .none fun _ => rfl) (EvL.cons Mo.norow (zc _ _ (.int 0) fun _ => rfl) (EvL.cons Mo.norow (y4 _ _) (EvL.cons Mo.norow (zc _ _ (.str (Str.ofString "0")) fun _ => rfl) EvL.nil))))))))) (by decide) μ4 q4) fun v5 μ5 ⟨k5, p5⟩ => ?_
  have B5 : WrI cell a b d m at' ov ((((ρ.set 7 v2).set 7 v3).set 7 v4).set 8 v5) := B4.set (by decide)
  have q5 := q4.trans p5
  refine step_set ?_
  have w3 : ∀ c ρ x, WrI cell a b d m at' ov ρ → NoRow μ5 m x → ρ 10 = some x → EvP c ρ μ5 Bad3 (dLst (dCons (dV 1) (dCons (dBin opAdd (dBin opAdd (dSlc (dV 2) (oNone) (oSome (dV 5))) (dLst (dCons (dV 10) (dNil)))) (dSlc (dV 2) (oSome (dBin opAdd (dV 5) (dC (.int 1)))) (oNone))) (dCons (dV 3) (dNil))))) := fun c ρ x B hx h10 => by
    have pos5 : 1 ≤ μ5.length := Nat.le_trans pos1 (pre_len q5)
    have s1 : EvP c ρ μ5 (IsL ((refs rs).take at')) (dSlc (dV 2) (oNone) (oSome (dV 5))) := EvP.slcI pos5 ((eW c ρ B).later q5) (fun _ => rfl) (eA c ρ B) cut_to (by simp [refs]; omega)
    have s2 : EvP c ρ μ5 (IsL ((refs rs).drop (at' + 1))) (dSlc (dV 2) (oSome (dBin opAdd (dV 5) (dC (.int 1)))) (oNone)) := EvP.slcI pos5 ((eW c ρ B).later q5) (eA1 c ρ B) (fun _ => rfl) (cut_from (by simp [refs]; omega)) (by simp [refs]; omega)
    refine EvP.tri (q := fun μ v => NoWays μ m v) Mo.marks Mo.noways pos5 ((pM c ρ B).later q5) (?_ : EvP c ρ μ5 _ _) ((eB c ρ B).later q5) fun _ _ _ _ h1 h2 _ => .ways h1 h2
    refine fun ν hν => ok_mono (EvP.addI pos5 (EvP.addI pos5 s1 (EvP.one pos5 h10) (by simp [refs]; omega)) s2 (by simp [refs]; omega) ν hν) fun v ν' ⟨g1, g2⟩ => ⟨?_, g2⟩
    obtain ⟨e, rfl, _, h3⟩ := g1
    have hq := hν.trans g2
    refine .at (rs := rs.take at') (pss := pss.take at') (w := x) (rest := (refs rs).drop (at' + 1)) ?_ (by simp [refs]; omega) ((rows_take rows at').pre ((p1.trans q5).trans hq)) (hx.mono hq)
    rw [h3]; simp [refs, List.map_take]
  refine ok_mono (EvP.addX (j := 9) (k := 9) Mo.bad3 (EvP.var (μ0 := μ5) Mo.bad3.lx (by simp [set_apply]) (Mo.bad3.lx _ _ _ p5 k4)) (EvP.comp (p := fun μ v => NoRow μ m v) Mo.norow Mo.bad3 (Nat.le_trans pos1 (pre_len q5)) (by simp [set_apply]) (by simp [set_apply, n10]) k5 (by decide) fun x hx => w3 _ _ x (B5.set (by decide)) hx (by simp [set_apply])) (by decide) (Nat.le_trans pos1 (pre_len q5)) μ5 (List.prefix_refl _)) fun v6 μ6 ⟨k6, p6⟩ => ?_
  have B6 : WrI cell a b d m at' ov (((((ρ.set 7 v2).set 7 v3).set 7 v4).set 8 v5).set 7 v6) := B5.set (by decide)
  have q6 := q5.trans p6
  -- the signs
  refine step_set ?_
  have kc : ∀ c ρ (v : V), (∀ μ, NoMk μ v) → EvP c ρ μ1 NoMk (dC v) := fun c ρ v h => EvP.con h
  refine ok_mono (EvP.lst (p := NoMk) (k := 7) Mo.nomk pos1 (EvL.cons Mo.nomk (kc _ _ (.str (Str.ofString "A")) fun _ => .sign (c := 65) (by decide +kernel) (by decide +kernel) (by decide +kernel) (by decide +kernel))
    (EvL.cons Mo.nomk (kc _ _ (.str (Str.ofString "abcdefg")) fun _ => .long (by decide +kernel)) (EvL.cons Mo.nomk (kc _ _ (.int 5) fun _ => .ns rfl) (EvL.cons Mo.nomk (kc _ _ .none fun _ => .ns rfl)
    (EvL.cons Mo.nomk ((EvP.lst (p := Tru) Mo.tru pos1 (EvL.cons Mo.tru (EvP.con fun _ => trivial) EvL.nil) (by decide)).mono fun _ v h => by obtain ⟨a, vs, rfl, _, h3, _⟩ := h; exact .ns (isT_ref h3))
    (EvL.cons Mo.nomk (kc _ _ (.str (Str.ofString "a b")) fun _ => .sign (c := 32) (by decide +kernel) (by decide +kernel) (by decide +kernel) (by decide +kernel)) (EvL.cons Mo.nomk (kc _ _ (.bool true) fun _ => .ns rfl) EvL.nil))))))) (by decide) μ6 q6) fun v7 μ7 ⟨k7, p7⟩ => ?_
  have B7 : WrI cell a b d m at' ov ((((((ρ.set 7 v2).set 7 v3).set 7 v4).set 8 v5).set 7 v6).set 9 v7) := B6.set (by decide)
  have q7 := q6.trans p7
  refine step_set ?_
  have w4 : ∀ c ρ x, WrI cell a b d m at' ov ρ → NoMk μ7 x → ρ 11 = some x → EvP c ρ μ7 Bad3 (dLst (dCons (dBin opAdd (dBin opAdd (dSlc (dV 1) (oNone) (oSome (dV 5))) (dLst (dCons (dV 11) (dNil)))) (dSlc (dV 1) (oSome (dBin opAdd (dV 5) (dC (.int 1)))) (oNone))) (dCons (dV 2) (dCons (dV 3) (dNil))))) := fun c ρ x B hx h11 => by
    have pos7 : 1 ≤ μ7.length := Nat.le_trans pos1 (pre_len q7)
    have s1 : EvP c ρ μ7 (IsL (mk.take at')) (dSlc (dV 1) (oNone) (oSome (dV 5))) := EvP.slcI pos7 ((eM c ρ B).later q7) (fun _ => rfl) (eA c ρ B) cut_to (by simp; omega)
    have s2 : EvP c ρ μ7 (IsL (mk.drop (at' + 1))) (dSlc (dV 1) (oSome (dBin opAdd (dV 5) (dC (.int 1)))) (oNone)) := EvP.slcI pos7 ((eM c ρ B).later q7) (eA1 c ρ B) (fun _ => rfl) (cut_from (by omega)) (by simp; omega)
    refine EvP.tri (p := NoMarks) Mo.nomarks Mo.ways pos7 (?_ : EvP c ρ μ7 _ _) ((pW c ρ B).later q7) ((eB c ρ B).later q7) fun _ _ _ _ h1 _ _ => .marks h1
    refine fun ν hν => ok_mono (EvP.addI pos7 (EvP.addI pos7 s1 (EvP.one pos7 h11) (by simp; omega)) s2 (by simp; omega) ν hν) fun v ν' ⟨g1, g2⟩ => ⟨?_, g2⟩
    obtain ⟨e, rfl, _, h3⟩ := g1
    refine .at h3 (by simp; omega) (fun y hy => ?_) (v := x) (by simp) (hx.mono (hν.trans g2))
    rcases List.mem_append.mp hy with hy | hy
    · rcases List.mem_append.mp hy with hy | hy
      · exact .inl (mks y (List.mem_of_mem_take hy))
      · rw [List.mem_singleton.mp hy]; exact .inr (hx.mono (hν.trans g2))
    · exact .inl (mks y (List.mem_of_mem_drop hy))
  refine ok_mono (EvP.addX (j := 18) (k := 7) Mo.bad3 (EvP.var (μ0 := μ7) Mo.bad3.lx (by simp [set_apply]) (Mo.bad3.lx _ _ _ p7 k6)) (EvP.comp (p := NoMk) Mo.nomk Mo.bad3 (Nat.le_trans pos1 (pre_len q7)) (by simp [set_apply]) (by simp [set_apply, n10]) k7 (by decide) fun x hx => w4 _ _ x (B7.set (by decide)) hx (by simp [set_apply])) (by decide) (Nat.le_trans pos1 (pre_len q7)) μ7 (List.prefix_refl _)) fun v8 μ8 ⟨k8, p8⟩ => ?_
  have B8 : WrI cell a b d m at' ov (((((((ρ.set 7 v2).set 7 v3).set 7 v4).set 8 v5).set 7 v6).set 9 v7).set 7 v8) := B7.set (by decide)
  have q8 := q7.trans p8
  -- the last ones
  refine step_set ?_
  have tM : ∀ c ρ, WrI cell a b d m at' ov ρ → EvP c ρ μ1 NoMarks (dB1 bTuple (dV 1)) := fun c ρ B => ((eM c ρ B).tupI (by omega)).mono fun _ _ h => .nl h
  have tW : ∀ c ρ, WrI cell a b d m at' ov ρ → EvP c ρ μ1 (fun μ v => NoWays μ m v) (dB1 bTuple (dV 2)) := fun c ρ B => ((eW c ρ B).tupI (by simp [refs]; omega)).mono fun _ _ h => .nl h
  refine ok_mono (EvP.addX (j := 25) (k := 2) Mo.bad3 (EvP.var (μ0 := μ8) Mo.bad3.lx (by simp [set_apply]) k8) ((EvP.lst (k := 2) Mo.bad3 pos1 (EvL.cons Mo.bad3 (triM Mo.ways (tM _ _ B8) (pW _ _ B8) (eB _ _ B8)) (EvL.cons Mo.bad3 (triW B8 (tW _ _ B8)) EvL.nil)) (by decide)).later q8) (by decide) (Nat.le_trans pos1 (pre_len q8)) μ8 (List.prefix_refl _)) fun v9 μ9 ⟨k9, p9⟩ => ?_
  have B9 : WrI cell a b d m at' ov ((((((((ρ.set 7 v2).set 7 v3).set 7 v4).set 8 v5).set 7 v6).set 9 v7).set 7 v8).set 7 v9) := B8.set (by decide)
  have q9 := q8.trans p9
  refine now_ret ?_
  have r1 : ∀ c ρ, EvP c ρ μ1 NoMarks (dBin opRep (dLst (dCons (dC (.str (Str.ofString ""))) (dNil))) (dC (.int 13))) := fun c ρ => (EvP.rep (p := Tru) (k := 1) (j := 13) Mo.tru pos1 (EvP.lst Mo.tru pos1 (EvL.cons Mo.tru (EvP.con fun _ => trivial) EvL.nil) (by decide)) (by decide) (by decide)).mono fun _ _ h => by
    obtain ⟨a, vs, rfl, _, h3, h4, _⟩ := h
    exact .many h3 (by omega)
  have r2 : ∀ c ρ, EvP c ρ μ1 (LX Tru (13 * 1)) (dBin opRep (dLst (dCons (dLst (dCons (dC (.int 0)) (dNil))) (dNil))) (dC (.int 13))) := fun c ρ => EvP.rep (p := Tru) (k := 1) (j := 13) Mo.tru pos1 (EvP.lst Mo.tru pos1 (EvL.cons Mo.tru (l0 c ρ).tru EvL.nil) (by decide)) (by decide) (by decide)
  refine ok_mono (EvP.idx (n := 28) (i := o28) (EvP.addX (j := 27) (k := 1) Mo.bad3 (EvP.var (μ0 := μ9) Mo.bad3.lx (by simp [set_apply]) k9) ((EvP.lst (k := 1) Mo.bad3 pos1 (EvL.cons Mo.bad3 (triM Mo.tru.lx (r1 _ _) (r2 _ _) (l0 _ _)) EvL.nil) (by decide)).later q9) (by decide) (Nat.le_trans pos1 (pre_len q9))) (fun ν _ => run_bin (run_var B9.h0) rfl (ho28 ν)) ho28' (by decide) μ9 (List.prefix_refl _)) fun v ν ⟨g1, g2⟩ => ⟨g1, (p1.trans q9).trans g2⟩
end
end Mine.L02
end
section
set_option autoImplicit false
set_option backward.eqns.nonrecursive false
set_option maxRecDepth 10000
set_option linter.unusedSimpArgs false
set_option linter.unusedVariables false
namespace Mine.L02
noncomputable section
open PySem

/- data of marks and places -/
theorem toD_str {μ : Mem} {n : Nat} {x : Str} : toD n μ (.str x) = some (.str x) := by cases n <;> rfl
noncomputable def dtS : V → PyData
  | .str x => .str x
  | _ => .none
theorem allD_marks {μ : Mem} {n : Nat} : ∀ {xs : List V}, (∀ x ∈ xs, Mk x) → allD (toD n μ) xs = some (xs.map dtS)
  | [], _ => rfl
  | x :: r, h => by
    obtain ⟨y, rfl, _⟩ := h x List.mem_cons_self
    rw [allD, toD_str, allD_marks fun z hz => h z (List.mem_cons_of_mem _ hz)]; rfl
theorem eqvS {x : V} (h : Mk x) : PyData.eqv (dtS x) (dtS x) = true := by
  obtain ⟨y, rfl, _⟩ := h
  simp [dtS, PyData.eqv]
theorem eqvAllS : ∀ {xs : List V}, (∀ x ∈ xs, Mk x) → PyData.eqvAll (xs.map dtS) (xs.map dtS) = true
  | [], _ => by rw [List.map_nil, PyData.eqvAll]
  | x :: r, h => by rw [List.map_cons, PyData.eqvAll, eqvS (h x List.mem_cons_self), eqvAllS fun z hz => h z (List.mem_cons_of_mem _ hz)]; rfl
theorem eqvAllN : ∀ {ps : List Nat}, PyData.eqvAll (ps.map fun (p : Nat) => PyData.int (p : Int)) (ps.map fun (p : Nat) => PyData.int (p : Int)) = true
  | [] => by rw [List.map_nil, PyData.eqvAll]
  | p :: r => by rw [List.map_cons, PyData.eqvAll, eqvAllN (ps := r), eqv_int]; simp
theorem toD_lst {μ : Mem} {n a : Nat} {xs : List V} {ds : List PyData} (h : μ[a]? = some (.list xs)) (hd : allD (toD n μ) xs = some ds) : toD (n + 1) μ (.ref a) = some (.list ds) := by
  simp only [toD, h, hd]; rfl
noncomputable def mkAt (mk : List V) (p : Nat) : V := (mk[p]?).getD .none
theorem mk_get {mk : List V} {p m : Nat} (h : p < m) (hm : mk.length = m) : mk[p]? = some (mkAt mk p) := by
  have : p < mk.length := by omega
  simp [mkAt, List.getElem?_eq_getElem this]

noncomputable def dtN (ps : List Nat) : PyData := .list (ps.map fun (p : Nat) => PyData.int (p : Int))
theorem toD_row {μ : Mem} {n a : Nat} {ps : List Nat} (h : μ[a]? = some (.list (nts ps))) : toD (n + 1) μ (.ref a) = some (dtN ps) := toD_lst h (toD_nts ps)
theorem allD_rows {μ : Mem} {n m : Nat} {rs : List Nat} {pss : List (List Nat)} (h : Rows μ m rs pss) : allD (toD (n + 1) μ) (refs rs) = some (pss.map dtN) := by
  induction h with
  | nil => rfl
  | cons h1 h2 h3 _ ih =>
    simp only [refs, List.map_cons] at ih ⊢
    rw [allD, toD_row h2, ih]; rfl
theorem eqvN {ps : List Nat} : PyData.eqv (dtN ps) (dtN ps) = true := by rw [dtN, PyData.eqv]; exact eqvAllN
theorem eqvAllR : ∀ {pss : List (List Nat)}, PyData.eqvAll (pss.map dtN) (pss.map dtN) = true
  | [] => by rw [List.map_nil, PyData.eqvAll]
  | p :: r => by rw [List.map_cons, PyData.eqvAll, eqvN, eqvAllR]; rfl
theorem eq_row {μ : Mem} {a b : Nat} {ps : List Nat} (h : μ[a]? = some (.list (nts ps))) (h' : μ[b]? = some (.list (nts ps))) : eqV μ (.ref a) (.ref b) = some true := by
  simp only [eqV, show deep = 49 + 1 from rfl, toD_row h, toD_row h', eqvN]
theorem ne_row {μ : Mem} {a b : Nat} {ps : List Nat} (h : μ[a]? = some (.list (nts ps))) (h' : μ[b]? = some (.list (nts ps))) : cNe μ (.ref a) (.ref b) = some false := by
  rw [cNe, eq_row h h']; rfl
theorem eq_rows {μ : Mem} {m m' a b : Nat} {rs rs' : List Nat} {pss : List (List Nat)} (h : μ[a]? = some (.list (refs rs))) (h' : μ[b]? = some (.list (refs rs'))) (hr : Rows μ m rs pss) (hr' : Rows μ m' rs' pss) : eqV μ (.ref a) (.ref b) = some true := by
  have e1 := toD_lst (n := 49) h (allD_rows (n := 48) hr)
  have e2 := toD_lst (n := 49) h' (allD_rows (n := 48) hr')
  have e3 : PyData.eqv (.list (pss.map dtN)) (.list (pss.map dtN)) = true := by rw [PyData.eqv]; exact eqvAllR
  simp only [eqV, show deep = 49 + 1 from rfl, e1, e2, e3]
theorem ne_three {μ : Mem} {m h l a b d a' b' d' : Nat} {mk : List V} {rs rs' : List Nat} {pss : List (List Nat)} {bs : List Nat} (hmk : ∀ x ∈ mk, Mk x) (h0 : μ[h]? = some (.list [.ref a, .ref b, .ref d])) (l0 : μ[l]? = some (.list [.ref a', .ref b', .ref d']))
    (ga : μ[a]? = some (.list mk)) (gb : μ[b]? = some (.list (refs rs))) (gd : μ[d]? = some (.list (nts bs))) (hr : Rows μ m rs pss) (ga' : μ[a']? = some (.list mk)) (gb' : μ[b']? = some (.list (refs rs'))) (gd' : μ[d']? = some (.list (nts bs))) (hr' : Rows μ m rs' pss) : cNe μ (.ref h) (.ref l) = some false := by
  have e1 : toD 50 μ (.ref h) = some (.list [.list (mk.map dtS), .list (pss.map dtN), dtN bs]) := by
    refine toD_lst (n := 49) h0 ?_
    rw [allD, toD_lst (n := 48) ga (allD_marks hmk), allD, toD_lst (n := 48) gb (allD_rows (n := 47) hr), allD, toD_row gd]; rfl
  have e2 : toD 50 μ (.ref l) = some (.list [.list (mk.map dtS), .list (pss.map dtN), dtN bs]) := by
    refine toD_lst (n := 49) l0 ?_
    rw [allD, toD_lst (n := 48) ga' (allD_marks hmk), allD, toD_lst (n := 48) gb' (allD_rows (n := 47) hr'), allD, toD_row gd']; rfl
  have e3 : PyData.eqv (.list [.list (mk.map dtS), .list (pss.map dtN), dtN bs]) (.list [.list (mk.map dtS), .list (pss.map dtN), dtN bs]) = true := by
    rw [PyData.eqv, PyData.eqvAll, PyData.eqvAll, PyData.eqvAll, PyData.eqvAll, eqvN, PyData.eqv, PyData.eqv, eqvAllS hmk, eqvAllR]; rfl
  simp only [cNe, eqV, show deep = 50 from rfl, e1, e2, e3]; rfl

section
variable {fu n lo : Nat} {μ : Mem} {s m : Nat} {mk : List V} {pss : List (List Nat)} {bs : List Nat}
theorem ObjM.isA {name : Str} (h : ObjM lo μ s m mk pss bs) (h1 : (name == Str.ofString "firsts") = false) (h2 : (name == Str.ofString "roads") = false) (h3 : (name == Str.ofString "names") = false) : isA 0 name μ (.ref s) = true := by
  obtain ⟨dx, f, q, nl, rs, _, g1, g2, g3, g4, g5, g6⟩ := h.e
  simp only [Mine.isA, g1, g2]
  rw [List.lookup_cons, h1, List.lookup_cons, h2, List.lookup_cons, h3]; rfl
theorem isA_mark (h : ObjM lo μ s m mk pss bs) : isA 0 (Str.ofString "mark") μ (.ref s) = true := h.isA (by decide +kernel) (by decide +kernel) (by decide +kernel)
theorem isA_leads (h : ObjM lo μ s m mk pss bs) : isA 0 (Str.ofString "leads") μ (.ref s) = true := h.isA (by decide +kernel) (by decide +kernel) (by decide +kernel)
theorem isA_starts (h : ObjM lo μ s m mk pss bs) : isA 0 (Str.ofString "starts") μ (.ref s) = true := h.isA (by decide +kernel) (by decide +kernel) (by decide +kernel)
theorem mark_eq {p : Nat} (Ob : ObjM lo μ s m mk pss bs) (hp : p < m) : callF Φ fu (n + 1) 13 [.ref s, .int (p : Int)] μ = .ok (mkAt mk p) μ := by
  obtain ⟨f, f1, f2⟩ := Ob.names
  refine callF_ret (F := ⟨2, d_Machine_mark⟩) rfl rfl rfl (run_idx (v := .ref f) ?_ (run_var rfl) (item_list f2 (mk_get hp Ob.la) (lk (by have := Ob.m12; have := Ob.la; omega))))
  rw [dAttr, run_var (v := .ref s) rfl, R.bind_ok, f1]
theorem leads_eq {p : Nat} {ps : List Nat} (Ob : ObjM lo μ s m mk pss bs) (hp : pss[p]? = some ps) : callF Φ fu (n + 1) 14 [.ref s, .int (p : Int)] μ = .ok (.ref μ.length) (μ ++ [.list (nts ps)]) := by
  obtain ⟨f, rs, f1, f2, f3⟩ := Ob.roads
  obtain ⟨r, hr, r1, gr, rr⟩ := f3.get hp
  have lrs := f3.len
  have := Ob.lb
  have := Ob.m12
  have := rr.len
  refine callF_ret (F := ⟨2, d_Machine_leads⟩) rfl rfl rfl ?_
  have e : dIdx (dAttr 0 (Str.ofString "roads") (dV 0)) (dV 1) ⟨callF Φ fu n, fu⟩ (fun i => [V.ref s, V.int (p : Int)][i]?) μ = .ok (.ref r) μ := by
    refine run_idx (v := .ref f) ?_ (run_var rfl) (item_list f2 (i := p) (by simp [refs, hr]) (lk (by simp [refs]; omega)))
    rw [dAttr, run_var (v := .ref s) rfl, R.bind_ok, f1]
  rw [dB1, e, R.bind_ok, bList_ref gr (lk (by simp [nts]; omega))]
theorem starts_eq (Ob : ObjM lo μ s m mk pss bs) : callF Φ fu (n + 1) 15 [.ref s] μ = .ok (.ref μ.length) (μ ++ [.list (nts bs)]) := by
  obtain ⟨f, f1, f2⟩ := Ob.firsts
  have := Ob.rd.len
  have := Ob.m12
  refine callF_ret (F := ⟨1, d_Machine_starts⟩) rfl rfl rfl ?_
  have e : dAttr 0 (Str.ofString "firsts") (dV 0) ⟨callF Φ fu n, fu⟩ (fun i => [V.ref s][i]?) μ = .ok (.ref f) μ := by
    rw [dAttr, run_var (v := .ref s) rfl, R.bind_ok, f1]
  rw [dB1, e, R.bind_ok, bList_ref f2 (lk (by simp [nts]; omega))]
theorem run_meth {c : Cx} {ρ : Fr} {f : Nat} {name : Str} {o : DE} {as : DL} {v u : V} {vs : List V} {μ₁ μ' : Mem} (h1 : o c ρ μ = .ok v μ) (h2 : isA 0 name μ v = true) (h3 : as c ρ μ = .ok vs μ₁) (h4 : c.call f (v :: vs) μ₁ = .ok u μ') : dMeth 0 f name o as c ρ μ = .ok u μ' := by
  rw [dMeth, h1, R.bind_ok, if_pos h2, h3, R.bind_ok, h4]
end
theorem allD_falses {μ : Mem} {n : Nat} : ∀ {xs : List V}, (∀ x ∈ xs, x = .bool false) → allD (toD n μ) xs = some (xs.map fun _ => PyData.bool false)
  | [], _ => rfl
  | x :: r, h => by
    have hx := h x List.mem_cons_self
    subst hx
    have : toD n μ (.bool false) = some (.bool false) := by cases n <;> rfl
    rw [allD, this, allD_falses fun z hz => h z (List.mem_cons_of_mem _ hz)]; rfl
theorem in_falses {μ : Mem} {a : Nat} {xs : List V} (h : μ[a]? = some (.list xs)) (hx : ∀ x ∈ xs, x = .bool false) : cIn μ (.bool true) (.ref a) = some false := by
  have e : toD deep μ (.bool true) = some (.bool true) := rfl
  simp only [cIn, h, e, allD_falses hx]
  congr 1
  rw [List.any_eq_false]
  intro y hy
  obtain ⟨_, _, rfl⟩ := List.mem_map.mp hy
  simp [PyData.eqv]
theorem bools_run {c : Cx} {ρ : Fr} {μ : Mem} {i j a : Nat} {ps : List Nat} (hi : ρ i = some (.ref a)) (hj : ρ j = none) (ha : μ[a]? = some (.list (nts ps))) (hl : ps.length ≤ 1000) :
    ∃ xs, dComp [j] (iSeq (dV i)) (cb1 j) (tTrue) (dB1 (bIsi .bool) (dV j)) c ρ μ = .ok (.ref μ.length) (μ ++ [.list xs]) ∧ ∀ x ∈ xs, x = .bool false := by
  have hlim' : lim = 1000000 := rfl
  have : ok (dComp [j] (iSeq (dV i)) (cb1 j) (tTrue) (dB1 (bIsi .bool) (dV j)) c ρ μ) fun v ν => ∃ xs, v = .ref μ.length ∧ ν = μ ++ [.list xs] ∧ ∀ x ∈ xs, x = .bool false := by
    rw [ok_dComp, ok_iSeq, run_var hi, ok_ok]
    simp only [ha]
    refine ⟨by simp [hj], ok_compP (fun v => v = .bool false) (fun ν => ν = μ) _ [] μ rfl (by simp [nts]; omega) (fun _ h => by cases h) (fun ν hν => by simp [hν, ha]) (fun v hv ν hν => ?_) fun xs ν hx hp hν => ?_⟩
    · obtain ⟨p, _, rfl⟩ := List.mem_map.mp hv
      refine ⟨_, cb1_none hj, ?_⟩
      rw [ok_dB1, run_var (v := .int (p : Int)) (by simp [set_apply]), ok_ok]
      exact ⟨rfl, hν⟩
    · subst hν
      rw [ok_newL]
      exact ⟨by rw [hx]; simp [nts]; omega, xs, rfl, rfl, hp⟩
  obtain ⟨v, ν, e, xs, rfl, rfl, h⟩ := ok_of this
  exact ⟨xs, e, h⟩
theorem isi_list_run {c : Cx} {ρ : Fr} {μ : Mem} {i a : Nat} {xs : List V} (hi : ρ i = some (.ref a)) (ha : μ[a]? = some (.list xs)) : dB1 (bIsi .list) (dV i) c ρ μ = .ok (.bool true) μ := by
  simp only [dB1, dV, hi, R.opt, R.bind, bIsi, isT_ref ha]

structure RtI (μ : Mem) (s a b d : Nat) (ρ : Fr) (ν : Mem) : Prop where
  h0 : ρ 0 = some (.ref s)
  h1 : ρ 1 = some (.ref a)
  h2 : ρ 2 = some (.ref b)
  h3 : ρ 3 = some (.ref d)
  h7 : ρ 7 = none
  h8 : ρ 8 = none
  p : μ <+: ν
theorem RtI.set {μ : Mem} {s a b d : Nat} {ρ : Fr} {ν ν' : Mem} {i : Nat} {v : V} (h : RtI μ s a b d ρ ν) (h1 : 4 ≤ i) (h2 : i ≤ 6) (k : ν <+: ν') : RtI μ s a b d (ρ.set i v) ν' := by
  obtain ⟨g0, g1, g2, g3, g7, g8, p⟩ := h
  refine ⟨?_, ?_, ?_, ?_, ?_, ?_, p.trans k⟩ <;> rw [set_apply, if_neg (by omega)] <;> assumption
theorem right_ok {fu n lo : Nat} {μ : Mem} {s m a b d : Nat} {mk : List V} {rs : List Nat} {pss : List (List Nat)} {bs : List Nat} (Ob : ObjM lo μ s m mk pss bs) (M : Mach μ m a b d mk rs pss bs) :
    ok (callF Φ fu (n + 2) 10 [.ref s, .ref a, .ref b, .ref d] μ) fun v μ' => v = .bool true ∧ μ <+: μ' := by
  have hlim' : lim = 1000000 := rfl
  obtain ⟨m0, m12, a1, b1, d1, ga, gb, gd, la, lb, mks, rows, rd⟩ := id M
  have lrs : rs.length = m := by rw [rows.len, lb]
  have lbs := rd.len
  refine ok_call rfl rfl ?_
  dsimp only [d__law_right]
  refine step_run (run_meth (run_var rfl) (isA_starts Ob) rfl (starts_eq (n := n) Ob)) ?_
  have p1 := pre_new μ (O.list (nts bs))
  have g4 := new_get μ (O.list (nts bs))
  have R1 : RtI μ s a b d (Fr.set (fun i => [V.ref s, V.ref a, V.ref b, V.ref d][i]?) 4 (.ref μ.length)) (μ ++ [O.list (nts bs)]) := ⟨rfl, rfl, rfl, rfl, rfl, rfl, p1⟩
  have h4 : (Fr.set (fun i => [V.ref s, V.ref a, V.ref b, V.ref d][i]?) 4 (.ref μ.length)) 4 = some (.ref μ.length) := rfl
  generalize (Fr.set (fun i => [V.ref s, V.ref a, V.ref b, V.ref d][i]?) 4 (.ref μ.length)) = ρ1 at R1 h4 ⊢
  generalize μ ++ [O.list (nts bs)] = μ1 at R1 g4 p1 ⊢
  obtain ⟨xs, ex, hx⟩ := bools_run (c := ⟨callF Φ fu (n + 1), fu⟩) h4 R1.h7 g4 (by omega)
  rw [okS_seq, okS_if]
  refine or_no (not_run (isi_list_run h4 g4) rfl ⟨rfl, or_no (cmp_run (run_var h4) (run_var R1.h3) (ne_row g4 (pre_get p1 gd)) ⟨rfl, or_no (cmp_run (l := dC (.bool true)) (a := .bool true) rfl ex (in_falses (new_get _ _) hx) ⟨rfl, ?_⟩)⟩)⟩)
  rw [ok_tFalse, if_neg (by simp), okS_nil]
  have p2 := p1.trans (pre_new μ1 (O.list xs))
  have R2 : RtI μ s a b d ρ1 (μ1 ++ [O.list xs]) := { R1 with p := p2 }
  generalize μ1 ++ [O.list xs] = μ2 at R2 p2 ⊢
  have hr : rangeArgs μ2 [.int (m : Int)] = .ok ⟨(List.range' 0 m).map fun k => V.int (k : Nat), fun _ => true⟩ μ2 := range1 (lk (by omega))
  rw [okS_seq, okS_for, ok_iRange]
  rw [run_cons (by rw [← la] at *; exact run_len (run_var R2.h1) (pre_get p2 ga)) rfl, ok_ok, la, hr, ok_ok]
  refine okS_mono (for_rng (i := 5) (fun _ ρ ν => RtI μ s a b d ρ ν) m 0 ρ1 μ2 R2 fun k ρ ν _ hk h => ?_) (fun ρ ν h => ?_) fun _ _ h => h
  · have hk' : k < m := by omega
    obtain ⟨ps, hps⟩ : ∃ ps, pss[k]? = some ps := ⟨_, List.getElem?_eq_getElem (by omega)⟩
    obtain ⟨r, hr', r1, gr, rr⟩ := rows.get hps
    have lps := rr.len
    have R3 : RtI μ s a b d (ρ.set 5 (.int (k : Int))) ν := h.set (by decide) (by decide) (List.prefix_refl _)
    have h5 : (ρ.set 5 (.int (k : Int))) 5 = some (.int (k : Int)) := by simp [set_apply]
    generalize ρ.set 5 (.int (k : Int)) = ρ3 at R3 h5 ⊢
    have Ob3 : ObjM lo ν s m mk pss bs := Ob.mono fun i _ o e => pre_get h.p e
    refine step_run (run_meth (run_var R3.h0) (isA_leads Ob3) (run_cons (run_var h5) rfl) (leads_eq (n := n) Ob3 hps)) ?_
    have p4 := pre_new ν (O.list (nts ps))
    have g6 := new_get ν (O.list (nts ps))
    have R4 : RtI μ s a b d (ρ3.set 6 (.ref ν.length)) (ν ++ [O.list (nts ps)]) := R3.set (by decide) (by decide) p4
    have h5' : (ρ3.set 6 (.ref ν.length)) 5 = some (.int (k : Int)) := by simp [set_apply, h5]
    have h6 : (ρ3.set 6 (.ref ν.length)) 6 = some (.ref ν.length) := by simp [set_apply]
    have Ob4 : ObjM lo (ν ++ [O.list (nts ps)]) s m mk pss bs := Ob3.mono fun i _ o e => pre_get p4 e
    generalize ρ3.set 6 (.ref ν.length) = ρ4 at R4 h5' h6 ⊢
    generalize ν ++ [O.list (nts ps)] = ν4 at R4 g6 Ob4 ⊢
    obtain ⟨x, hx1, _⟩ : Mk (mkAt mk k) := mks _ (List.mem_of_getElem? (mk_get hk' la))
    have em : dMeth 0 13 (Str.ofString "mark") (dV 0) (dCons (dV 5) dNil) ⟨callF Φ fu (n + 1), fu⟩ ρ4 ν4 = .ok (mkAt mk k) ν4 := run_meth (run_var R4.h0) (isA_mark Ob4) (run_cons (run_var h5') rfl) (mark_eq (n := n) Ob4 hk')
    have iw : dIdx (dV 2) (dV 5) ⟨callF Φ fu (n + 1), fu⟩ ρ4 ν4 = .ok (.ref r) ν4 := run_idx (run_var R4.h2) (run_var h5') (item_list (pre_get R4.p gb) (by simp [refs, hr']) (lk (by simp [refs]; omega)))
    have im : dIdx (dV 1) (dV 5) ⟨callF Φ fu (n + 1), fu⟩ ρ4 ν4 = .ok (mkAt mk k) ν4 := run_idx (run_var R4.h1) (run_var h5') (item_list (pre_get R4.p ga) (mk_get hk' la) (lk (by omega)))
    obtain ⟨ys, ey, hy⟩ := bools_run (c := ⟨callF Φ fu (n + 1), fu⟩) h6 R4.h8 g6 (by omega)
    rw [okS_seq, okS_if]
    refine or_no (not_run (isi_list_run h6 g6) rfl ⟨rfl, or_no (cmp_run (run_var h6) iw (ne_row g6 (pre_get R4.p gr)) ⟨rfl, or_no (not_run (d := dB1 (bIsi .str) (dMeth 0 13 (Str.ofString "mark") (dV 0) (dCons (dV 5) dNil))) (v := .bool true) (μ' := ν4) ?_ rfl ⟨rfl, ?_⟩)⟩)⟩)
    · rw [dB1, em, R.bind_ok, hx1]; rfl
    rw [ok_tFalse, if_neg (by simp), okS_nil, okS_seq, okS_if]
    have ne : cNe ν4 (mkAt mk k) (mkAt mk k) = some false := by
      rw [hx1]
      simp only [cNe, eqV, toD_str, PyData.eqv]
      simp
    refine or_no (cmp_run em im ne ⟨rfl, or_no (cmp_run (l := dC (.bool true)) (a := .bool true) rfl ey (in_falses (new_get _ _) hy) ⟨rfl, ?_⟩)⟩)
    rw [ok_tFalse, if_neg (by simp), okS_nil, okS_nil]
    exact { R4 with p := R4.p.trans (pre_new _ _) }
  · exact now_ret ⟨rfl, h.p⟩
end
end Mine.L02
end
section
set_option autoImplicit false
set_option backward.eqns.nonrecursive false
set_option maxRecDepth 10000
set_option linter.unusedSimpArgs false
set_option linter.unusedVariables false
namespace Mine.L02
noncomputable section
open PySem

theorem Mach.sub {μ μ' : Mem} {m a b d : Nat} {mk : List V} {rs : List Nat} {pss : List (List Nat)} {bs : List Nat} (h : Mach μ m a b d mk rs pss bs) (k : ∀ (i : Nat) (o : O), μ[i]? = some o → μ'[i]? = some o) : Mach μ' m a b d mk rs pss bs :=
  { h with ga := k _ _ h.ga, gb := k _ _ h.gb, gd := k _ _ h.gd, rows := h.rows.mono fun r _ h1 o e => k r o e }
theorem ok_new {c : Cx} {ρ : Fr} {μ μ1 : Mem} {k f : Nat} {args : DL} {vs : List V} {Q : V → Mem → Prop} (e : args c ρ μ = .ok vs μ1) (h : ok (c.call f (.ref (μ1.length + 1) :: vs) (μ1 ++ [.ns []] ++ [.inst k μ1.length])) fun v μ' => v = .none ∧ Q (.ref (μ1.length + 1)) μ') : ok (dNew k f args c ρ μ) Q := by
  obtain ⟨v, μ', e1, rfl, hq⟩ := ok_of h
  rw [dNew, e, R.bind_ok, e1, R.bind_ok]; exact hq
theorem new_ok {fu n : Nat} {c : Cx} {ρ : Fr} {μ0 μ : Mem} {m a b d : Nat} {mk : List V} {rs : List Nat} {pss : List (List Nat)} {bs : List Nat} {args : DL} {Q : V → Mem → Prop} (hc : c.call = callF Φ fu (n + 3)) (e : args c ρ μ0 = .ok [.ref a, .ref b, .ref d] μ) (M : Mach μ m a b d mk rs pss bs)
    (h : ∀ (s : Nat) (μ' : Mem), (∀ (i : Nat) (o : O), μ[i]? = some o → μ'[i]? = some o) → ObjM μ.length μ' s m mk pss bs → Q (.ref s) μ') : ok (dNew 0 12 args c ρ μ0) Q := by
  refine ok_new e ?_
  have pa : μ <+: μ ++ [O.ns []] ++ [O.inst 0 μ.length] := by rw [List.append_assoc]; exact List.prefix_append _ _
  have gI : (μ ++ [O.ns []] ++ [O.inst 0 μ.length])[μ.length + 1]? = some (.inst 0 μ.length) := by
    have := new_get (μ ++ [O.ns []]) (O.inst 0 μ.length)
    rwa [show (μ ++ [O.ns []]).length = μ.length + 1 by simp] at this
  have gN : (μ ++ [O.ns []] ++ [O.inst 0 μ.length])[μ.length]? = some (.ns []) := pre_get (pre_new _ _) (new_get _ _)
  rw [hc]
  refine ok_mono (init_ok (n := n) (lo := μ.length) (M.sub fun i o e => pre_get pa e) (by omega) (Nat.le_refl _) (by simp) gI gN) fun v μ4 hv => ?_
  obtain ⟨rfl, K4, Ob4⟩ := hv
  exact ⟨rfl, h _ _ (fun i o e => K4.old i o (by have := (List.getElem?_eq_some_iff.mp e).1; omega) (pre_get pa e)) Ob4⟩

theorem spoil {c : Cx} {ρ : Fr} {μ : Mem} {h a b d r : Nat} {x : V} {xs : List V} {rt : List Nat} {ps bs : List Nat} {rest : DS} {Q : Fr → Mem → Prop} {T : V → Mem → Prop} (h7 : ρ 7 = some (.ref h)) (gh : μ[h]? = some (.list [.ref a, .ref b, .ref d])) (ga : μ[a]? = some (.list (x :: xs))) (gb : μ[b]? = some (.list (refs (r :: rt)))) (gr : μ[r]? = some (.list (nts ps))) (gd : μ[d]? = some (.list (nts bs)))
    (l1 : (x :: xs).length ≤ 12) (l2 : (r :: rt).length ≤ 12) (l3 : ps.length ≤ 100) (l4 : bs.length ≤ 100) (ha : h ≠ a) (hb : h ≠ b) (hr : h ≠ r) (hba : b ≠ a) (hbr : b ≠ r) (hra : r ≠ a) (hdr : d ≠ r) (hda : d ≠ a) (hdb : d ≠ b)
    (k : ∀ ν : Mem, ν.length = μ.length → (∀ i : Nat, i ≠ a → i ≠ r → i ≠ b → i ≠ d → ν[i]? = μ[i]?) → okS (rest c ρ ν) Q T) :
    okS (sSeq (sPut (dIdx (dV 7) (dC (.int 0))) (dC (.int 0)) (dC (.str (Str.ofString "zzzzzz")))) (sSeq (sExpr (dM1 .list bAppend (dIdx (dIdx (dV 7) (dC (.int 1))) (dC (.int 0))) (dC (.int 99)))) (sSeq (sExpr (dM0 .list bPop (dIdx (dV 7) (dC (.int 1))))) (sSeq (sExpr (dM1 .list bAppend (dIdx (dV 7) (dC (.int 2))) (dC (.int 99)))) rest))) c ρ μ) Q T := by
  have hlim' : lim = 1000000 := rfl
  have l3h : ([.ref a, .ref b, .ref d] : List V).length ≤ lim := by show 3 ≤ lim; decide
  have e0 : ∀ ν, ν[h]? = some (.list [.ref a, .ref b, .ref d]) → dIdx (dV 7) (dC (.int 0)) c ρ ν = .ok (.ref a) ν := fun ν g => run_idx (run_var h7) (k := .int 0) rfl (item_list (i := 0) g rfl l3h)
  have e1 : ∀ ν, ν[h]? = some (.list [.ref a, .ref b, .ref d]) → dIdx (dV 7) (dC (.int 1)) c ρ ν = .ok (.ref b) ν := fun ν g => run_idx (run_var h7) (k := .int 1) rfl (item_list (i := 1) g rfl l3h)
  have e2 : ∀ ν, ν[h]? = some (.list [.ref a, .ref b, .ref d]) → dIdx (dV 7) (dC (.int 2)) c ρ ν = .ok (.ref d) ν := fun ν g => run_idx (run_var h7) (k := .int 2) rfl (item_list (i := 2) g rfl l3h)
  have hK : ∀ {ν : Mem} {i : Nat} {ys : List V}, ν[i]? = some (.list ys) → hasK ν (.ref i) .list = true := fun {ν i ys} g => by simp only [hasK, g]
  -- the first mark
  have p0 : putItem μ (.ref a) (.int 0) (.str (Str.ofString "zzzzzz")) = some (μ.set a (.list (.str (Str.ofString "zzzzzz") :: xs))) := by
    have : (0 : Int) ≤ 0 ∧ (0 : Int) < ((x :: xs).length : Int) := ⟨Int.le_refl _, by rw [List.length_cons]; omega⟩
    simp only [putItem, ga, this, and_self, if_true]; rfl
  refine step_put rfl (e0 μ gh) rfl p0 ?_
  have h1 : (μ.set a (.list (.str (Str.ofString "zzzzzz") :: xs)))[h]? = some (.list [.ref a, .ref b, .ref d]) := by rw [set_other ha]; exact gh
  have b1 : (μ.set a (.list (.str (Str.ofString "zzzzzz") :: xs)))[b]? = some (.list (refs (r :: rt))) := by rw [set_other hba]; exact gb
  have r1 : (μ.set a (.list (.str (Str.ofString "zzzzzz") :: xs)))[r]? = some (.list (nts ps)) := by rw [set_other hra]; exact gr
  have d1 : (μ.set a (.list (.str (Str.ofString "zzzzzz") :: xs)))[d]? = some (.list (nts bs)) := by rw [set_other hda]; exact gd
  have k1 : ∀ i, i ≠ a → (μ.set a (.list (.str (Str.ofString "zzzzzz") :: xs)))[i]? = μ[i]? := fun i hi => set_other hi
  have n1 : (μ.set a (.list (.str (Str.ofString "zzzzzz") :: xs))).length = μ.length := by simp
  generalize μ.set a (.list (.str (Str.ofString "zzzzzz") :: xs)) = ν1 at h1 b1 r1 d1 k1 n1 ⊢
  -- the first row
  have q1 : dIdx (dIdx (dV 7) (dC (.int 1))) (dC (.int 0)) c ρ ν1 = .ok (.ref r) ν1 := run_idx (e1 ν1 h1) (k := .int 0) rfl (item_list (i := 0) b1 rfl (lk (by simp [refs] at l2 ⊢; omega)))
  refine step_expr (ok_run (run_m1 q1 (hK r1) rfl (app_set r1 (by simp [nts]; omega))) ?_)
  have h2 : (ν1.set r (.list (nts ps ++ [.int 99])))[h]? = some (.list [.ref a, .ref b, .ref d]) := by rw [set_other hr]; exact h1
  have b2 : (ν1.set r (.list (nts ps ++ [.int 99])))[b]? = some (.list (refs (r :: rt))) := by rw [set_other hbr]; exact b1
  have d2 : (ν1.set r (.list (nts ps ++ [.int 99])))[d]? = some (.list (nts bs)) := by rw [set_other hdr]; exact d1
  have k2 : ∀ i, i ≠ a → i ≠ r → (ν1.set r (.list (nts ps ++ [.int 99])))[i]? = μ[i]? := fun i h1 h2 => by rw [set_other h2]; exact k1 i h1
  have n2 : (ν1.set r (.list (nts ps ++ [.int 99]))).length = μ.length := by simp [n1]
  generalize ν1.set r (.list (nts ps ++ [.int 99])) = ν2 at h2 b2 d2 k2 n2 ⊢
  -- the last row
  obtain ⟨v, hv⟩ : ∃ v, (refs (r :: rt)).getLast? = some v := ⟨_, List.getLast?_eq_some_getLast (by simp [refs])⟩
  have e3 : dM0 .list bPop (dIdx (dV 7) (dC (.int 1))) c ρ ν2 = .ok v (ν2.set b (.list (refs (r :: rt)).dropLast)) := by
    rw [dM0, e1 ν2 h2, R.bind_ok, if_pos (hK b2)]
    simp only [bPop, b2, hv]
  refine step_expr (ok_run e3 ?_)
  have h3 : (ν2.set b (.list (refs (r :: rt)).dropLast))[h]? = some (.list [.ref a, .ref b, .ref d]) := by rw [set_other hb]; exact h2
  have d3 : (ν2.set b (.list (refs (r :: rt)).dropLast))[d]? = some (.list (nts bs)) := by rw [set_other hdb]; exact d2
  have k3 : ∀ i, i ≠ a → i ≠ r → i ≠ b → (ν2.set b (.list (refs (r :: rt)).dropLast))[i]? = μ[i]? := fun i h1 h2 h3 => by rw [set_other h3]; exact k2 i h1 h2
  have n3 : (ν2.set b (.list (refs (r :: rt)).dropLast)).length = μ.length := by simp [n2]
  generalize ν2.set b (.list (refs (r :: rt)).dropLast) = ν3 at h3 d3 k3 n3 ⊢
  -- where walks begin
  refine step_expr (ok_run (run_m1 (e2 ν3 h3) (hK d3) rfl (app_set d3 (by simp [nts]; omega))) ?_)
  exact k _ (by simp [n3]) fun i h1 h2 h3 h4 => by rw [set_other h4]; exact k3 i h1 h2 h3

theorem leads_comp {fu n lo lo' : Nat} {ρ : Fr} {μ0 : Mem} {s m : Nat} {mk : List V} {pss : List (List Nat)} {bs : List Nat} (h8 : ρ 8 = some (.ref s)) (h14 : ρ 14 = none) (Ob : ObjM lo μ0 s m mk pss bs) : ∀ (j k : Nat) (acc : List Nat) (ν : Mem), k + j = m → μ0 <+: ν → 1 ≤ ν.length → lo' ≤ ν.length → Rows ν m acc (pss.take k) → acc.Nodup → (∀ r ∈ acc, lo' ≤ r ∧ r < ν.length) →
    ok (compS (fun _ => true) (cb1 14) tTrue (dMeth 0 14 (Str.ofString "leads") (dV 8) (dCons (dV 14) dNil)) ⟨callF Φ fu (n + 1), fu⟩ ρ ((List.range' k j).map fun k => V.int (k : Nat)) ν (refs acc)) fun xs ν' => ∃ rs, xs = refs rs ∧ Rows ν' m rs pss ∧ rs.Nodup ∧ (∀ r ∈ rs, lo' ≤ r ∧ r < ν'.length) ∧ ν <+: ν'
  | 0, k, acc, ν, hk, hp, h1, hlo, hr, hn, ha => by
    have : pss.take k = pss := List.take_of_length_le (by have := Ob.lb; omega)
    exact ok_comp_nil rfl ⟨acc, rfl, this ▸ hr, hn, ha, List.prefix_refl _⟩
  | j + 1, k, acc, ν, hk, hp, h1, hlo, hr, hn, ha => by
    have lb := Ob.lb
    have m12 := Ob.m12
    obtain ⟨ps, hps⟩ : ∃ ps, pss[k]? = some ps := ⟨_, List.getElem?_eq_getElem (by omega)⟩
    have Ob' : ObjM lo ν s m mk pss bs := Ob.mono fun i _ o e => pre_get hp e
    obtain ⟨_, rs0, _, _, f3⟩ := Ob'.roads
    obtain ⟨_, _, _, _, rr⟩ := f3.get hps
    have lacc : acc.length = k := by rw [hr.len, List.length_take]; omega
    rw [List.range'_succ, List.map_cons]
    have pn := pre_new ν (O.list (nts ps))
    refine ok_comp_cons rfl (cb1_none h14) (ok_run (run_meth (run_var (by simp [set_apply, h8])) (isA_leads Ob') (run_cons (run_var (by simp [set_apply])) rfl) (leads_eq (n := n) Ob' hps)) ⟨by have : lim = 1000000 := rfl; simp [refs]; omega, ?_⟩)
    rw [refs_app]
    refine ok_mono (leads_comp h8 h14 Ob j (k + 1) (acc ++ [ν.length]) (ν ++ [.list (nts ps)]) (by omega) (hp.trans pn) (by simp) (by simp; omega) ?_ ?_ ?_) fun xs ν' ⟨rs, e1, e2, e3, e4, e5⟩ => ⟨rs, e1, e2, e3, e4, pn.trans e5⟩
    · rw [List.take_add_one, hps]
      exact (hr.pre pn).app h1 (new_get _ _) rr
    · rw [List.nodup_append]
      refine ⟨hn, by simp, fun a ha' b hb => ?_⟩
      rw [List.mem_singleton.mp hb]
      have := (ha a ha').2
      omega
    · intro r hr'
      rcases List.mem_append.mp hr' with q | q
      · have := ha r q; simp; omega
      · rw [List.mem_singleton.mp q]; simp; omega

theorem app_loop {c : Cx} {h m : Nat} {hs : List Nat} : ∀ (rs : List Nat) (pss : List (List Nat)) (ρ : Fr) (ν : Mem) {Q : Fr → Mem → Prop} {T : V → Mem → Prop}, ν[h]? = some (.list (refs hs)) → h ∉ rs → rs.Nodup → Rows ν m rs pss → m ≤ 12 →
    (∀ (ρ' : Fr) (ν' : Mem), (∀ i, i ≠ 10 → ρ' i = ρ i) → ν'.length = ν.length → (∀ i : Nat, i ∉ rs → ν'[i]? = ν[i]?) → Rows ν' 100 rs (pss.map (· ++ [99])) → Q ρ' ν') →
    okS (forS (fun μ => decide (μ[h]? = some (.list (refs hs)))) (bd1 10) (sSeq (sExpr (dM1 .list bAppend (dV 10) (dC (.int 99)))) (sNil)) c (refs rs) ρ ν) Q T
  | [], pss, ρ, ν, Q, T, g, _, _, hr, _, k => by
    cases hr
    exact okS_for_nil (by simp [g]) (k ρ ν (fun _ _ => rfl) rfl (fun _ _ => rfl) .nil)
  | r :: rs, pss, ρ, ν, Q, T, g, hh, hn, hr, h12, k => by
    cases hr with
    | @cons _ _ ps pss g1 g2 g3 g4 =>
      have lps := g3.len
      have hh' : h ≠ r ∧ h ∉ rs := by simpa using hh
      have hn' : r ∉ rs ∧ rs.Nodup := by simpa using hn
      have hlim' : lim = 1000000 := rfl
      refine okS_for_cons (by simp [g]) rfl ?_
      refine step_expr (ok_run (run_m1 (run_var (by simp [set_apply])) (by simp only [hasK, g2]) rfl (app_set g2 (by simp [nts]; omega))) ?_)
      rw [okS_nil]
      have e99 : nts ps ++ [V.int 99] = nts (ps ++ [99]) := by simp [nts]
      rw [e99]
      refine app_loop rs pss _ _ (by rw [set_other hh'.1]; exact g) hh'.2 hn'.2 (g4.mono fun r' hr' _ o e => ?_) h12 fun ρ' ν' q1 q2 q3 q4 => ?_
      · rw [set_other (fun (q : r' = r) => hn'.1 (q ▸ hr'))]; exact e
      · refine k ρ' ν' (fun i hi => by rw [q1 i hi, set_apply, if_neg hi]) (by simpa using q2) (fun i hi => ?_) (.cons g1 ?_ ⟨by simp, ?_, ?_⟩ q4)
        · have hi' : i ≠ r ∧ i ∉ rs := by simpa using hi
          rw [q3 i hi'.2, set_other hi'.1]
        · rw [q3 r hn'.1]; exact set_at g2
        · intro p hp
          rcases List.mem_append.mp hp with q | q
          · have := g3.lt p q; omega
          · rw [List.mem_singleton.mp q]; decide
        · rw [List.nodup_append]
          refine ⟨g3.nd, by simp, fun a ha b hb => ?_⟩
          rw [List.mem_singleton.mp hb]
          have := g3.lt a ha
          omega
end
end Mine.L02
end
section
set_option autoImplicit false
set_option backward.eqns.nonrecursive false
set_option maxRecDepth 10000
set_option linter.unusedSimpArgs false
set_option linter.unusedVariables false
namespace Mine.L02
noncomputable section
open PySem

noncomputable def depth : Nat := 20
structure LwI (ns : List Int) (a b d : Nat) (ρ : Fr) : Prop where
  h0 : ρ 0 = some (.scr ns)
  h3 : ρ 3 = some (.ref a)
  h4 : ρ 4 = some (.ref b)
  h5 : ρ 5 = some (.ref d)
  h13 : ρ 13 = none
  h14 : ρ 14 = none
  h15 : ρ 15 = none
theorem LwI.set {ns : List Int} {a b d : Nat} {ρ : Fr} (h : LwI ns a b d ρ) {i : Nat} {v : V} (h1 : 6 ≤ i) (h2 : i ≤ 12) : LwI ns a b d (ρ.set i v) := by
  obtain ⟨g0, g3, g4, g5, g13, g14, g15⟩ := h
  refine ⟨?_, ?_, ?_, ?_, ?_, ?_, ?_⟩ <;> rw [set_apply, if_neg (by omega)] <;> assumption
theorem LwI.of {ns : List Int} {a b d : Nat} {ρ ρ' : Fr} (h : LwI ns a b d ρ) (k : ∀ i, i ≠ 10 → ρ' i = ρ i) : LwI ns a b d ρ' := by
  obtain ⟨g0, g3, g4, g5, g13, g14, g15⟩ := h
  refine ⟨?_, ?_, ?_, ?_, ?_, ?_, ?_⟩ <;> rw [k _ (by decide)] <;> assumption
theorem args4 {c : Cx} {ρ : Fr} {ν : Mem} {ns : List Int} {a b d s : Nat} (L : LwI ns a b d ρ) (h8 : ρ 8 = some (.ref s)) : (dCons (dV 8) (dCons (dV 3) (dCons (dV 4) (dCons (dV 5) dNil)))) c ρ ν = .ok [.ref s, .ref a, .ref b, .ref d] ν :=
  run_cons (run_var h8) (run_cons (run_var L.h3) (run_cons (run_var L.h4) (run_cons (run_var L.h5) rfl)))

theorem odd_ok {ns : List Int} {ρ : Fr} {μ : Mem} {z : Int} {m a b d : Nat} {mk : List V} {rs : List Nat} {pss : List (List Nat)} {bs : List Nat} (M : Mach μ m a b d mk rs pss bs) (L : LwI ns a b d ρ) (h6 : ρ 6 = some (.int z)) :
    ok ((tAnd (tCmp cEq (dBin opMod (dV 6) (dC (.int 2))) (dC (.int 1))) (tAnd (tNot (tE (dCall 9 (dCons (dCall 8 (dCons (dBin opDiv (dV 6) (dC (.int 2))) (dCons (dV 3) (dCons (dV 4) (dCons (dV 5) (dNil)))))) (dNil))))) (tTrue))) ⟨callF Φ 0 19, 0⟩ ρ μ) fun q ν => q = false ∧ μ <+: ν := by
  have d2 := div_k (μ := μ) (a := z) (n := 2) (by decide) (by decide)
  obtain ⟨k, hk, hk'⟩ := modk (μ := μ) (a := z) (n := 2) (by decide)
  rw [ok_tAnd]
  refine cmp_run (run_bin (run_var h6) (b := .int 2) rfl hk) (b := .int 1) (μ' := μ) rfl (t := decide (k = 1)) ?_ ?_
  · rw [cEq_int]
    by_cases q : k = 1
    · subst q; rfl
    · have : ((k : Int) == 1) = false := by rw [beq_eq_false_iff_ne]; omega
      rw [this, decide_eq_false q]
  · by_cases q : k = 1
    · rw [decide_eq_true q, if_pos rfl, ok_tAnd, ok_tNot, ok_tE, ok_dCall, ok_dCons]
      refine ok_mono (at_call (wrong_ok (n := 18) (cell := z.fdiv 2) M) (run_cons (run_bin (run_var h6) (b := .int 2) rfl d2) (run_cons (run_var L.h3) (run_cons (run_var L.h4) (run_cons (run_var L.h5) rfl))))) fun v μ1 ⟨h1, p1⟩ => ?_
      rw [ok_dNil]
      refine ok_mono (refused_ok (n := 15) h1) fun v μ2 ⟨h2, p2⟩ => ?_
      rw [h2, truth, ok_opt_some, if_neg (by simp)]
      exact ⟨rfl, p1.trans p2⟩
    · rw [decide_eq_false q, if_neg (by simp)]
      exact ⟨rfl, List.prefix_refl _⟩
noncomputable def tailB : DS := (sSeq (sSet 9 (dBin opAdd (dLst (dCons (dMeth 0 15 (Str.ofString "starts") (dV 8) (dNil)) (dNil))) (dComp [14] (iRange (dCons (dB1 bLen (dV 3)) (dNil))) (cb1 14) (tTrue) (dMeth 0 14 (Str.ofString "leads") (dV 8) (dCons (dV 14) (dNil))))))
    (sSeq (sFor (iSeq (dV 9)) (bd1 10) (sSeq (sExpr (dM1 .list bAppend (dV 10) (dC (.int 99))))
    (sNil)))
    (sSeq (sSet 11 (dComp [15] (iSeq (dV 9)) (cb1 15) (tTrue) (dB1 bList (dV 15))))
    (sSeq (sSet 12 (dNew 0 12 (dCons (dV 3) (dCons (dV 4) (dCons (dLst (dCons (dBin opSub (dB1 bLen (dV 3)) (dC (.int 1))) (dNil))) (dNil))))))
    (sSeq (sIf (tOr (tNot (tE (dCall 10 (dCons (dV 8) (dCons (dV 3) (dCons (dV 4) (dCons (dV 5) (dNil)))))))) (tOr (tCmp cNe (dMeth 0 15 (Str.ofString "starts") (dV 12) (dNil)) (dLst (dCons (dBin opSub (dB1 bLen (dV 3)) (dC (.int 1))) (dNil)))) (tFalse))) (sSeq (sRet (dC (.bool false)))
    (sNil)) (sNil))
    (sSeq (sRet (dAnd (dCmp cEq (dV 9) (dV 11)) (dCall 10 (dCons (dV 8) (dCons (dV 3) (dCons (dV 4) (dCons (dV 5) (dNil))))))))
    (sNil)))))))
noncomputable def tailA : DS := (sSeq (sSet 7 (dLst (dCons (dB1 bList (dV 3)) (dCons (dComp [13] (iSeq (dV 4)) (cb1 13) (tTrue) (dB1 bList (dV 13))) (dCons (dB1 bList (dV 5)) (dNil))))))
    (sSeq (sSet 8 (dNew 0 12 (dCons (dIdx (dV 7) (dC (.int 0))) (dCons (dIdx (dV 7) (dC (.int 1))) (dCons (dIdx (dV 7) (dC (.int 2))) (dNil))))))
    (sSeq (sIf (tOr (tCmp cNe (dV 7) (dLst (dCons (dV 3) (dCons (dV 4) (dCons (dV 5) (dNil)))))) (tOr (tNot (tE (dCall 10 (dCons (dV 8) (dCons (dV 3) (dCons (dV 4) (dCons (dV 5) (dNil)))))))) (tFalse))) (sSeq (sRet (dC (.bool false)))
    (sNil)) (sNil))
    (sSeq (sPut (dIdx (dV 7) (dC (.int 0))) (dC (.int 0)) (dC (.str (Str.ofString "zzzzzz"))))
    (sSeq (sExpr (dM1 .list bAppend (dIdx (dIdx (dV 7) (dC (.int 1))) (dC (.int 0))) (dC (.int 99))))
    (sSeq (sExpr (dM0 .list bPop (dIdx (dV 7) (dC (.int 1)))))
    (sSeq (sExpr (dM1 .list bAppend (dIdx (dV 7) (dC (.int 2))) (dC (.int 99))))
    tailB)))))))

theorem tailB_ok {ns : List Int} {ρ : Fr} {μ : Mem} {lo m a b d s : Nat} {mk : List V} {rs : List Nat} {pss : List (List Nat)} {bs : List Nat} (M : Mach μ m a b d mk rs pss bs) (Ob : ObjM lo μ s m mk pss bs) (L : LwI ns a b d ρ) (h8 : ρ 8 = some (.ref s)) :
    okS (tailB ⟨callF Φ 0 19, 0⟩ ρ μ) (fun _ _ => False) (fun v _ => v = .bool true) := by
  have hlim' : lim = 1000000 := rfl
  obtain ⟨m0, m12, a1, b1, d1, ga, gb, gd, la, lb, mks, rows, rd⟩ := id M
  have lbs := rd.len
  have pos : 1 ≤ μ.length := by have := (List.getElem?_eq_some_iff.mp ga).1; omega
  unfold tailB
  refine step_set ?_
  -- told
  have p1 := pre_new μ (O.list (nts bs))
  have p2 := pre_new (μ ++ [O.list (nts bs)]) (O.list [V.ref μ.length])
  have el : dLst (dCons (dMeth 0 15 (Str.ofString "starts") (dV 8) dNil) dNil) ⟨callF Φ 0 19, 0⟩ ρ μ = .ok (.ref (μ.length + 1)) (μ ++ [O.list (nts bs)] ++ [O.list [V.ref μ.length]]) := by
    have e1 : dMeth 0 15 (Str.ofString "starts") (dV 8) dNil ⟨callF Φ 0 19, 0⟩ ρ μ = .ok (.ref μ.length) (μ ++ [O.list (nts bs)]) := run_meth (run_var h8) (isA_starts Ob) rfl (starts_eq (fu := 0) (n := 18) Ob)
    have e2 : (dCons (dMeth 0 15 (Str.ofString "starts") (dV 8) dNil) dNil) ⟨callF Φ 0 19, 0⟩ ρ μ = .ok [.ref μ.length] (μ ++ [O.list (nts bs)]) := run_cons e1 rfl
    have := run_lst e2 (by show 1 ≤ lim; decide)
    rw [show (μ ++ [O.list (nts bs)]).length = μ.length + 1 by simp] at this
    exact this
  rw [ok_dBin, el, ok_ok, ok_dComp, ok_iRange]
  have p02 := p1.trans p2
  have hr1 : (μ ++ [O.list (nts bs)] ++ [O.list [V.ref μ.length]])[μ.length]? = some (.list (nts bs)) := pre_get p2 (new_get _ _)
  have hl1 : (μ ++ [O.list (nts bs)] ++ [O.list [V.ref μ.length]])[μ.length + 1]? = some (.list [V.ref μ.length]) := by
    have := new_get (μ ++ [O.list (nts bs)]) (O.list [V.ref μ.length])
    rwa [show (μ ++ [O.list (nts bs)]).length = μ.length + 1 by simp] at this
  have hn1 : (μ ++ [O.list (nts bs)] ++ [O.list [V.ref μ.length]]).length = μ.length + 2 := by simp
  generalize μ ++ [O.list (nts bs)] ++ [O.list [V.ref μ.length]] = μ1 at p02 hr1 hl1 hn1 ⊢
  have ln : dB1 bLen (dV 3) ⟨callF Φ 0 19, 0⟩ ρ μ1 = .ok (.int (m : Int)) μ1 := by rw [← la]; exact run_len (run_var L.h3) (pre_get p02 ga)
  rw [run_cons ln rfl, ok_ok, range1 (lk (by omega)), ok_ok]
  refine ⟨by simp [L.h14], ?_⟩
  refine ok_mono (leads_comp (fu := 0) (n := 18) (lo' := μ.length + 2) h8 L.h14 (Ob.mono fun i _ o e => pre_get p02 e) m 0 [] μ1 (by omega) (List.prefix_refl _) (by omega) (by omega) .nil List.nodup_nil (fun _ h => by cases h)) fun xs μ2 ⟨hs, e1, rows2, nd2, lo2, p3⟩ => ?_
  subst e1
  have lhs : hs.length = m := by rw [rows2.len, lb]
  rw [ok_newL]
  refine ⟨by simp [refs]; omega, ?_⟩
  have p4 := pre_new μ2 (O.list (refs hs))
  rw [add_list (pre_get (p3.trans p4) hl1) (new_get _ _), ok_newL]
  refine ⟨by simp [refs]; omega, ?_⟩
  have p5 := pre_new (μ2 ++ [O.list (refs hs)]) (O.list ([V.ref μ.length] ++ refs hs))
  have q5 := (p3.trans p4).trans p5
  have gh5 := new_get (μ2 ++ [O.list (refs hs)]) (O.list ([V.ref μ.length] ++ refs hs))
  have hl5 : (μ2 ++ [O.list (refs hs)]).length = μ2.length + 1 := by simp
  have ehs : [V.ref μ.length] ++ refs hs = refs (μ.length :: hs) := rfl
  rw [hl5] at gh5 ⊢
  rw [ehs] at gh5 q5 p5 ⊢
  have l12 := pre_len p3
  have rows5 : Rows (μ2 ++ [O.list (refs hs)] ++ [O.list (refs (μ.length :: hs))]) m (μ.length :: hs) (bs :: pss) := .cons pos (pre_get q5 hr1) rd (rows2.pre (p4.trans p5))
  have nd5 : (μ.length :: hs).Nodup := List.nodup_cons.mpr ⟨fun q => by have := (lo2 _ q).1; omega, nd2⟩
  have nh5 : μ2.length + 1 ∉ μ.length :: hs := fun q => by
    rcases List.mem_cons.mp q with q | q
    · omega
    · have := (lo2 _ q).2; omega
  have q05 := p02.trans q5
  generalize μ2 ++ [O.list (refs hs)] ++ [O.list (refs (μ.length :: hs))] = μ5 at q5 q05 gh5 rows5 ⊢
  have L9 := L.set (i := 9) (v := .ref (μ2.length + 1)) (by decide) (by decide)
  have h89 : (ρ.set 9 (.ref (μ2.length + 1))) 8 = some (.ref s) := by simp [set_apply, h8]
  have h99 : (ρ.set 9 (.ref (μ2.length + 1))) 9 = some (.ref (μ2.length + 1)) := by simp [set_apply]
  generalize ρ.set 9 (.ref (μ2.length + 1)) = ρ9 at L9 h89 h99 ⊢
  -- each with ninety-nine behind it
  rw [okS_seq, okS_for, ok_iSeq, run_var h99, ok_ok]
  simp only [gh5]
  refine app_loop (hs := μ.length :: hs) _ _ ρ9 μ5 gh5 nh5 nd5 rows5 m12 fun ρ10 μ6 hρ hn6 ho6 rows6 => ?_
  have s6 : ∀ (i : Nat) (o : O), μ[i]? = some o → μ6[i]? = some o := fun i o e => by
    rw [ho6 i (fun q => ?_)]
    · exact pre_get q05 e
    · have hi := (List.getElem?_eq_some_iff.mp e).1
      rcases List.mem_cons.mp q with q | q
      · omega
      · have := (lo2 _ q).1; omega
  have gh6 : μ6[μ2.length + 1]? = some (.list (refs (μ.length :: hs))) := by rw [ho6 _ nh5]; exact gh5
  have M6 := M.sub s6
  have Ob6 : ObjM lo μ6 s m mk pss bs := Ob.mono fun i _ o e => s6 i o e
  have L10 := L9.of hρ
  have h810 : ρ10 8 = some (.ref s) := by rw [hρ 8 (by decide)]; exact h89
  have h910 : ρ10 9 = some (.ref (μ2.length + 1)) := by rw [hρ 9 (by decide)]; exact h99
  have pos6 : 1 ≤ μ6.length := by have := (List.getElem?_eq_some_iff.mp gh6).1; omega
  -- kept
  refine step_set ?_
  rw [ok_dComp, ok_iSeq, run_var h910, ok_ok]
  simp only [gh6]
  refine ⟨by simp [L10.h15], ok_mono (copy_rows (lo := 0) L10.h15 gh6 (μ.length :: hs) _ [] [] μ6 (List.prefix_refl _) pos6 (by decide) rows6 .nil (by simp; omega) (fun _ h => by cases h) (Nat.zero_le _)) fun xs μ7 ⟨ks, e7, rows7, p7, _⟩ => ?_⟩
  subst e7
  have lks : ks.length = m + 1 := by rw [rows7.len]; simp; omega
  rw [ok_newL]
  refine ⟨by simp [refs]; omega, ?_⟩
  have p8 := pre_new μ7 (O.list (refs ks))
  have gk := new_get μ7 (O.list (refs ks))
  have p68 := p7.trans p8
  have rows8 := rows7.pre p8
  rw [List.nil_append] at rows8
  generalize μ7.length = kk at gk ⊢
  generalize μ7 ++ [O.list (refs ks)] = μ8 at p68 gk rows8 ⊢
  have L11 := L10.set (i := 11) (v := .ref kk) (by decide) (by decide)
  have h811 : (ρ10.set 11 (.ref kk)) 8 = some (.ref s) := by simp [set_apply, h810]
  have h911 : (ρ10.set 11 (.ref kk)) 9 = some (.ref (μ2.length + 1)) := by simp [set_apply, h910]
  have h1111 : (ρ10.set 11 (.ref kk)) 11 = some (.ref kk) := by simp [set_apply]
  generalize ρ10.set 11 (.ref kk) = ρ11 at L11 h811 h911 h1111 ⊢
  -- another machine
  have M8 : Mach μ8 m a b d mk rs pss bs := M6.sub fun i o e => pre_get p68 e
  have Ob8 : ObjM lo μ8 s m mk pss bs := Ob6.mono fun i _ o e => pre_get p68 e
  have gh8 := pre_get p68 gh6
  have rows68 := rows6.pre p68
  have em1 : ((m : Int) - 1) = ((m - 1 : Nat) : Int) := by omega
  have lone : ∀ (ρ : Fr) (ν : Mem), ρ 3 = some (.ref a) → ν[a]? = some (.list mk) → dLst (dCons (dBin opSub (dB1 bLen (dV 3)) (dC (.int 1))) dNil) ⟨callF Φ 0 19, 0⟩ ρ ν = .ok (.ref ν.length) (ν ++ [.list (nts [m - 1])]) := fun ρ ν h g => by
    have e1 : dBin opSub (dB1 bLen (dV 3)) (dC (.int 1)) ⟨callF Φ 0 19, 0⟩ ρ ν = .ok (.int ((m - 1 : Nat) : Int)) ν := by
      refine run_bin (run_len (run_var h) g) (b := .int 1) (μ₂ := ν) rfl ?_
      rw [la, ← em1]; rfl
    have e2 : (dCons (dBin opSub (dB1 bLen (dV 3)) (dC (.int 1))) dNil) ⟨callF Φ 0 19, 0⟩ ρ ν = .ok [.int ((m - 1 : Nat) : Int)] ν := run_cons e1 rfl
    exact run_lst e2 (by show 1 ≤ lim; decide)
  have n9 := pre_new μ8 (O.list (nts [m - 1]))
  have M9 : Mach (μ8 ++ [O.list (nts [m - 1])]) m a b μ8.length mk rs pss [m - 1] :=
    { m0 := m0, m12 := m12, a1 := a1, b1 := b1, d1 := by have := (List.getElem?_eq_some_iff.mp M8.ga).1; omega, ga := pre_get n9 M8.ga, gb := pre_get n9 M8.gb, gd := new_get _ _, la := la, lb := lb, mks := mks, rows := M8.rows.pre n9, rd := ⟨by simp, fun p hp => by rw [List.mem_singleton.mp hp]; omega, by simp⟩ }
  refine step_set (new_ok (fu := 0) (n := 16) rfl (run_cons (run_var L11.h3) (run_cons (run_var L11.h4) (run_cons (lone _ _ L11.h3 M8.ga) rfl))) M9 fun s' μ10 s10 Ob10 => ?_)
  have k10 : ∀ (i : Nat) (o : O), μ8[i]? = some o → μ10[i]? = some o := fun i o e => s10 i o (pre_get n9 e)
  have Mx : Mach μ10 m a b d mk rs pss bs := M8.sub k10
  have Obx : ObjM lo μ10 s m mk pss bs := Ob8.mono fun i _ o e => k10 i o e
  have L12 := L11.set (i := 12) (v := .ref s') (by decide) (by decide)
  have h812 : (ρ11.set 12 (.ref s')) 8 = some (.ref s) := by simp [set_apply, h811]
  have h912 : (ρ11.set 12 (.ref s')) 9 = some (.ref (μ2.length + 1)) := by simp [set_apply, h911]
  have h1112 : (ρ11.set 12 (.ref s')) 11 = some (.ref kk) := by simp [set_apply, h1111]
  have h1212 : (ρ11.set 12 (.ref s')) 12 = some (.ref s') := by simp [set_apply]
  generalize ρ11.set 12 (.ref s') = ρ12 at L12 h812 h912 h1112 h1212 ⊢
  have ghx := k10 _ _ gh8
  have gkx := k10 _ _ gk
  have rowsh : Rows μ10 100 (μ.length :: hs) (List.map (· ++ [99]) (bs :: pss)) := rows68.mono fun r _ _ o e => k10 r o e
  have rowsk : Rows μ10 100 ks (List.map (· ++ [99]) (bs :: pss)) := rows8.mono fun r _ _ o e => k10 r o e
  rw [okS_seq, okS_if, ok_tOr, ok_tNot, ok_tE]
  refine ok_mono (at_call (right_ok (fu := 0) (n := 17) Obx Mx) (args4 L12 h812)) fun v μ11 ⟨hv, p11⟩ => ?_
  rw [hv, truth, ok_opt_some, if_neg (by simp)]
  have Ob11 := Ob10.mono (μ' := μ11) fun i _ o e => pre_get p11 e
  have e11 : dMeth 0 15 (Str.ofString "starts") (dV 12) dNil ⟨callF Φ 0 19, 0⟩ ρ12 μ11 = .ok (.ref μ11.length) (μ11 ++ [O.list (nts [m - 1])]) := run_meth (run_var h1212) (isA_starts Ob11) rfl (starts_eq (fu := 0) (n := 18) Ob11)
  have n12 := pre_new μ11 (O.list (nts [m - 1]))
  have n13 := pre_new (μ11 ++ [O.list (nts [m - 1])]) (O.list (nts [m - 1]))
  refine or_no (cmp_run e11 (lone _ _ L12.h3 (pre_get (p11.trans n12) Mx.ga)) (ne_row (pre_get n13 (new_get _ _)) (new_get _ _)) ⟨rfl, ?_⟩)
  rw [ok_tFalse, if_neg (by simp), okS_nil]
  have p13 := (p11.trans n12).trans n13
  generalize μ11 ++ [O.list (nts [m - 1])] ++ [O.list (nts [m - 1])] = μ13 at p13 ⊢
  refine now_ret ?_
  rw [ok_dAnd, ok_dCmp, run_var h912, ok_ok, run_var h1112, ok_ok]
  have eq : cEq μ13 (.ref (μ2.length + 1)) (.ref kk) = some true := eq_rows (pre_get p13 ghx) (pre_get p13 gkx) (rowsh.pre p13) (rowsk.pre p13)
  rw [eq, ok_opt_some, truth, ok_opt_some, if_pos rfl]
  exact ok_mono (at_call (right_ok (fu := 0) (n := 17) (Obx.mono fun i _ o e => pre_get p13 e) (Mx.sub fun i o e => pre_get p13 e)) (args4 L12 h812)) fun v μ14 ⟨hv, _⟩ => hv

theorem rows_up {μ : Mem} {m : Nat} {rs : List Nat} {pss : List (List Nat)} (h : Rows μ m rs pss) : ∀ r ∈ rs, r < μ.length := by
  induction h with
  | nil => intro r h; cases h
  | cons q1 q2 q3 _ ih =>
    intro r hr
    rcases List.mem_cons.mp hr with rfl | hr
    · exact (List.getElem?_eq_some_iff.mp q2).1
    · exact ih r hr
theorem tailA_ok {ns : List Int} {ρ : Fr} {μ : Mem} {m a b d : Nat} {mk : List V} {rs : List Nat} {pss : List (List Nat)} {bs : List Nat} (M : Mach μ m a b d mk rs pss bs) (L : LwI ns a b d ρ) :
    okS (tailA ⟨callF Φ 0 19, 0⟩ ρ μ) (fun _ _ => False) (fun v _ => v = .bool true) := by
  have hlim' : lim = 1000000 := rfl
  obtain ⟨m0, m12, a1, b1, d1, ga, gb, gd, la, lb, mks, rows, rd⟩ := id M
  have lbs := rd.len
  have lrs : rs.length = m := by rw [rows.len, lb]
  have pos : 1 ≤ μ.length := by have := (List.getElem?_eq_some_iff.mp ga).1; omega
  unfold tailA
  refine step_set ?_
  have n1 := pre_new μ (O.list mk)
  rw [ok_dLst, ok_dCons, lst_call L.h3 ga (by omega), ok_ok, ok_dCons, ok_dComp, ok_iSeq, run_var L.h4, ok_ok]
  have ga1 := new_get μ (O.list mk)
  have hn1 : (μ ++ [O.list mk]).length = μ.length + 1 := by simp
  generalize μ ++ [O.list mk] = μ1 at n1 ga1 hn1 ⊢
  have gb1 := pre_get n1 gb
  simp only [gb1]
  refine ⟨by simp [L.h13], ok_mono (copy_rows (lo := μ.length + 1) L.h13 gb1 rs pss [] [] μ1 (List.prefix_refl _) (by omega) (by omega) (rows.pre n1) .nil (by simp; omega) (fun _ h => by cases h) (by omega)) fun xs κ ⟨rs', e2, rows2, p2, lo2⟩ => ?_⟩
  subst e2
  rw [List.nil_append] at rows2
  have lrs' : rs'.length = m := by rw [rows2.len, lb]
  have up2 : ∀ r ∈ rs', r < κ.length := rows_up rows2
  rw [ok_newL]
  refine ⟨by simp [refs]; omega, ?_⟩
  have n3 := pre_new κ (O.list (refs rs'))
  have gb3 := new_get κ (O.list (refs rs'))
  have hn3 : (κ ++ [O.list (refs rs')]).length = κ.length + 1 := by simp
  generalize κ ++ [O.list (refs rs')] = μ3 at n3 gb3 hn3 ⊢
  have q3 := (n1.trans p2).trans n3
  rw [ok_dCons, lst_call L.h5 (pre_get q3 gd) (lk (by simp [nts]; omega)), ok_ok, ok_dNil, ok_newL]
  refine ⟨by show 3 ≤ lim; decide, ?_⟩
  rw [hn3]
  have n4 := pre_new μ3 (O.list (nts bs))
  have gd4 := new_get μ3 (O.list (nts bs))
  have hn4 : (μ3 ++ [O.list (nts bs)]).length = κ.length + 2 := by simp; omega
  rw [hn3] at gd4
  generalize μ3 ++ [O.list (nts bs)] = μ4 at n4 gd4 hn4 ⊢
  have n5 := pre_new μ4 (O.list [V.ref μ.length, .ref κ.length, .ref (κ.length + 1)])
  have gh5 := new_get μ4 (O.list [V.ref μ.length, .ref κ.length, .ref (κ.length + 1)])
  have hn5 : (μ4 ++ [O.list [V.ref μ.length, .ref κ.length, .ref (κ.length + 1)]]).length = κ.length + 3 := by simp; omega
  rw [hn4] at gh5 ⊢
  generalize μ4 ++ [O.list [V.ref μ.length, .ref κ.length, .ref (κ.length + 1)]] = μ5 at n5 gh5 hn5 ⊢
  have q5 := (q3.trans n4).trans n5
  have ga5 := pre_get (((p2.trans n3).trans n4).trans n5) ga1
  have gb5 := pre_get (n4.trans n5) gb3
  have gd5 := pre_get n5 gd4
  have rows5 := rows2.pre ((n3.trans n4).trans n5)
  have lκ := pre_len p2
  have M5 : Mach μ5 m μ.length κ.length (κ.length + 1) mk rs' pss bs := { m0 := m0, m12 := m12, a1 := pos, b1 := by omega, d1 := by omega, ga := ga5, gb := gb5, gd := gd5, la := la, lb := lb, mks := mks, rows := rows5, rd := rd }
  have L7 := L.set (i := 7) (v := .ref (κ.length + 2)) (by decide) (by decide)
  have h77 : (ρ.set 7 (.ref (κ.length + 2))) 7 = some (.ref (κ.length + 2)) := by simp [set_apply]
  generalize ρ.set 7 (.ref (κ.length + 2)) = ρ7 at L7 h77 ⊢
  have l3h : ([V.ref μ.length, .ref κ.length, .ref (κ.length + 1)] : List V).length ≤ lim := by show 3 ≤ lim; decide
  -- the machine
  refine step_set (new_ok (fu := 0) (n := 16) rfl (run_cons (run_idx (run_var h77) (k := .int 0) rfl (item_list (i := 0) gh5 rfl l3h)) (run_cons (run_idx (run_var h77) (k := .int 1) rfl (item_list (i := 1) gh5 rfl l3h)) (run_cons (run_idx (run_var h77) (k := .int 2) rfl (item_list (i := 2) gh5 rfl l3h)) rfl))) M5 fun s μ6 s6 Ob6 => ?_)
  have L8 := L7.set (i := 8) (v := .ref s) (by decide) (by decide)
  have h78 : (ρ7.set 8 (.ref s)) 7 = some (.ref (κ.length + 2)) := by simp [set_apply, h77]
  have h88 : (ρ7.set 8 (.ref s)) 8 = some (.ref s) := by simp [set_apply]
  generalize ρ7.set 8 (.ref s) = ρ8 at L8 h78 h88 ⊢
  have M6 : Mach μ6 m a b d mk rs pss bs := M.sub fun i o e => s6 i o (pre_get q5 e)
  have M6' := M5.sub s6
  have gh6 := s6 _ _ gh5
  rw [okS_seq, okS_if]
  have n7 := pre_new μ6 (O.list [V.ref a, .ref b, .ref d])
  have e7 : dLst (dCons (dV 3) (dCons (dV 4) (dCons (dV 5) dNil))) ⟨callF Φ 0 19, 0⟩ ρ8 μ6 = .ok (.ref μ6.length) (μ6 ++ [O.list [V.ref a, .ref b, .ref d]]) := by
    have e : (dCons (dV 3) (dCons (dV 4) (dCons (dV 5) dNil))) ⟨callF Φ 0 19, 0⟩ ρ8 μ6 = .ok [V.ref a, .ref b, .ref d] μ6 := run_cons (run_var L8.h3) (run_cons (run_var L8.h4) (run_cons (run_var L8.h5) rfl))
    exact run_lst e (by show 3 ≤ lim; decide)
  have M7 := M6.sub fun i o e => pre_get n7 e
  have M7' := M6'.sub fun i o e => pre_get n7 e
  refine or_no (cmp_run (run_var h78) e7 (ne_three mks (pre_get n7 gh6) (new_get _ _) M7'.ga M7'.gb M7'.gd M7'.rows M7.ga M7.gb M7.gd M7.rows) ⟨rfl, ?_⟩)
  rw [ok_tOr, ok_tNot, ok_tE]
  refine ok_mono (at_call (right_ok (fu := 0) (n := 17) (Ob6.mono fun i _ o e => pre_get n7 e) M7) (args4 L8 h88)) fun v μ8 ⟨hv, p8⟩ => ?_
  rw [hv, truth, ok_opt_some, if_neg (by simp), ok_tFalse, if_neg (by simp), okS_nil]
  have q8 := n7.trans p8
  have Ob8 := Ob6.mono (μ' := μ8) fun i _ o e => pre_get q8 e
  have gh8 := pre_get q8 gh6
  have M8' := M6'.sub (μ' := μ8) fun i o e => pre_get q8 e
  have M8 := M6.sub (μ' := μ8) fun i o e => pre_get q8 e
  -- the lists changed
  obtain ⟨x, xs, rfl⟩ : ∃ x xs, mk = x :: xs := by cases mk with | nil => simp at la; omega | cons x xs => exact ⟨x, xs, rfl⟩
  obtain ⟨r, rt, rfl⟩ : ∃ r rt, rs' = r :: rt := by cases rs' with | nil => simp at lrs'; omega | cons x xs => exact ⟨x, xs, rfl⟩
  obtain ⟨ps, pt, rfl⟩ : ∃ ps pt, pss = ps :: pt := by cases pss with | nil => simp at lb; omega | cons x xs => exact ⟨x, xs, rfl⟩
  have hr1 := lo2 r List.mem_cons_self
  have hr2 := up2 r List.mem_cons_self
  obtain ⟨gr8, rr⟩ : μ8[r]? = some (.list (nts ps)) ∧ Row m ps := by
    have := M8'.rows
    cases this with
    | cons g1 g2 g3 g4 => exact ⟨g2, g3⟩
  have lps := rr.len
  refine spoil h78 gh8 M8'.ga M8'.gb gr8 M8'.gd (by omega) (by omega) (by omega) (by omega) (by omega) (by omega) (by omega) (by omega) (by omega) (by omega) (by omega) (by omega) (by omega) fun ν hν hk => ?_
  -- the machine and what was drawn stand as they were
  refine tailB_ok (lo := μ5.length) (M.sub fun i o e => ?_) (Ob8.mono fun i hi o e => ?_) L8 h88
  · have hi := (List.getElem?_eq_some_iff.mp e).1
    rw [hk i (by omega) (by omega) (by omega) (by omega)]
    exact pre_get q8 (s6 i o (pre_get q5 e))
  · rw [hk i (by omega) (by omega) (by omega) (by omega)]; exact e

theorem plain_ok (ns : List Int) (hl : ns.length ≤ 63) : ok (callF Φ 0 depth 11 [.scr ns] []) fun v _ => v = .bool true := by
  have hlim' : lim = 1000000 := rfl
  show ok (callF Φ 0 (14 + 5 + 1) 11 [.scr ns] []) _
  refine ok_call rfl rfl ?_
  dsimp only [d_law]
  refine step_run (run_lst (vs := [.int 2]) rfl (by show 1 ≤ lim; decide)) ?_
  have g0 : ([] ++ [O.list [V.int 2]])[0]? = some (O.list [V.int 2]) := rfl
  have sp : ∃ j : Nat, 1 ≤ j ∧ ([] ++ [O.list [V.int 2]])[0]? = some (.list [.int (j : Int)]) := ⟨2, by decide, rfl⟩
  generalize hμ0 : [] ++ [O.list [V.int 2]] = μ0 at g0 sp
  have l0 : μ0.length = 1 := by rw [← hμ0]; rfl
  refine step_set ?_
  rw [ok_dCall, ok_dCons]
  refine ok_mono (at_call (cell_ok (n := 18) (k := 0) hl) rfl) fun v μ1 hv => ?_
  obtain ⟨⟨z, rfl⟩, rfl⟩ := hv
  rw [ok_dNil]
  refine ok_mono (names_ok (n := 18) (cell := z)) fun v μ2 hv => ?_
  obtain ⟨p1, nm, xs, rfl, hnm, gnm, lnm, mnm⟩ := hv
  have sp2 : ∃ j : Nat, 1 ≤ j ∧ μ2[0]? = some (.list [.int (j : Int)]) := by
    obtain ⟨j, h1, h2⟩ := sp
    exact ⟨j, h1, pre_get p1 h2⟩
  have cm : ok (dCall 7 (dCons (dV 0) (dCons (dV 1) (dCons (dV 2) (dCons (dC (.int 12)) dNil)))) ⟨callF Φ 0 19, 0⟩ ((Fr.set (fun i => [V.scr ns][i]?) 1 (.ref 0)).set 2 (.ref nm)) μ2) (MachOut μ2 12) := at_call (machine_ok (n := 17) (most := 12) hl sp2 (by omega) gnm lnm mnm (by decide) (by decide)) rfl
  obtain ⟨v, μ3, ev, D3, m, a, b, d, mk, rs, pss, bs, rfl, hm6, M3⟩ := ok_of cm
  have eu : sUnp [3, 4, 5] (dCall 7 (dCons (dV 0) (dCons (dV 1) (dCons (dV 2) (dCons (dC (.int 12)) dNil))))) ⟨callF Φ 0 19, 0⟩ ((Fr.set (fun i => [V.scr ns][i]?) 1 (.ref 0)).set 2 (.ref nm)) μ2 = .next (setIds [3, 4, 5] [.ref a, .ref b, .ref d] ((Fr.set (fun i => [V.scr ns][i]?) 1 (.ref 0)).set 2 (.ref nm))) μ3 := by
    simp only [sUnp, ev, R.thenS]; rfl
  refine okS_seq ▸ ?_
  show okS (sUnp [3, 4, 5] (dCall 7 (dCons (dV 0) (dCons (dV 1) (dCons (dV 2) (dCons (dC (.int 12)) dNil))))) ⟨callF Φ 0 19, 0⟩ ((Fr.set (fun i => [V.scr ns][i]?) 1 (.ref 0)).set 2 (.ref nm)) μ2) _ _
  rw [eu]
  have L : LwI ns a b d (setIds [3, 4, 5] [.ref a, .ref b, .ref d] ((Fr.set (fun i => [V.scr ns][i]?) 1 (.ref 0)).set 2 (.ref nm))) := ⟨rfl, rfl, rfl, rfl, rfl, rfl, rfl⟩
  generalize setIds [3, 4, 5] [.ref a, .ref b, .ref d] ((Fr.set (fun i => [V.scr ns][i]?) 1 (.ref 0)).set 2 (.ref nm)) = ρ at L
  show okS _ _ _
  refine step_call (cell_ok (n := 18) (k := 1) hl) (run_cons (run_var L.h0) rfl) fun v μ4 hv => ?_
  obtain ⟨⟨z6, rfl⟩, rfl⟩ := hv
  have L6 := L.set (i := 6) (v := .int z6) (by decide) (by decide)
  have e6 : (ρ.set 6 (.int z6)) 6 = some (.int z6) := by simp [set_apply]
  generalize ρ.set 6 (.int z6) = ρ6 at L6 e6
  rw [okS_seq, okS_if]
  refine ok_mono (odd_ok M3 L6 e6) fun q μ5 ⟨hq, p5⟩ => ?_
  rw [hq, if_neg (by simp), okS_nil]
  exact okS_mono (tailA_ok (M3.sub fun i o e => pre_get p5 e) L6) (fun _ _ h => h.elim) fun _ _ h => h
theorem plain (ns : List Int) (h : ns.length ≤ 63) : ∃ μ', callF Φ 0 depth 11 [.scr ns] [] = .ok (.bool true) μ' := by
  obtain ⟨v, μ', e, rfl⟩ := ok_of (plain_ok ns h)
  exact ⟨μ', e⟩
end
end Mine.L02
end
open PySem PySem.W PyProof.Rows Mine Mine.L02
set_option Elab.async false
set_option maxRecDepth 100000
set_option maxHeartbeats 8000000
namespace Mine.L02
noncomputable section
noncomputable def q : Program := PySem.W.view PySem.Challenge.pw_uf020006_02 [1, 2, 3, 4, 5, 7, 8, 9, 11, 12, 13, 14, 16, 17, 18, 19, 20, 21, 22, 23, 24, 25]
noncomputable def chk (K : Frag) (mg : Str → Option Value) : Bool := hitB K mg (Str.ofString "WalkError") [(Str.ofString "BadSaying"), (Str.ofString "NoWalk"), (Str.ofString "TooMany")] (Str.ofString "BadMachine") (Str.ofString "BadMachine") true
noncomputable def Xt (s : Shared) : Bool := (xlAt q [] s && recOk [] s) && chk (fragOf [(Str.ofString "WalkError"), (Str.ofString "BadSaying"), (Str.ofString "TooMany"), (Str.ofString "BadMachine"), (Str.ofString "NoWalk")] (s.heap.nsMap mainGlobals) s.heap) (s.heap.nsMap mainGlobals)
noncomputable def XP (mg : Str → Option Value) (h : Heap) : Prop := XL q [] mg h ∧ ∃ K : Frag, K.In h ∧ chk K mg = true
theorem XP.of (s : Shared) (e : Xt s = true) : XP (s.heap.nsMap mainGlobals) s.heap :=
  ⟨xl_of s (Bool.and_eq_true_iff.mp (Bool.and_eq_true_iff.mp e).1).1, _, fragOf_in, (Bool.and_eq_true_iff.mp e).2⟩
theorem XP.keeps (mg : Str → Option Value) (h h' : Heap) (x : XP mg h) (k : ∀ b o, h.get? b = some o → h'.get? b = some o) : XP mg h' :=
  ⟨XL.keeps mg h h' x.1 k, x.2.elim fun K y => ⟨K, fun a o e => k a o (y.1 a o e), y.2⟩⟩
theorem left : LeftO PySem.Challenge.pw_uf020006_02 q [] Xt (Hook.obs Hook.none) (Hook.val Hook.none) 4000 := fun w => by kernel_rfl
theorem said : PySem.Challenge.rw_uf020006_02.wellSaid = true := by kernel_rfl
theorem okk : (chainsOk q && opensWell PySem.Challenge.rw_uf020006_02.row.prog && (frees PySem.Challenge.rw_uf020006_02.row.toRowW && PySem.Challenge.rw_uf020006_02.row.within.isEmpty)) = true := by kernel_rfl
theorem hbn : bnames.all (freeB q (looseW q [])) = true := by kernel_rfl
theorem r0 : fnRec q (nmOf 0) = some (scOf (fnSt 0), bodyOf (fnSt 0), paOf (fnSt 0)) := by kernel_rfl
theorem b0 (pm cd doc : Value) (vals : List Value) (h : vals.length = 1) : bindArgs (Calls.docDef (nmOf 0) (paOf (fnSt 0)) (bodyOf (fnSt 0)) (scOf (fnSt 0)) pm cd doc) ⟨vals, []⟩ = pure (([(Str.ofString "thing")] : List Str).zip vals) := by obtain ⟨x0, v0, rfl, h0⟩ := len_succ h; cases List.length_eq_zero_iff.mp h0; kernel_rfl
theorem r1 : fnRec q (nmOf 1) = some (scOf (fnSt 1), bodyOf (fnSt 1), paOf (fnSt 1)) := by kernel_rfl
theorem b1 (pm cd doc : Value) (vals : List Value) (h : vals.length = 2) : bindArgs (Calls.docDef (nmOf 1) (paOf (fnSt 1)) (bodyOf (fnSt 1)) (scOf (fnSt 1)) pm cd doc) ⟨vals, []⟩ = pure (([(Str.ofString "thing"), (Str.ofString "many")] : List Str).zip vals) := by obtain ⟨x0, v0, rfl, h0⟩ := len_succ h; obtain ⟨x1, v1, rfl, h1⟩ := len_succ h0; cases List.length_eq_zero_iff.mp h1; kernel_rfl
theorem r2 : fnRec q (nmOf 2) = some (scOf (fnSt 2), bodyOf (fnSt 2), paOf (fnSt 2)) := by kernel_rfl
theorem b2 (pm cd doc : Value) (vals : List Value) (h : vals.length = 2) : bindArgs (Calls.docDef (nmOf 2) (paOf (fnSt 2)) (bodyOf (fnSt 2)) (scOf (fnSt 2)) pm cd doc) ⟨vals, []⟩ = pure (([(Str.ofString "thing"), (Str.ofString "many")] : List Str).zip vals) := by obtain ⟨x0, v0, rfl, h0⟩ := len_succ h; obtain ⟨x1, v1, rfl, h1⟩ := len_succ h0; cases List.length_eq_zero_iff.mp h1; kernel_rfl
theorem r3 : fnRec q (nmOf 3) = some (scOf (fnSt 3), bodyOf (fnSt 3), paOf (fnSt 3)) := by kernel_rfl
theorem b3 (pm cd doc : Value) (vals : List Value) (h : vals.length = 2) : bindArgs (Calls.docDef (nmOf 3) (paOf (fnSt 3)) (bodyOf (fnSt 3)) (scOf (fnSt 3)) pm cd doc) ⟨vals, []⟩ = pure (([(Str.ofString "_law_script"), (Str.ofString "_law_k")] : List Str).zip vals) := by obtain ⟨x0, v0, rfl, h0⟩ := len_succ h; obtain ⟨x1, v1, rfl, h1⟩ := len_succ h0; cases List.length_eq_zero_iff.mp h1; kernel_rfl
theorem r4 : fnRec q (nmOf 4) = some (scOf (fnSt 4), bodyOf (fnSt 4), paOf (fnSt 4)) := by kernel_rfl
theorem b4 (pm cd doc : Value) (vals : List Value) (h : vals.length = 2) : bindArgs (Calls.docDef (nmOf 4) (paOf (fnSt 4)) (bodyOf (fnSt 4)) (scOf (fnSt 4)) pm cd doc) ⟨vals, []⟩ = pure (([(Str.ofString "_law_script"), (Str.ofString "_law_spot")] : List Str).zip vals) := by obtain ⟨x0, v0, rfl, h0⟩ := len_succ h; obtain ⟨x1, v1, rfl, h1⟩ := len_succ h0; cases List.length_eq_zero_iff.mp h1; kernel_rfl
theorem r5 : fnRec q (nmOf 5) = some (scOf (fnSt 5), bodyOf (fnSt 5), paOf (fnSt 5)) := by kernel_rfl
theorem b5 (pm cd doc : Value) (vals : List Value) (h : vals.length = 1) : bindArgs (Calls.docDef (nmOf 5) (paOf (fnSt 5)) (bodyOf (fnSt 5)) (scOf (fnSt 5)) pm cd doc) ⟨vals, []⟩ = pure (([(Str.ofString "_law_cell")] : List Str).zip vals) := by obtain ⟨x0, v0, rfl, h0⟩ := len_succ h; cases List.length_eq_zero_iff.mp h0; kernel_rfl
theorem r6 : fnRec q (nmOf 6) = some (scOf (fnSt 6), bodyOf (fnSt 6), paOf (fnSt 6)) := by kernel_rfl
theorem b6 (pm cd doc : Value) (vals : List Value) (h : vals.length = 3) : bindArgs (Calls.docDef (nmOf 6) (paOf (fnSt 6)) (bodyOf (fnSt 6)) (scOf (fnSt 6)) pm cd doc) ⟨vals, []⟩ = pure (([(Str.ofString "_law_cell"), (Str.ofString "_law_many"), (Str.ofString "_law_first")] : List Str).zip vals) := by obtain ⟨x0, v0, rfl, h0⟩ := len_succ h; obtain ⟨x1, v1, rfl, h1⟩ := len_succ h0; obtain ⟨x2, v2, rfl, h2⟩ := len_succ h1; cases List.length_eq_zero_iff.mp h2; kernel_rfl
theorem r7 : fnRec q (nmOf 7) = some (scOf (fnSt 7), bodyOf (fnSt 7), paOf (fnSt 7)) := by kernel_rfl
theorem b7 (pm cd doc : Value) (vals : List Value) (h : vals.length = 4) : bindArgs (Calls.docDef (nmOf 7) (paOf (fnSt 7)) (bodyOf (fnSt 7)) (scOf (fnSt 7)) pm cd doc) ⟨vals, []⟩ = pure (([(Str.ofString "_law_script"), (Str.ofString "_law_spot"), (Str.ofString "_law_names_here"), (Str.ofString "_law_most")] : List Str).zip vals) := by obtain ⟨x0, v0, rfl, h0⟩ := len_succ h; obtain ⟨x1, v1, rfl, h1⟩ := len_succ h0; obtain ⟨x2, v2, rfl, h2⟩ := len_succ h1; obtain ⟨x3, v3, rfl, h3⟩ := len_succ h2; cases List.length_eq_zero_iff.mp h3; kernel_rfl
theorem r8 : fnRec q (nmOf 8) = some (scOf (fnSt 8), bodyOf (fnSt 8), paOf (fnSt 8)) := by kernel_rfl
theorem b8 (pm cd doc : Value) (vals : List Value) (h : vals.length = 4) : bindArgs (Calls.docDef (nmOf 8) (paOf (fnSt 8)) (bodyOf (fnSt 8)) (scOf (fnSt 8)) pm cd doc) ⟨vals, []⟩ = pure (([(Str.ofString "_law_cell"), (Str.ofString "_law_marks"), (Str.ofString "_law_ways"), (Str.ofString "_law_begins")] : List Str).zip vals) := by obtain ⟨x0, v0, rfl, h0⟩ := len_succ h; obtain ⟨x1, v1, rfl, h1⟩ := len_succ h0; obtain ⟨x2, v2, rfl, h2⟩ := len_succ h1; obtain ⟨x3, v3, rfl, h3⟩ := len_succ h2; cases List.length_eq_zero_iff.mp h3; kernel_rfl
theorem r9 : fnRec q (nmOf 9) = some (scOf (fnSt 9), bodyOf (fnSt 9), paOf (fnSt 9)) := by kernel_rfl
theorem b9 (pm cd doc : Value) (vals : List Value) (h : vals.length = 1) : bindArgs (Calls.docDef (nmOf 9) (paOf (fnSt 9)) (bodyOf (fnSt 9)) (scOf (fnSt 9)) pm cd doc) ⟨vals, []⟩ = pure (([(Str.ofString "_law_things")] : List Str).zip vals) := by obtain ⟨x0, v0, rfl, h0⟩ := len_succ h; cases List.length_eq_zero_iff.mp h0; kernel_rfl
theorem r10 : fnRec q (nmOf 10) = some (scOf (fnSt 10), bodyOf (fnSt 10), paOf (fnSt 10)) := by kernel_rfl
theorem b10 (pm cd doc : Value) (vals : List Value) (h : vals.length = 4) : bindArgs (Calls.docDef (nmOf 10) (paOf (fnSt 10)) (bodyOf (fnSt 10)) (scOf (fnSt 10)) pm cd doc) ⟨vals, []⟩ = pure (([(Str.ofString "_law_machine_here"), (Str.ofString "_law_marks"), (Str.ofString "_law_ways"), (Str.ofString "_law_begins")] : List Str).zip vals) := by obtain ⟨x0, v0, rfl, h0⟩ := len_succ h; obtain ⟨x1, v1, rfl, h1⟩ := len_succ h0; obtain ⟨x2, v2, rfl, h2⟩ := len_succ h1; obtain ⟨x3, v3, rfl, h3⟩ := len_succ h2; cases List.length_eq_zero_iff.mp h3; kernel_rfl
theorem r11 : fnRec q (nmOf 11) = some (scOf (fnSt 11), bodyOf (fnSt 11), paOf (fnSt 11)) := by kernel_rfl
theorem b11 (pm cd doc : Value) (vals : List Value) (h : vals.length = 1) : bindArgs (Calls.docDef (nmOf 11) (paOf (fnSt 11)) (bodyOf (fnSt 11)) (scOf (fnSt 11)) pm cd doc) ⟨vals, []⟩ = pure (([(Str.ofString "_law_script")] : List Str).zip vals) := by obtain ⟨x0, v0, rfl, h0⟩ := len_succ h; cases List.length_eq_zero_iff.mp h0; kernel_rfl
theorem r12 : (clsRec q (looseW q []) (Str.ofString "Machine")).bind (meRec · (nmOf 12)) = some (scOf (fnSt 12), bodyOf (fnSt 12), paOf (fnSt 12)) := by kernel_rfl
theorem b12 (qual : Str) (pm cd doc : Value) (vals : List Value) (h : vals.length = 4) : bindArgs (methDef (nmOf 12) qual (paOf (fnSt 12)) (bodyOf (fnSt 12)) (scOf (fnSt 12)) pm cd doc) ⟨vals, []⟩ = pure (([(Str.ofString "self"), (Str.ofString "marks"), (Str.ofString "ways"), (Str.ofString "begins")] : List Str).zip vals) := by obtain ⟨x0, v0, rfl, h0⟩ := len_succ h; obtain ⟨x1, v1, rfl, h1⟩ := len_succ h0; obtain ⟨x2, v2, rfl, h2⟩ := len_succ h1; obtain ⟨x3, v3, rfl, h3⟩ := len_succ h2; cases List.length_eq_zero_iff.mp h3; kernel_rfl
theorem r13 : (clsRec q (looseW q []) (Str.ofString "Machine")).bind (meRec · (nmOf 13)) = some (scOf (fnSt 13), bodyOf (fnSt 13), paOf (fnSt 13)) := by kernel_rfl
theorem b13 (qual : Str) (pm cd doc : Value) (vals : List Value) (h : vals.length = 2) : bindArgs (methDef (nmOf 13) qual (paOf (fnSt 13)) (bodyOf (fnSt 13)) (scOf (fnSt 13)) pm cd doc) ⟨vals, []⟩ = pure (([(Str.ofString "self"), (Str.ofString "place")] : List Str).zip vals) := by obtain ⟨x0, v0, rfl, h0⟩ := len_succ h; obtain ⟨x1, v1, rfl, h1⟩ := len_succ h0; cases List.length_eq_zero_iff.mp h1; kernel_rfl
theorem r14 : (clsRec q (looseW q []) (Str.ofString "Machine")).bind (meRec · (nmOf 14)) = some (scOf (fnSt 14), bodyOf (fnSt 14), paOf (fnSt 14)) := by kernel_rfl
theorem b14 (qual : Str) (pm cd doc : Value) (vals : List Value) (h : vals.length = 2) : bindArgs (methDef (nmOf 14) qual (paOf (fnSt 14)) (bodyOf (fnSt 14)) (scOf (fnSt 14)) pm cd doc) ⟨vals, []⟩ = pure (([(Str.ofString "self"), (Str.ofString "place")] : List Str).zip vals) := by obtain ⟨x0, v0, rfl, h0⟩ := len_succ h; obtain ⟨x1, v1, rfl, h1⟩ := len_succ h0; cases List.length_eq_zero_iff.mp h1; kernel_rfl
theorem r15 : (clsRec q (looseW q []) (Str.ofString "Machine")).bind (meRec · (nmOf 15)) = some (scOf (fnSt 15), bodyOf (fnSt 15), paOf (fnSt 15)) := by kernel_rfl
theorem b15 (qual : Str) (pm cd doc : Value) (vals : List Value) (h : vals.length = 1) : bindArgs (methDef (nmOf 15) qual (paOf (fnSt 15)) (bodyOf (fnSt 15)) (scOf (fnSt 15)) pm cd doc) ⟨vals, []⟩ = pure (([(Str.ofString "self")] : List Str).zip vals) := by obtain ⟨x0, v0, rfl, h0⟩ := len_succ h; cases List.length_eq_zero_iff.mp h0; kernel_rfl
noncomputable def psOf : Nat → List Str
  | 0 => [(Str.ofString "thing")]
  | 1 => [(Str.ofString "thing"), (Str.ofString "many")]
  | 2 => [(Str.ofString "thing"), (Str.ofString "many")]
  | 3 => [(Str.ofString "_law_script"), (Str.ofString "_law_k")]
  | 4 => [(Str.ofString "_law_script"), (Str.ofString "_law_spot")]
  | 5 => [(Str.ofString "_law_cell")]
  | 6 => [(Str.ofString "_law_cell"), (Str.ofString "_law_many"), (Str.ofString "_law_first")]
  | 7 => [(Str.ofString "_law_script"), (Str.ofString "_law_spot"), (Str.ofString "_law_names_here"), (Str.ofString "_law_most")]
  | 8 => [(Str.ofString "_law_cell"), (Str.ofString "_law_marks"), (Str.ofString "_law_ways"), (Str.ofString "_law_begins")]
  | 9 => [(Str.ofString "_law_things")]
  | 10 => [(Str.ofString "_law_machine_here"), (Str.ofString "_law_marks"), (Str.ofString "_law_ways"), (Str.ofString "_law_begins")]
  | 11 => [(Str.ofString "_law_script")]
  | 12 => [(Str.ofString "self"), (Str.ofString "marks"), (Str.ofString "ways"), (Str.ofString "begins")]
  | 13 => [(Str.ofString "self"), (Str.ofString "place")]
  | 14 => [(Str.ofString "self"), (Str.ofString "place")]
  | 15 => [(Str.ofString "self")]
  | _ => []
noncomputable def clsA (mg : Str → Option Value) : Nat → Addr
  | 0 => adr mg (Str.ofString "Machine")
  | 1 => adr mg (Str.ofString "WalkError")
  | 2 => adr mg (Str.ofString "BadSaying")
  | 3 => adr mg (Str.ofString "TooMany")
  | 4 => adr mg (Str.ofString "BadMachine")
  | 5 => adr mg (Str.ofString "NoWalk")
  | _ => 0
theorem all_in {mean : ExcName → Option Value} {mg mb mN : Str → Option Value} {h : Heap} {c : ClsRec} {C N : Addr} (T : Top q (looseW q []) mean mg mb h) (hc : clsRec q (looseW q []) (Str.ofString "Machine") = some c) (A : PlainAt h c.withCmp C N mN) : ∀ (f : Nat) (F : Fn), Φ f = some F → ∃ a d, FnAt h mg mN (glOf f) (nmOf f) (scOf (fnSt f)) (bodyOf (fnSt f)) (psOf f) a d := phi_all (p := fun f _ => ∃ a d, FnAt h mg mN (glOf f) (nmOf f) (scOf (fnSt f)) (bodyOf (fnSt f)) (psOf f) a d) (fnAt_of T _ r0 b0) (fnAt_of T _ r1 b1) (fnAt_of T _ r2 b2) (fnAt_of T _ r3 b3) (fnAt_of T _ r4 b4) (fnAt_of T _ r5 b5) (fnAt_of T _ r6 b6) (fnAt_of T _ r7 b7) (fnAt_of T _ r8 b8) (fnAt_of T _ r9 b9) (fnAt_of T _ r10 b10) (fnAt_of T _ r11 b11) (meAt_of A _ (by have := r12; rw [hc] at this; exact this) b12) (meAt_of A _ (by have := r13; rw [hc] at this; exact this) b13) (meAt_of A _ (by have := r14; rw [hc] at this; exact this) b14) (meAt_of A _ (by have := r15; rw [hc] at this; exact this) b15)
theorem all_fns {P : Pg} {mN : Str → Option Value} (H : Like P) (hF : ∀ (f : Nat) (F : Fn), Φ f = some F → FnAt P.h₀ P.mg mN (glOf f) (nmOf f) (scOf (fnSt f)) (bodyOf (fnSt f)) (psOf f) (P.fnA f) (P.fd f)) : ∀ (f : Nat) (F : Fn), Φ f = some F → ∃ tab ps body, FnOk P f F tab ps body := phi_all (p := fun f F => ∃ tab ps body, FnOk P f F tab ps body) ⟨_, _, _, fnOk_at (hF 0 _ rfl) (tab := tab_is_mark) (by decide +kernel) rfl (s_is_mark H)⟩ ⟨_, _, _, fnOk_at (hF 1 _ rfl) (tab := tab_is_place) (by decide +kernel) rfl (s_is_place H)⟩ ⟨_, _, _, fnOk_at (hF 2 _ rfl) (tab := tab_need_places) (by decide +kernel) rfl (s_need_places H)⟩ ⟨_, _, _, fnOk_at (hF 3 _ rfl) (tab := tab__law_cell_at) (by decide +kernel) rfl (s__law_cell_at H)⟩ ⟨_, _, _, fnOk_at (hF 4 _ rfl) (tab := tab__law_draw) (by decide +kernel) rfl (s__law_draw H)⟩ ⟨_, _, _, fnOk_at (hF 5 _ rfl) (tab := tab__law_names) (by decide +kernel) rfl (s__law_names H)⟩ ⟨_, _, _, fnOk_at (hF 6 _ rfl) (tab := tab__law_some) (by decide +kernel) rfl (s__law_some H)⟩ ⟨_, _, _, fnOk_at (hF 7 _ rfl) (tab := tab__law_machine) (by decide +kernel) rfl (s__law_machine H)⟩ ⟨_, _, _, fnOk_at (hF 8 _ rfl) (tab := tab__law_wrong) (by decide +kernel) rfl (s__law_wrong H)⟩ ⟨_, _, _, fnOk_at (hF 9 _ rfl) (tab := tab__law_refused) (by decide +kernel) rfl (s__law_refused H)⟩ ⟨_, _, _, fnOk_at (hF 10 _ rfl) (tab := tab__law_right) (by decide +kernel) rfl (s__law_right H)⟩ ⟨_, _, _, fnOk_at (hF 11 _ rfl) (tab := tab_law) (by decide +kernel) rfl (s_law H)⟩ ⟨_, _, _, fnOk_at (hF 12 _ rfl) (tab := tab_Machine___init__) (by decide +kernel) rfl (s_Machine___init__ H)⟩ ⟨_, _, _, fnOk_at (hF 13 _ rfl) (tab := tab_Machine_mark) (by decide +kernel) rfl (s_Machine_mark H)⟩ ⟨_, _, _, fnOk_at (hF 14 _ rfl) (tab := tab_Machine_leads) (by decide +kernel) rfl (s_Machine_leads H)⟩ ⟨_, _, _, fnOk_at (hF 15 _ rfl) (tab := tab_Machine_starts) (by decide +kernel) rfl (s_Machine_starts H)⟩
theorem ats_ok : (clsRec q (looseW q []) (Str.ofString "Machine")).map (fun c => [(Str.ofString "names"), (Str.ofString "roads"), (Str.ofString "firsts")].all (c.statics.contains ·)) = some true := by kernel_rfl
theorem ats_no : ∀ x ∈ ([(Str.ofString "names"), (Str.ofString "roads"), (Str.ofString "firsts")] : List Str), typeLookup (.type "object") x = pure none := by
  intro x hx
  rw [typeLookup_type, builtinLookup_eq_fast]
  simp only [List.mem_cons, List.not_mem_nil, or_false] at hx
  rcases hx with rfl | rfl | rfl <;> kernel_rfl
theorem mes_no : ∀ p ∈ ([((Str.ofString "__init__"), 12), ((Str.ofString "mark"), 13), ((Str.ofString "leads"), 14), ((Str.ofString "starts"), 15)] : List (Str × Nat)), ∃ y, typeLookup (.type "object") p.1 = pure y := by
  intro p hp
  simp only [typeLookup_type, builtinLookup_eq_fast]
  simp only [List.mem_cons, List.not_mem_nil, or_false] at hp
  rcases hp with rfl | rfl | rfl | rfl
  · exact ⟨(fastLookup "object" (Str.ofString "__init__")).getD none, by kernel_rfl⟩
  · exact ⟨(fastLookup "object" (Str.ofString "mark")).getD none, by kernel_rfl⟩
  · exact ⟨(fastLookup "object" (Str.ofString "leads")).getD none, by kernel_rfl⟩
  · exact ⟨(fastLookup "object" (Str.ofString "starts")).getD none, by kernel_rfl⟩
theorem like_of {mean : ExcName → Option Value} {mN : Str → Option Value} {P : Pg} {c : ClsRec} {C N : Addr} (hΦ : P.Φ = Mine.L02.Φ) (hcl : P.cls = clsA P.mg) (hgl : P.gl = glOf) (T : Top q (looseW q []) mean P.mg P.mb P.h₀) (hc : clsRec q (looseW q []) (Str.ofString "Machine") = some c) (hg : P.mg (Str.ofString "Machine") = some (.ref C)) (A : PlainAt P.h₀ c.withCmp C N mN) (X : XP P.mg P.h₀)
    (hF : ∀ (f : Nat) (F : Fn), Mine.L02.Φ f = some F → FnAt P.h₀ P.mg mN (glOf f) (nmOf f) (scOf (fnSt f)) (bodyOf (fnSt f)) (psOf f) (P.fnA f) (P.fd f)) : Like P where
  Φ := hΦ
  nm := fun f F h => ⟨by rw [hgl], (hF f F h).name⟩
  o_Machine := by
    refine objCls_of A (by rw [hcl]; exact adr_of hg) ?_ ats_no (fun p hp => ?_) mes_no
    · have := ats_ok; rw [hc] at this; exact Option.some.inj this
    · simp only [List.mem_cons, List.not_mem_nil, or_false] at hp
      rcases hp with rfl | rfl | rfl | rfl
      · exact (hF 12 _ rfl).asMeth rfl
      · exact (hF 13 _ rfl).asMeth rfl
      · exact (hF 14 _ rfl).asMeth rfl
      · exact (hF 15 _ rfl).asMeth rfl
  g_Machine := by rw [hcl]; show _ = some (Value.ref (adr P.mg (Str.ofString "Machine"))); rw [adr_of hg]; exact hg
  e_WalkError := by rw [hcl]; exact own_adr T (by kernel_rfl)
  e_BadSaying := by rw [hcl]; exact own_adr T (by kernel_rfl)
  e_TooMany := by rw [hcl]; exact own_adr T (by kernel_rfl)
  e_BadMachine := by rw [hcl]; exact own_adr T (by kernel_rfl)
  e_NoWalk := by rw [hcl]; exact own_adr T (by kernel_rfl)
  c_LETTERS := const_str T (by kernel_rfl) (by decide +kernel)
  c_MOST_LETTERS := const_int T (by kernel_rfl)
  c_MOST_PLACES := const_int T (by kernel_rfl)
  tr := by
    obtain ⟨K, h1, h2⟩ := X.2
    refine ⟨K, h1, fun c b hb => ?_⟩
    rw [hcl]
    match c, hb with
    | 4, hb => cases hb; exact hitOk_of (its := [(Str.ofString "BadSaying"), (Str.ofString "NoWalk"), (Str.ofString "TooMany")]) h2 (by rw [hcl]; rfl)
    | 0, hb => cases hb
    | 1, hb => cases hb
    | 2, hb => cases hb
    | 3, hb => cases hb
    | 5, hb => cases hb
    | 6, hb => cases hb
    | 7, hb => cases hb
    | _ + 8, hb => cases hb
end
end Mine.L02
theorem PySem.Challenge.cw_uf020006_02_holds : PySem.Challenge.rw_uf020006_02.Holds := by
  refine holds_law said fun sd => ?_
  refine holds_open (q := q) (loose := []) (Xt := Mine.L02.Xt) (XP := Mine.L02.XP) (Yf := Hook.obs Hook.none) (Ya := Hook.val Hook.none) (YP := Hook.says Hook.none) (N := 4000) left (Hook.of _) (Hook.keeps _) XP.of XP.keeps (by rfl) (by rfl) (by rfl) (fun s e => recFacts_of (Bool.and_eq_true_iff.mp (Bool.and_eq_true_iff.mp e).1).2) (by rfl) sd okk ⟨rfl, rfl, rfl, rfl, rfl, by decide +kernel⟩ ?hw ?hc
  case hw => w_witness2
  intro w s₀ s₁ mg mb G Y fa o pm cd doc dV kV ho hd hcd hD hmg hg args vals as hpre hlay hrd hwl hlo
  have T := G.T
  have X := G.X
  obtain ⟨c, C, N, mN, hc, hcg, hA⟩ := cls_of (x := (Str.ofString "Machine")) G.TE (by kernel_rfl)
  clear Y ho hd hcd hD
  obtain ⟨A, D, hF⟩ := skolem (all_in (mN := mN) T hc hA) (f₀ := 11) rfl
  let P : Pg := { prog := PySem.Challenge.rw_uf020006_02.row.prog, w := w, h₀ := s₁.heap, cls := clsA mg, Φ := Mine.L02.Φ, fuel := 0, fnA := A, fd := D, gl := glOf, mg := mg, mb := mb }
  have H : Like P := like_of (P := P) rfl rfl rfl T hc hcg hA X hF
  have hok := all_fns (P := P) H hF
  have gd : Good P := good_at (P := P) T hbn fun f F h => ⟨_, _, _, _, _, hF f F h⟩
  have hfa : fa = A 11 := Value.ref.inj (Option.some.inj (hmg.symm.trans ((hF 11 _ rfl).ns rfl)))
  clear hmg
  subst hfa
  wrow_args hpre hlay hrd hwl hlo
  rename IntsAre _ _ => hI
  rename Heap.IsList _ _ _ => hL
  obtain ⟨μ', hc⟩ := (fun {vs : List Value} {ns : List Int} (_ : IntsAre vs ns) => Mine.L02.plain ns) hI (by omega)
  refine wpAny_mono (law_call (P := P) gd hok (n := Mine.L02.depth) (f := 11) rfl ⟨by decide, by decide, rfl⟩ rfl hL hI (by omega) hc) (fun v s' q => ?_) fun _ _ q => q.elim
  obtain ⟨rfl, h', tk, rfl, hk⟩ := q
  exact good_end (fun _ => rfl) (by first | rfl | wrow_post) (.of_eq hg) hk
