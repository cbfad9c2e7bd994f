import PyProof.Rows.All
import PyProof.P3Statements
import PyProof.P3In
import PyProof.Cells
import PyProof.MakeMany
import PyProof.DictKinds
import PyProof.TupleKey
import PyProof.SliceMore
import PySem.Builtin.Range.Common
import PyProof.Rows.Many
import PyProof.Rules2
import PyProof.Rules3
import PyProof.Calls
import OpenK.KLine
import PyProof.ListCopy
import PyProof.TupleOfSeq
import PyProof.ConsumeWalk
import PyProof.DictStraight
import PyProof.StrBlockL
import PyProof.ZipIter
import OpenK.KCall
import OpenK.KWalk
import Wide.BridgeG
import Wide.OneHead
import Wide.All
import OpenK.AllK
import Wide.FinOn
import PySem.Challenge.RW_uf020006_04
set_option Elab.async false
section
namespace Mine
noncomputable section
open PySem

inductive V where
  | none
  | bool (b : Bool)
  | int (i : Int)
  | str (s : Str)
  | tup (xs : List V)
  | ref (a : Nat)
  | scr (ns : List Int)
  | exc (c : Nat)
  deriving Inhabited

inductive O where
  | list (xs : List V)
  | dict (es : List (V × V))
  | inst (c : Nat) (d : Nat)
  deriving Inhabited
noncomputable instance : DecidableEq O := fun a b => Classical.propDecidable (a = b)

noncomputable abbrev Mem := List O
noncomputable abbrev Fr := Nat → Option V
noncomputable def Fr.set (ρ : Fr) (i : Nat) (v : V) : Fr := fun j => bif Nat.beq j i then some v else ρ j
noncomputable def Fr.nil : Fr := fun _ => Option.none
theorem Fr.set_self (ρ : Fr) (i : Nat) (v : V) : ρ.set i v i = some v := by simp [Fr.set]
theorem Fr.set_ne (ρ : Fr) {i j : Nat} (v : V) (h : j ≠ i) : ρ.set i v j = ρ j := by
  have : Nat.beq j i = false := by cases e : Nat.beq j i with
    | false => rfl
    | true => exact absurd (Nat.eq_of_beq_eq_true e) h
  simp [Fr.set, this]

inductive R (α : Type) where
  | ok (a : α) (μ : Mem)
  | exc (c : Nat) (μ : Mem)
  | bad
noncomputable def R.bind {α β : Type} : R α → (α → Mem → R β) → R β
  | .ok a μ, f => f a μ
  | .exc c μ, _ => .exc c μ
  | .bad, _ => .bad
noncomputable def R.opt {α : Type} (μ : Mem) : Option α → R α
  | some a => .ok a μ
  | none => .bad
inductive RS where
  | next (ρ : Fr) (μ : Mem)
  | ret (v : V) (μ : Mem)
  | exc (c : Nat) (ρ : Fr) (μ : Mem)
  | bad
noncomputable def R.thenS {α : Type} (ρ : Fr) : R α → (α → Mem → RS) → RS
  | .ok a μ, f => f a μ
  | .exc c μ, _ => .exc c ρ μ
  | .bad, _ => .bad

structure Cx where
  call : Nat → List V → Mem → R V
  fuel : Nat
noncomputable abbrev DE := Cx → Fr → Mem → R V
noncomputable abbrev DT := Cx → Fr → Mem → R Bool
noncomputable abbrev DL := Cx → Fr → Mem → R (List V)
noncomputable abbrev DS := Cx → Fr → Mem → RS

/-- the longest list -/
noncomputable def lim : Nat := 1000000

noncomputable def allD (f : V → Option PyData) : List V → Option (List PyData)
  | [] => some []
  | x :: r => match f x with
    | Option.none => Option.none
    | some d => (allD f r).map (d :: ·)
/-- the data of a value, lists read out -/
noncomputable def toD : Nat → Mem → V → Option PyData
  | _, _, .none => some .none
  | _, _, .bool b => some (.bool b)
  | _, _, .int i => some (.int i)
  | _, _, .str s => some (.str s)
  | n + 1, μ, .tup xs => (allD (toD n μ) xs).map .tuple
  | n + 1, μ, .ref a => match μ[a]? with
    | some (.list xs) => (allD (toD n μ) xs).map .list
    | _ => Option.none
  | _, _, _ => Option.none
noncomputable def deep : Nat := 50
noncomputable def eqV (μ : Mem) (a b : V) : Option Bool := match toD deep μ a, toD deep μ b with
  | some d, some e => some (PyData.eqv d e)
  | _, _ => Option.none
end
end Mine
end
section
set_option autoImplicit false
namespace Mine
noncomputable section
open PySem

mutual
noncomputable def hashV (w : World) : V → Int
  | .int i => hashInt i
  | .bool b => hashInt (if b then 1 else 0)
  | .str x => hashStr w x
  | .tup xs => reduceHash (Builtin.Tuple.tupleHashOf (hashVs w xs))
  | _ => 0
noncomputable def hashVs (w : World) : List V → List Int
  | [] => []
  | x :: r => hashV w x :: hashVs w r
end

/-- what is fixed: the program, the world, the heap ahead of the call, the classes -/
structure Pl where
  prog : Program
  w : World
  h₀ : Heap
  cls : Nat → Addr
noncomputable abbrev Pl.M (P : Pl) : Model := model P.prog P.w

noncomputable abbrev Bk := List Addr

mutual
inductive Rel (P : Pl) (β : Bk) (h : Heap) : V → Value → Prop
  | none : Rel P β h .none .none
  | bool (b) : Rel P β h (.bool b) (.bool b)
  | int (i t) : Rel P β h (.int i) (.int i t)
  | str {x t} : PyData.strOk x = true → x.length ≤ lim → Rel P β h (.str x) (.str x t)
  | tup {a vs n xs} : h.get? a = some ⟨.type "tuple", Option.none, .seq vs n, #[]⟩ → RelL P β h xs vs.toList → xs.length ≤ lim → Rel P β h (.tup xs) (.ref a)
  | ref {i a} : β[i]? = some a → Rel P β h (.ref i) (.ref a)
  | scr {a items ns} : P.h₀.IsList a items → items.size ≤ lim → RelL P β h (ns.map V.int) items.toList → Rel P β h (.scr ns) (.ref a)
  | exc {a o c vs} : h.get? a = some o → o.cls = .ref (P.cls c) → o.data = .fields vs → a ∉ β → Rel P β h (.exc c) (.ref a)
inductive RelL (P : Pl) (β : Bk) (h : Heap) : List V → List Value → Prop
  | nil : RelL P β h [] []
  | cons {v vs x xs} : Rel P β h v x → RelL P β h vs xs → RelL P β h (v :: vs) (x :: xs)
end

noncomputable def instO (C dx : Addr) : Obj := ⟨.ref C, some dx, .plain, #[]⟩

inductive EntRel (P : Pl) (β : Bk) (h : Heap) : List (V × V) → List DictEntry → Prop
  | nil : EntRel P β h [] []
  | cons {k v kv vv hs r es} : Rel P β h k kv → Rel P β h v vv → hs = hashV P.w k → EntRel P β h r es → EntRel P β h ((k, v) :: r) (⟨hs, kv, vv⟩ :: es)

inductive ObjRel (P : Pl) (β : Bk) (h : Heap) : O → Addr → Prop
  | list {a vs n xs} : h.get? a = some ⟨.type "list", Option.none, .seq vs n, #[]⟩ → RelL P β h xs vs.toList → xs.length ≤ lim → ObjRel P β h (.list xs) a
  | dict {a es n kvs} : h.get? a = some ⟨.type "dict", Option.none, .dict es n, #[]⟩ → EntRel P β h kvs es.toList → kvs.length ≤ lim → ObjRel P β h (.dict kvs) a
  | inst {a c d dx} : h.get? a = some (instO (P.cls c) dx) → β[d]? = some dx → ObjRel P β h (.inst c d) a

structure Inv (P : Pl) (β : Bk) (μ : Mem) (h : Heap) : Prop where
  len : β.length = μ.length
  nd : β.Nodup
  obj : ∀ (i : Nat) (o : O) (a : Addr), μ[i]? = some o → β[i]? = some a → ObjRel P β h o a
  base : ∀ (a : Addr) (o : Obj), P.h₀.get? a = some o → h.get? a = some o
  new : ∀ a ∈ β, P.h₀.get? a = none

/-- an object that stays, but for the slots of a frame -/
noncomputable def Same (o o' : Obj) : Prop := o' = o ∨ ((∃ es n, o.data = .dict es n) ∧ ∃ sl, o' = { o with slots := sl })
noncomputable def Keep (β : Bk) (h h' : Heap) : Prop := ∀ a o, h.get? a = some o → a ∉ β → ∃ o', h'.get? a = some o' ∧ Same o o'

theorem Same.refl (o : Obj) : Same o o := .inl rfl
theorem Same.trans {a b c : Obj} (x : Same a b) (y : Same b c) : Same a c := by
  rcases x with rfl | ⟨hc, sl, rfl⟩
  · exact y
  · rcases y with rfl | ⟨_, sl', rfl⟩
    · exact .inr ⟨hc, sl, rfl⟩
    · exact .inr ⟨hc, sl', rfl⟩
theorem Same.data {a b : Obj} (x : Same a b) : b.data = a.data := by rcases x with rfl | ⟨_, _, rfl⟩ <;> rfl
theorem Same.eq {a b : Obj} (x : Same a b) (h : ∀ es n, a.data ≠ .dict es n) : b = a := by
  rcases x with rfl | ⟨⟨es, n, hc⟩, _⟩
  · rfl
  · exact absurd hc (h es n)
theorem Same.cls {a b : Obj} (x : Same a b) : b.cls = a.cls := by rcases x with rfl | ⟨_, _, rfl⟩ <;> rfl

theorem Keep.refl (β : Bk) (h : Heap) : Keep β h h := fun _ o e _ => ⟨o, e, .refl o⟩
theorem Keep.get {β : Bk} {h h' : Heap} (k : Keep β h h') {a : Addr} {o : Obj} (e : h.get? a = some o) (n : a ∉ β) (hc : ∀ es n, o.data ≠ .dict es n) : h'.get? a = some o := by
  obtain ⟨o', e', s⟩ := k a o e n
  rw [s.eq hc] at e'; exact e'
theorem Keep.of {β : Bk} {h h' : Heap} (k : ∀ a o, h.get? a = some o → h'.get? a = some o) : Keep β h h' := fun a o e _ => ⟨o, k a o e, .refl o⟩
theorem Keep.ns {β : Bk} {h h' : Heap} (k : Keep β h h') {L : Addr} {m} (n : h.Ns L m) (hL : L ∉ β) : h'.Ns L m := by
  obtain ⟨o, es, ep, e, d, r⟩ := n
  obtain ⟨o', e', s⟩ := k L o e hL
  exact ⟨o', es, ep, e', s.data.trans d, r⟩
theorem Keep.cell {β : Bk} {h h' : Heap} (k : Keep β h h') {c : Addr} {v} (n : h.IsCell c v) (hc : c ∉ β) : h'.IsCell c v := by
  obtain ⟨o, e, d⟩ := n
  obtain ⟨o', e', s⟩ := k c o e hc
  exact ⟨o', e', s.data.trans d⟩

structure Post (P : Pl) (β β' : Bk) (μ' : Mem) (s s' : Shared) : Prop where
  st : ∃ h' tk, s' = { s with heap := h', toks := tk }
  inv : Inv P β' μ' s'.heap
  pre : β <+: β'
  keep : Keep β s.heap s'.heap
  fresh : ∀ a ∈ β', a ∉ β → s.heap.get? a = none

theorem Post.refl {P : Pl} {β : Bk} {μ : Mem} {s : Shared} (I : Inv P β μ s.heap) : Post P β β μ s s :=
  ⟨⟨s.heap, s.toks, rfl⟩, I, List.prefix_refl _, .refl _ _, fun _ h n => absurd h n⟩

theorem Post.trans {P : Pl} {β β₁ β₂ : Bk} {μ₁ μ₂ : Mem} {s s₁ s₂ : Shared} (p : Post P β β₁ μ₁ s s₁) (q : Post P β₁ β₂ μ₂ s₁ s₂) : Post P β β₂ μ₂ s s₂ := by
  refine ⟨?_, q.inv, p.pre.trans q.pre, fun a o e n => ?_, fun a h n => ?_⟩
  · obtain ⟨h, t, rfl⟩ := p.st
    obtain ⟨h', t', rfl⟩ := q.st
    exact ⟨h', t', rfl⟩
  · obtain ⟨o₁, e₁, s₁⟩ := p.keep a o e n
    have n₁ : a ∉ β₁ := fun h => by rw [p.fresh a h n] at e; cases e
    obtain ⟨o₂, e₂, s₂⟩ := q.keep a o₁ e₁ n₁
    exact ⟨o₂, e₂, s₁.trans s₂⟩
  · by_cases h₁ : a ∈ β₁
    · exact p.fresh a h₁ n
    · cases e : s.heap.get? a with
      | none => rfl
      | some o =>
        obtain ⟨o₁, e₁, _⟩ := p.keep a o e n
        rw [q.fresh a h h₁] at e₁; cases e₁

theorem Post.toks {P : Pl} {β : Bk} {μ : Mem} {s : Shared} (I : Inv P β μ s.heap) (t : Nat) : Post P β β μ s { s with toks := t } :=
  ⟨⟨s.heap, t, rfl⟩, I, List.prefix_refl _, .refl _ _, fun _ h n => absurd h n⟩

section
variable {P : Pl} {β β' : Bk} {μ μ' : Mem} {h h' : Heap}

theorem ObjRel.at {o : O} {a : Addr} (r : ObjRel P β h o a) : ∃ ob, h.get? a = some ob ∧ ob.cls ≠ .type "tuple" := by
  cases r with
  | list e _ _ => exact ⟨_, e, by simp⟩
  | dict e _ _ => exact ⟨_, e, by simp⟩
  | inst e _ => exact ⟨_, e, by simp [instO]⟩

theorem Inv.there (I : Inv P β μ h) {a : Addr} (ha : a ∈ β) : ∃ ob, h.get? a = some ob ∧ ob.cls ≠ .type "tuple" := by
  obtain ⟨i, hi⟩ := List.getElem?_of_mem ha
  have hl : i < μ.length := by rw [← I.len]; exact (List.getElem?_eq_some_iff.mp hi).1
  exact (I.obj i μ[i] a (List.getElem?_eq_getElem hl) hi).at

theorem prefix_get {β β' : Bk} (p : β <+: β') {i : Nat} {a : Addr} (h : β[i]? = some a) : β'[i]? = some a := by
  obtain ⟨t, rfl⟩ := p
  rw [List.getElem?_append_left (List.getElem?_eq_some_iff.mp h).1]; exact h

mutual
theorem Rel.mono (I : Inv P β μ h) (p : β <+: β') (k : Keep β h h') (hf : ∀ a ∈ β', a ∉ β → h.get? a = none) : ∀ {v : V} {x : Value}, Rel P β h v x → Rel P β' h' v x
  | _, _, .none => .none
  | _, _, .bool b => .bool b
  | _, _, .int i t => .int i t
  | _, _, .str a b => .str a b
  | _, _, .tup e r l => .tup (k.get e (fun q => by
      obtain ⟨ob, e', n⟩ := I.there q
      rw [e] at e'; cases e'; exact n rfl) (by simp)) (RelL.mono I p k hf r) l
  | _, _, .ref e => .ref (prefix_get p e)
  | _, _, .scr a b r => .scr a b (RelL.mono I p k hf r)
  | _, _, .exc (a := a) (o := o) e c d n => by
      obtain ⟨o', e', s⟩ := k a o e n
      exact .exc e' (s.cls.trans c) (s.data.trans d) fun q => by rw [hf a q n] at e; cases e
theorem RelL.mono (I : Inv P β μ h) (p : β <+: β') (k : Keep β h h') (hf : ∀ a ∈ β', a ∉ β → h.get? a = none) : ∀ {v : List V} {x : List Value}, RelL P β h v x → RelL P β' h' v x
  | _, _, .nil => .nil
  | _, _, .cons a b => .cons (Rel.mono I p k hf a) (RelL.mono I p k hf b)
end
end

theorem Rel.post {P : Pl} {β β' : Bk} {μ μ' : Mem} {s s' : Shared} (I : Inv P β μ s.heap) (p : Post P β β' μ' s s') {v : V} {x : Value} (r : Rel P β s.heap v x) : Rel P β' s'.heap v x :=
  r.mono I p.pre p.keep p.fresh
theorem RelL.post {P : Pl} {β β' : Bk} {μ μ' : Mem} {s s' : Shared} (I : Inv P β μ s.heap) (p : Post P β β' μ' s s') {v : List V} {x : List Value} (r : RelL P β s.heap v x) : RelL P β' s'.heap v x :=
  r.mono I p.pre p.keep p.fresh

/-- as Post, but what is the block's own (its names, its cells) may change -/
structure PostS (P : Pl) (W : List Addr) (β β' : Bk) (μ' : Mem) (s s' : Shared) : Prop where
  st : ∃ h' tk, s' = { s with heap := h', toks := tk }
  inv : Inv P β' μ' s'.heap
  pre : β <+: β'
  keep : ∀ a o, s.heap.get? a = some o → a ∉ β → a ∉ W → ∃ o', s'.heap.get? a = some o' ∧ Same o o'
  fresh : ∀ a ∈ β', a ∉ β → s.heap.get? a = none ∧ a ∉ W
theorem Post.own {P : Pl} {W : List Addr} {β β' : Bk} {μ' : Mem} {s s' : Shared} (p : Post P β β' μ' s s') (hW : ∀ a ∈ W, s.heap.get? a ≠ none) : PostS P W β β' μ' s s' :=
  ⟨p.st, p.inv, p.pre, fun a o e n _ => p.keep a o e n, fun a h n => ⟨p.fresh a h n, fun w => hW a w (p.fresh a h n)⟩⟩
theorem PostS.trans {P : Pl} {W : List Addr} {β β₁ β₂ : Bk} {μ₁ μ₂ : Mem} {s s₁ s₂ : Shared} (p : PostS P W β β₁ μ₁ s s₁) (q : PostS P W β₁ β₂ μ₂ s₁ s₂) : PostS P W β β₂ μ₂ s s₂ := by
  refine ⟨?_, q.inv, p.pre.trans q.pre, fun a o e n w => ?_, fun a h n => ?_⟩
  · obtain ⟨h, t, rfl⟩ := p.st
    obtain ⟨h', t', rfl⟩ := q.st
    exact ⟨h', t', rfl⟩
  · obtain ⟨o₁, e₁, s₁⟩ := p.keep a o e n w
    have n₁ : a ∉ β₁ := fun h => by rw [(p.fresh a h n).1] at e; cases e
    obtain ⟨o₂, e₂, s₂⟩ := q.keep a o₁ e₁ n₁ w
    exact ⟨o₂, e₂, s₁.trans s₂⟩
  · by_cases h₁ : a ∈ β₁
    · exact p.fresh a h₁ n
    · obtain ⟨f1, f2⟩ := q.fresh a h h₁
      refine ⟨?_, f2⟩
      cases e : s.heap.get? a with
      | none => rfl
      | some o =>
        obtain ⟨o₁, e₁, _⟩ := p.keep a o e n f2
        rw [f1] at e₁; cases e₁
theorem PostS.notIn {P : Pl} {W : List Addr} {β β' : Bk} {μ' : Mem} {s s' : Shared} (p : PostS P W β β' μ' s s') {a : Addr} {o : Obj} (h : a ∉ β) (e : s.heap.get? a = some o) : a ∉ β' :=
  fun q => by rw [(p.fresh a q h).1] at e; cases e
/-- the own things of a block are no tuples, no exceptions -/
noncomputable def OwnOk (W : List Addr) (h : Heap) : Prop := ∀ a ∈ W, ∀ o, h.get? a = some o → (∃ es n, o.data = .dict es n) ∨ (∃ v, o.data = .cell v) ∨ ((∃ vs, o.data = .fields vs) ∧ ∃ T, o.cls = .type T) ∨ (o.cls = .type "list" ∧ ∃ vs n, o.data = .seq vs n)
mutual
theorem Rel.monoS {P : Pl} {W : List Addr} {β β' : Bk} {μ μ' : Mem} {s s' : Shared} (I : Inv P β μ s.heap) (hW : OwnOk W s.heap) (p : PostS P W β β' μ' s s') : ∀ {v : V} {x : Value}, Rel P β s.heap v x → Rel P β' s'.heap v x
  | _, _, .none => .none
  | _, _, .bool b => .bool b
  | _, _, .int i t => .int i t
  | _, _, .str a b => .str a b
  | _, _, .tup (a := a) e r l => by
      obtain ⟨o', e', hs⟩ := p.keep a _ e (fun q => by
        obtain ⟨ob, e', n⟩ := I.there q
        rw [e] at e'; cases e'; exact n rfl) fun q => by
        rcases hW a q _ e with ⟨_, _, h⟩ | ⟨_, h⟩ | ⟨⟨_, h⟩, _⟩ | ⟨h, _⟩ <;> simp at h
      rw [hs.eq (by simp)] at e'
      exact .tup e' (RelL.monoS I hW p r) l
  | _, _, .ref e => .ref (prefix_get p.pre e)
  | _, _, .scr a b r => .scr a b (RelL.monoS I hW p r)
  | _, _, .exc (a := a) (o := o) e c d n => by
      obtain ⟨o', e', hs⟩ := p.keep a o e n fun q => by
        rcases hW a q _ e with ⟨_, _, h⟩ | ⟨_, h⟩ | ⟨_, T, h⟩ | ⟨_, _, _, h⟩
        · rw [d] at h; cases h
        · rw [d] at h; cases h
        · rw [c] at h; cases h
        · rw [d] at h; cases h
      exact .exc e' (hs.cls.trans c) (hs.data.trans d) (p.notIn n e)
theorem RelL.monoS {P : Pl} {W : List Addr} {β β' : Bk} {μ μ' : Mem} {s s' : Shared} (I : Inv P β μ s.heap) (hW : OwnOk W s.heap) (p : PostS P W β β' μ' s s') : ∀ {v : List V} {x : List Value}, RelL P β s.heap v x → RelL P β' s'.heap v x
  | _, _, .nil => .nil
  | _, _, .cons a b => .cons (Rel.monoS I hW p a) (RelL.monoS I hW p b)
end

mutual
theorem Rel.but {P : Pl} {β : Bk} {μ : Mem} {h h' : Heap} {W : Addr} (I : Inv P β μ h) (k : ∀ a o, h.get? a = some o → a ≠ W → h'.get? a = some o) (hWb : W ∉ β)
    (hW : ∀ o, h.get? W = some o → (∃ es n, o.data = .dict es n) ∨ ∃ v, o.data = .cell v) : ∀ {v : V} {x : Value}, Rel P β h v x → Rel P β h' v x
  | _, _, .none => .none
  | _, _, .bool b => .bool b
  | _, _, .int i t => .int i t
  | _, _, .str a b => .str a b
  | _, _, .tup (a := a) e r l => .tup (k a _ e fun q => by
      rcases hW _ (q ▸ e) with ⟨_, _, h⟩ | ⟨_, h⟩ <;> cases h) (RelL.but I k hWb hW r) l
  | _, _, .ref e => .ref e
  | _, _, .scr a b r => .scr a b (RelL.but I k hWb hW r)
  | _, _, .exc (a := a) (o := o) e c d n => .exc (k a o e fun q => by
      rcases hW _ (q ▸ e) with ⟨_, _, h⟩ | ⟨_, h⟩ <;> rw [d] at h <;> cases h) c d n
theorem RelL.but {P : Pl} {β : Bk} {μ : Mem} {h h' : Heap} {W : Addr} (I : Inv P β μ h) (k : ∀ a o, h.get? a = some o → a ≠ W → h'.get? a = some o) (hWb : W ∉ β)
    (hW : ∀ o, h.get? W = some o → (∃ es n, o.data = .dict es n) ∨ ∃ v, o.data = .cell v) : ∀ {v : List V} {x : List Value}, RelL P β h v x → RelL P β h' v x
  | _, _, .nil => .nil
  | _, _, .cons a b => .cons (Rel.but I k hWb hW a) (RelL.but I k hWb hW b)
end
theorem EntRel.but {P : Pl} {β : Bk} {μ : Mem} {h h' : Heap} {W : Addr} (I : Inv P β μ h) (k : ∀ a o, h.get? a = some o → a ≠ W → h'.get? a = some o) (hWb : W ∉ β)
    (hW : ∀ o, h.get? W = some o → (∃ es n, o.data = .dict es n) ∨ ∃ v, o.data = .cell v) : ∀ {r : List (V × V)} {es : List DictEntry}, EntRel P β h r es → EntRel P β h' r es
  | _, _, .nil => .nil
  | _, _, .cons a b c r => .cons (a.but I k hWb hW) (b.but I k hWb hW) c (r.but I k hWb hW)
theorem ObjRel.but {P : Pl} {β : Bk} {μ : Mem} {h h' : Heap} {W : Addr} (I : Inv P β μ h) (k : ∀ a o, h.get? a = some o → a ≠ W → h'.get? a = some o) (hWb : W ∉ β)
    (hW : ∀ o, h.get? W = some o → (∃ es n, o.data = .dict es n) ∨ ∃ v, o.data = .cell v) {o : O} {a : Addr} (r : ObjRel P β h o a) (ha : a ≠ W) : ObjRel P β h' o a := by
  cases r with
  | list e r l => exact .list (k _ _ e ha) (r.but I k hWb hW) l
  | dict e r l => exact .dict (k _ _ e ha) (r.but I k hWb hW) l
  | inst e d => exact .inst (k _ _ e ha) d

mutual
/-- everything but records of the machine's own classes stands -/
theorem Rel.keepBut {P : Pl} {β : Bk} {h h' : Heap} (k : ∀ a o, h.get? a = some o → (∀ vs, o.data ≠ .fields vs) ∨ (∃ C, o.cls = .ref C) → h'.get? a = some o) : ∀ {v : V} {x : Value}, Rel P β h v x → Rel P β h' v x
  | _, _, .none => .none
  | _, _, .bool b => .bool b
  | _, _, .int i t => .int i t
  | _, _, .str a b => .str a b
  | _, _, .tup e r l => .tup (k _ _ e (.inl fun _ q => by cases q)) (RelL.keepBut k r) l
  | _, _, .ref e => .ref e
  | _, _, .scr a b r => .scr a b (RelL.keepBut k r)
  | _, _, .exc e c d n => .exc (k _ _ e (.inr ⟨_, c⟩)) c d n
theorem RelL.keepBut {P : Pl} {β : Bk} {h h' : Heap} (k : ∀ a o, h.get? a = some o → (∀ vs, o.data ≠ .fields vs) ∨ (∃ C, o.cls = .ref C) → h'.get? a = some o) : ∀ {v : List V} {x : List Value}, RelL P β h v x → RelL P β h' v x
  | _, _, .nil => .nil
  | _, _, .cons a b => .cons (Rel.keepBut k a) (RelL.keepBut k b)
end
theorem EntRel.keepBut {P : Pl} {β : Bk} {h h' : Heap} (k : ∀ a o, h.get? a = some o → (∀ vs, o.data ≠ .fields vs) ∨ (∃ C, o.cls = .ref C) → h'.get? a = some o) : ∀ {r : List (V × V)} {es : List DictEntry}, EntRel P β h r es → EntRel P β h' r es
  | _, _, .nil => .nil
  | _, _, .cons a b c r => .cons (a.keepBut k) (b.keepBut k) c (r.keepBut k)

mutual
/-- tuples and records stand -/
theorem Rel.keepF {P : Pl} {β : Bk} {h h' : Heap} (k : ∀ a o, h.get? a = some o → (o.cls = .type "tuple") ∨ (∃ vs, o.data = .fields vs) → h'.get? a = some o) : ∀ {v : V} {x : Value}, Rel P β h v x → Rel P β h' v x
  | _, _, .none => .none
  | _, _, .bool b => .bool b
  | _, _, .int i t => .int i t
  | _, _, .str a b => .str a b
  | _, _, .tup e r l => .tup (k _ _ e (.inl rfl)) (RelL.keepF k r) l
  | _, _, .ref e => .ref e
  | _, _, .scr a b r => .scr a b (RelL.keepF k r)
  | _, _, .exc e c d n => .exc (k _ _ e (.inr ⟨_, d⟩)) c d n
theorem RelL.keepF {P : Pl} {β : Bk} {h h' : Heap} (k : ∀ a o, h.get? a = some o → (o.cls = .type "tuple") ∨ (∃ vs, o.data = .fields vs) → h'.get? a = some o) : ∀ {v : List V} {x : List Value}, RelL P β h v x → RelL P β h' v x
  | _, _, .nil => .nil
  | _, _, .cons a b => .cons (Rel.keepF k a) (RelL.keepF k b)
end
theorem EntRel.keepF {P : Pl} {β : Bk} {h h' : Heap} (k : ∀ a o, h.get? a = some o → (o.cls = .type "tuple") ∨ (∃ vs, o.data = .fields vs) → h'.get? a = some o) : ∀ {r : List (V × V)} {es : List DictEntry}, EntRel P β h r es → EntRel P β h' r es
  | _, _, .nil => .nil
  | _, _, .cons a b c r => .cons (a.keepF k) (b.keepF k) c (r.keepF k)

theorem EntRel.mono {P : Pl} {β β' : Bk} {μ : Mem} {h h' : Heap} (I : Inv P β μ h) (p : β <+: β') (k : Keep β h h') (hf : ∀ a ∈ β', a ∉ β → h.get? a = none) : ∀ {r : List (V × V)} {es : List DictEntry}, EntRel P β h r es → EntRel P β' h' r es
  | _, _, .nil => .nil
  | _, _, .cons a b c r => .cons (a.mono I p k hf) (b.mono I p k hf) c (r.mono I p k hf)
/-- an object that is not touched -/
theorem ObjRel.mono {P : Pl} {β β' : Bk} {μ : Mem} {h h' : Heap} (I : Inv P β μ h) (p : β <+: β') (k : Keep β h h') (hf : ∀ a ∈ β', a ∉ β → h.get? a = none) {o : O} {a : Addr} (r : ObjRel P β h o a) (ha : h'.get? a = h.get? a) : ObjRel P β' h' o a := by
  cases r with
  | list e r l => exact .list (ha.trans e) (r.mono I p k hf) l
  | dict e r l => exact .dict (ha.trans e) (r.mono I p k hf) l
  | inst e d => exact .inst (ha.trans e) (prefix_get p d)
/-- nothing but new objects -/
theorem Inv.keep {P : Pl} {β : Bk} {μ : Mem} {h h' : Heap} (I : Inv P β μ h) (k : Keep β h h') (ha : ∀ a o, h.get? a = some o → h'.get? a = some o) : Inv P β μ h' :=
  ⟨I.len, I.nd, fun i o a h1 h2 => by
    have r := I.obj i o a h1 h2
    obtain ⟨ob, e, _⟩ := r.at
    exact r.mono I (List.prefix_refl _) k (fun _ h n => absurd h n) (by rw [e]; exact ha a ob e), fun a o e => ha a o (I.base a o e), I.new⟩
theorem get_size (h : Heap) : h.get? h.objs.size = none := by
  cases e : h.get? h.objs.size with
  | none => rfl
  | some o => exact absurd (Heap.lt_size e) (Nat.lt_irrefl _)
/-- a new object of the mini heap -/
theorem Inv.push {P : Pl} {β : Bk} {μ : Mem} {h : Heap} (I : Inv P β μ h) (ob : Obj) (o : O) (hr : ObjRel P (β ++ [h.objs.size]) (h.push ob) o h.objs.size) : Inv P (β ++ [h.objs.size]) (μ ++ [o]) (h.push ob) := by
  have lt : ∀ a ∈ β, a < h.objs.size := fun a ha => let ⟨_, e, _⟩ := I.there ha; Heap.lt_size e
  have hk : ∀ a o, h.get? a = some o → (h.push ob).get? a = some o := fun a o e => Heap.get?_push_of_some _ e
  have hs0 : h.get? h.objs.size = none := by
    cases e : h.get? h.objs.size with
    | none => rfl
    | some o => exact absurd (Heap.lt_size e) (Nat.lt_irrefl _)
  have hf : ∀ a ∈ β ++ [h.objs.size], a ∉ β → h.get? a = none := fun a ha hn => by
    rcases List.mem_append.mp ha with q | q
    · exact absurd q hn
    · rw [List.mem_singleton.mp q]; exact hs0
  refine ⟨by simp [I.len], ?_, fun i o' a h1 h2 => ?_, fun a o e => hk a o (I.base a o e), fun a ha => ?_⟩
  · rw [List.nodup_append]
    refine ⟨I.nd, by simp, fun a ha b hb e => ?_⟩
    rw [List.mem_singleton.mp hb] at e
    exact absurd (lt a ha) (by rw [e]; exact Nat.lt_irrefl _)
  · by_cases hi : i < μ.length
    · rw [List.getElem?_append_left hi] at h1
      rw [List.getElem?_append_left (by rw [I.len]; exact hi)] at h2
      have r := I.obj i o' a h1 h2
      obtain ⟨ob', e, _⟩ := r.at
      exact r.mono I (List.prefix_append _ _) (.of hk) hf (by rw [e]; exact hk a ob' e)
    · have hi' : i = μ.length := by
        have := (List.getElem?_eq_some_iff.mp h1).1
        simp at this; omega
      subst hi'
      rw [List.getElem?_append_right (Nat.le_refl _)] at h1
      rw [← I.len, List.getElem?_append_right (Nat.le_refl _)] at h2
      simp at h1 h2
      rw [← h1, ← h2]; exact hr
  · rcases List.mem_append.mp ha with q | q
    · exact I.new a q
    · rw [List.mem_singleton.mp q]
      cases e : P.h₀.get? h.objs.size with
      | none => rfl
      | some o => rw [I.base _ _ e] at hs0; cases hs0

theorem nodup_inj {α : Type} : ∀ {l : List α}, l.Nodup → ∀ {i j : Nat} (hi : i < l.length) (hj : j < l.length), l[i] = l[j] → i = j
  | _ :: _, _, 0, 0, _, _, _ => rfl
  | _ :: l, h, 0, j + 1, _, hj, e => by
    have := (List.nodup_cons.mp h).1
    simp at e
    exact absurd (e ▸ List.getElem_mem (by simpa using hj)) this
  | _ :: l, h, i + 1, 0, hi, _, e => by
    have := (List.nodup_cons.mp h).1
    simp at e
    exact absurd (e ▸ List.getElem_mem (by simpa using hi)) this
  | _ :: l, h, i + 1, j + 1, hi, hj, e => by
    simp at e
    rw [nodup_inj (List.nodup_cons.mp h).2 (by simpa using hi) (by simpa using hj) e]
/-- one object of the mini heap changed in place -/
theorem Inv.upd {P : Pl} {β : Bk} {μ : Mem} {h h' : Heap} (I : Inv P β μ h) {i : Nat} {a : Addr} {o : O} (ha : β[i]? = some a) (hs : Heap.SameBut a h h') (hr : ObjRel P β h' o a) : Inv P β (μ.set i o) h' := by
  have hk : Keep β h h' := fun b ob e hb => ⟨ob, (hs.2 b fun q => hb (q ▸ List.mem_of_getElem? ha)).trans e, .refl _⟩
  refine ⟨by simp [I.len], I.nd, fun j oj b h1 h2 => ?_, fun b ob e => (hs.2 b fun q => ?_).trans (I.base b ob e), I.new⟩
  · by_cases hj : j = i
    · subst hj
      rw [ha] at h2; injection h2 with h2; subst h2
      rw [List.getElem?_set] at h1
      split at h1
      · split at h1
        · injection h1 with h1; rw [← h1]; exact hr
        · cases h1
      · exact absurd rfl ‹_›
    · rw [List.getElem?_set_ne (Ne.symm hj)] at h1
      refine (I.obj j oj b h1 h2).mono I (List.prefix_refl _) hk (fun _ h n => absurd h n) (hs.2 b fun q => hj ?_)
      subst q
      have e1 := List.getElem?_eq_some_iff.mp ha
      have e2 := List.getElem?_eq_some_iff.mp h2
      obtain ⟨l1, q1⟩ := e1
      obtain ⟨l2, q2⟩ := e2
      exact nodup_inj I.nd l2 l1 (q2.trans q1.symm)
  · subst q
    rw [I.new b (List.mem_of_getElem? ha)] at e; cases e
theorem Post.upd {P : Pl} {β : Bk} {μ : Mem} {s : Shared} {h' : Heap} (I : Inv P β μ s.heap) {i : Nat} {a : Addr} {o : O} (t : Nat) (ha : β[i]? = some a) (hs : Heap.SameBut a s.heap h') (hr : ObjRel P β h' o a) :
    Post P β β (μ.set i o) s { s with heap := h', toks := t } :=
  ⟨⟨h', t, rfl⟩, I.upd ha hs hr, List.prefix_refl _, fun b ob e hb => ⟨ob, (hs.2 b fun q => hb (q ▸ List.mem_of_getElem? ha)).trans e, .refl _⟩, fun _ h n => absurd h n⟩
/-- a new object of the mini heap -/
theorem Post.push {P : Pl} {β : Bk} {μ : Mem} {s : Shared} (I : Inv P β μ s.heap) (ob : Obj) (o : O) (t : Nat) (hr : ObjRel P (β ++ [s.heap.objs.size]) (s.heap.push ob) o s.heap.objs.size) :
    Post P β (β ++ [s.heap.objs.size]) (μ ++ [o]) s { s with heap := s.heap.push ob, toks := t } :=
  ⟨⟨_, t, rfl⟩, I.push ob o hr, List.prefix_append _ _, .of fun a o e => Heap.get?_push_of_some _ e, fun a ha hn => by
    rcases List.mem_append.mp ha with q | q
    · exact absurd q hn
    · rw [List.mem_singleton.mp q]; exact get_size _⟩
/-- things made that are none of the mini heap's -/
theorem Post.other {P : Pl} {β : Bk} {μ : Mem} {s : Shared} {h' : Heap} (I : Inv P β μ s.heap) (t : Nat) (ha : ∀ a o, s.heap.get? a = some o → h'.get? a = some o) : Post P β β μ s { s with heap := h', toks := t } :=
  ⟨⟨h', t, rfl⟩, I.keep (.of ha) ha, List.prefix_refl _, .of ha, fun _ h n => absurd h n⟩
theorem RelL.pushed {P : Pl} {β : Bk} {μ : Mem} {h : Heap} (I : Inv P β μ h) (ob : Obj) {vs : List V} {xs : List Value} (r : RelL P β h vs xs) : RelL P (β ++ [h.objs.size]) (h.push ob) vs xs :=
  r.mono I (List.prefix_append _ _) (.of fun a o e => Heap.get?_push_of_some _ e) fun a ha hn => by
    rcases List.mem_append.mp ha with q | q
    · exact absurd q hn
    · rw [List.mem_singleton.mp q]; exact get_size _

theorem RelL.length {P : Pl} {β : Bk} {h : Heap} : ∀ {vs : List V} {xs : List Value}, RelL P β h vs xs → vs.length = xs.length
  | _, _, .nil => rfl
  | _, _, .cons _ r => by simp [r.length]
theorem RelL.get {P : Pl} {β : Bk} {h : Heap} : ∀ {vs : List V} {xs : List Value}, RelL P β h vs xs → ∀ {i : Nat} {v : V}, vs[i]? = some v → ∃ x, xs[i]? = some x ∧ Rel P β h v x
  | _, _, .cons r _, 0, _, e => ⟨_, rfl, by cases e; exact r⟩
  | _, _, .cons _ r, i + 1, v, e => by
    obtain ⟨x, h1, h2⟩ := r.get (i := i) (v := v) (by simpa using e)
    exact ⟨x, by simpa using h1, h2⟩
theorem RelL.append {P : Pl} {β : Bk} {h : Heap} : ∀ {vs ws : List V} {xs ys : List Value}, RelL P β h vs xs → RelL P β h ws ys → RelL P β h (vs ++ ws) (xs ++ ys)
  | _, _, _, _, .nil, b => b
  | _, _, _, _, .cons r a, b => .cons r (a.append b)
theorem RelL.drop {P : Pl} {β : Bk} {h : Heap} : ∀ (n : Nat) {vs : List V} {xs : List Value}, RelL P β h vs xs → RelL P β h (vs.drop n) (xs.drop n)
  | 0, _, _, r => r
  | _ + 1, _, _, .nil => .nil
  | n + 1, _, _, .cons _ r => r.drop n
theorem RelL.take {P : Pl} {β : Bk} {h : Heap} : ∀ (n : Nat) {vs : List V} {xs : List Value}, RelL P β h vs xs → RelL P β h (vs.take n) (xs.take n)
  | 0, _, _, _ => .nil
  | _ + 1, _, _, .nil => .nil
  | n + 1, _, _, .cons a r => .cons a (r.take n)
theorem RelL.set {P : Pl} {β : Bk} {h : Heap} {v : V} {x : Value} (r₀ : Rel P β h v x) : ∀ (n : Nat) {vs : List V} {xs : List Value}, RelL P β h vs xs → RelL P β h (vs.set n v) (xs.set n x)
  | _, _, _, .nil => .nil
  | 0, _, _, .cons _ r => .cons r₀ r
  | n + 1, _, _, .cons a r => .cons a (r.set r₀ n)
end
end Mine
end
section
set_option autoImplicit false
namespace Mine
noncomputable section
open PySem

noncomputable def newL (μ : Mem) (xs : List V) : R V := if xs.length ≤ lim then .ok (.ref μ.length) (μ ++ [.list xs]) else .bad
noncomputable def newT (μ : Mem) (xs : List V) : R V := if xs.length ≤ lim then .ok (.tup xs) μ else .bad
noncomputable def newS (μ : Mem) (x : Str) : R V := if x.length ≤ lim then .ok (.str x) μ else .bad

noncomputable def dV (i : Nat) : DE := fun _ ρ μ => R.opt μ (ρ i)
noncomputable def dC (v : V) : DE := fun _ _ μ => .ok v μ
noncomputable def dBin (f : V → V → Mem → R V) (l r : DE) : DE := fun c ρ μ => (l c ρ μ).bind fun a μ => (r c ρ μ).bind fun b μ => f a b μ
noncomputable def dUn (f : V → Mem → R V) (l : DE) : DE := fun c ρ μ => (l c ρ μ).bind fun a μ => f a μ
noncomputable def dCmp (f : Mem → V → V → Option Bool) (l r : DE) : DE := fun c ρ μ => (l c ρ μ).bind fun a μ => (r c ρ μ).bind fun b μ => (R.opt μ (f μ a b)).bind fun t μ => .ok (.bool t) μ
noncomputable def tCmp (f : Mem → V → V → Option Bool) (l r : DE) : DT := fun c ρ μ => (l c ρ μ).bind fun a μ => (r c ρ μ).bind fun b μ => R.opt μ (f μ a b)
noncomputable def dCmp2 (f g : Mem → V → V → Option Bool) (l m r : DE) : DE := fun c ρ μ => (l c ρ μ).bind fun a μ => (m c ρ μ).bind fun b μ => (R.opt μ (f μ a b)).bind fun t μ =>
  if t then (r c ρ μ).bind fun x μ => (R.opt μ (g μ b x)).bind fun t μ => .ok (.bool t) μ else .ok (.bool false) μ
noncomputable def tCmp2 (f g : Mem → V → V → Option Bool) (l m r : DE) : DT := fun c ρ μ => (l c ρ μ).bind fun a μ => (m c ρ μ).bind fun b μ => (R.opt μ (f μ a b)).bind fun t μ =>
  if t then (r c ρ μ).bind fun x μ => R.opt μ (g μ b x) else .ok false μ

noncomputable def dNil : DL := fun _ _ μ => .ok [] μ
noncomputable def dCons (d : DE) (r : DL) : DL := fun c ρ μ => (d c ρ μ).bind fun v μ => (r c ρ μ).bind fun vs μ => .ok (v :: vs) μ
noncomputable def dTup (r : DL) : DE := fun c ρ μ => (r c ρ μ).bind fun vs μ => newT μ vs
noncomputable def dLst (r : DL) : DE := fun c ρ μ => (r c ρ μ).bind fun vs μ => newL μ vs

noncomputable def truth (_ : Mem) : V → Option Bool
  | .none => some false
  | .bool b => some b
  | .int i => some (i != 0)
  | _ => Option.none
noncomputable def tE (d : DE) : DT := fun c ρ μ => (d c ρ μ).bind fun v μ => R.opt μ (truth μ v)
noncomputable def tNot (t : DT) : DT := fun c ρ μ => (t c ρ μ).bind fun b μ => .ok (!b) μ
noncomputable def tAnd (t u : DT) : DT := fun c ρ μ => (t c ρ μ).bind fun b μ => if b then u c ρ μ else .ok false μ
noncomputable def tOr (t u : DT) : DT := fun c ρ μ => (t c ρ μ).bind fun b μ => if b then .ok true μ else u c ρ μ
noncomputable def tTrue : DT := fun _ _ μ => .ok true μ
noncomputable def tFalse : DT := fun _ _ μ => .ok false μ
noncomputable def dNot (d : DE) : DE := fun c ρ μ => (d c ρ μ).bind fun v μ => (R.opt μ (truth μ v)).bind fun b μ => .ok (.bool (!b)) μ
noncomputable def dAnd (d e : DE) : DE := fun c ρ μ => (d c ρ μ).bind fun v μ => (R.opt μ (truth μ v)).bind fun b μ => if b then e c ρ μ else .ok v μ
noncomputable def dOr (d e : DE) : DE := fun c ρ μ => (d c ρ μ).bind fun v μ => (R.opt μ (truth μ v)).bind fun b μ => if b then .ok v μ else e c ρ μ
noncomputable def dIf (t : DT) (d e : DE) : DE := fun c ρ μ => (t c ρ μ).bind fun b μ => if b then d c ρ μ else e c ρ μ

/- operators -/
noncomputable def small (i : Int) : Bool := decide (-9223372036854775808 ≤ i) && decide (i < 9223372036854775808)
noncomputable def opAdd : V → V → Mem → R V
  | .int a, .int b, μ => .ok (.int (a + b)) μ
  | .str a, .str b, μ => newS μ (a ++ b)
  | .tup a, .tup b, μ => newT μ (a ++ b)
  | .ref a, .ref b, μ => match μ[a]?, μ[b]? with
    | some (.list xs), some (.list ys) => newL μ (xs ++ ys)
    | _, _ => .bad
  | _, _, _ => .bad
noncomputable def opSub : V → V → Mem → R V
  | .int a, .int b, μ => .ok (.int (a - b)) μ
  | _, _, _ => .bad
noncomputable def opMul : V → V → Mem → R V
  | .int a, .int b, μ => if small a || small b then .ok (.int (a * b)) μ else .bad
  | .ref a, .int k, μ => match μ[a]? with
    | some (.list xs) => if small k && decide (xs.length * k.toNat ≤ lim) then newL μ (List.replicate k.toNat xs).flatten else .bad
    | _ => .bad
  | _, _, _ => .bad
noncomputable def opDiv : V → V → Mem → R V
  | .int a, .int b, μ => if b = 0 ∨ 1073741824 ≤ b.natAbs then .bad else .ok (.int (a.fdiv b)) μ
  | _, _, _ => .bad
noncomputable def opMod : V → V → Mem → R V
  | .int a, .int b, μ => if b = 0 then .bad else .ok (.int (a.fmod b)) μ
  | _, _, _ => .bad
noncomputable def opNeg : V → Mem → R V
  | .int a, μ => .ok (.int (-a)) μ
  | _, _ => .bad
noncomputable def cLt (_ : Mem) : V → V → Option Bool
  | .int a, .int b => some (decide (a < b))
  | _, _ => Option.none
noncomputable def cLe (_ : Mem) : V → V → Option Bool
  | .int a, .int b => some (decide (a ≤ b))
  | _, _ => Option.none
noncomputable def cGt (_ : Mem) : V → V → Option Bool
  | .int a, .int b => some (decide (a > b))
  | _, _ => Option.none
noncomputable def cGe (_ : Mem) : V → V → Option Bool
  | .int a, .int b => some (decide (a ≥ b))
  | _, _ => Option.none
noncomputable def cEq (μ : Mem) (a b : V) : Option Bool := eqV μ a b
noncomputable def cNe (μ : Mem) (a b : V) : Option Bool := (eqV μ a b).map (!·)
noncomputable def cIn (μ : Mem) (a : V) : V → Option Bool
  | .tup xs => match toD deep μ a, allD (toD deep μ) xs with
    | some d, some es => some (es.any fun y => PyData.eqv y d)
    | _, _ => Option.none
  | .ref l => match μ[l]? with
    | some (.list xs) => match toD deep μ a, allD (toD deep μ) xs with
      | some d, some es => some (es.any fun y => PyData.eqv y d)
      | _, _ => Option.none
    | _ => Option.none
  | _ => Option.none
noncomputable def cNotIn (μ : Mem) (a b : V) : Option Bool := (cIn μ a b).map (!·)

/- items and slices -/
noncomputable def at? (i : Int) (xs : List V) : Option V := if small i then (seqIndex? i xs.length).bind (xs[·]?) else Option.none
noncomputable def item (μ : Mem) (a : V) : V → R V
  | .int i => match a with
    | .tup xs => R.opt μ (at? i xs)
    | .ref l => match μ[l]? with
      | some (.list xs) => R.opt μ (at? i xs)
      | _ => .bad
    | .scr ns => R.opt μ (at? i (ns.map V.int))
    | .str x => if small i then R.opt μ (((seqIndex? i x.length).bind (x.cps[·]?)).map fun c => V.str ⟨#[c]⟩) else .bad
    | _ => .bad
  | _ => .bad
noncomputable def dIdx (a i : DE) : DE := fun c ρ μ => (a c ρ μ).bind fun v μ => (i c ρ μ).bind fun k μ => item μ v k
noncomputable def cut {α : Type} (lo hi : Option Int) (xs : List α) : List α :=
  (xs.drop (lo.elim 0 (clipAt xs.length))).take (hi.elim xs.length (clipAt xs.length) - lo.elim 0 (clipAt xs.length))
noncomputable def cutS (lo hi : Option Int) (x : Str) : Str := ⟨(cut lo hi x.cps.toList).toArray⟩
noncomputable def slc (μ : Mem) (lo hi : Option Int) : V → R V
  | .tup xs => newT μ (cut lo hi xs)
  | .ref l => match μ[l]? with
    | some (.list xs) => newL μ (cut lo hi xs)
    | _ => .bad
  | .str x => newS μ (cutS lo hi x)
  | _ => .bad
noncomputable abbrev DO := Cx → Fr → Mem → R (Option Int)
noncomputable def oNone : DO := fun _ _ μ => .ok Option.none μ
noncomputable def oSome (d : DE) : DO := fun c ρ μ => (d c ρ μ).bind fun v μ => match v with
  | .int i => .ok (some i) μ
  | _ => .bad
noncomputable def dSlc (a : DE) (lo hi : DO) : DE := fun c ρ μ => (a c ρ μ).bind fun v μ => (lo c ρ μ).bind fun l μ => (hi c ρ μ).bind fun h μ => slc μ l h v

noncomputable def dCall (f : Nat) (args : DL) : DE := fun c ρ μ => (args c ρ μ).bind fun vs μ => c.call f vs μ
/-- a built-in function of one argument -/
noncomputable def dB1 (f : Mem → V → R V) (d : DE) : DE := fun c ρ μ => (d c ρ μ).bind fun v μ => f μ v
noncomputable def dB2 (f : Mem → V → V → R V) (d e : DE) : DE := fun c ρ μ => (d c ρ μ).bind fun v μ => (e c ρ μ).bind fun u μ => f μ v u
noncomputable def bLen (μ : Mem) : V → R V
  | .tup xs => .ok (.int xs.length) μ
  | .str x => .ok (.int x.length) μ
  | .scr ns => .ok (.int ns.length) μ
  | .ref a => match μ[a]? with
    | some (.list xs) => .ok (.int xs.length) μ
    | _ => .bad
  | _ => .bad

/- statements -/
noncomputable def sNil : DS := fun _ ρ μ => .next ρ μ
noncomputable def sSeq (a b : DS) : DS := fun c ρ μ => match a c ρ μ with
  | .next ρ μ => b c ρ μ
  | .ret v μ => .ret v μ
  | .exc x ρ μ => .exc x ρ μ
  | .bad => .bad
noncomputable def sSet (i : Nat) (d : DE) : DS := fun c ρ μ => (d c ρ μ).thenS ρ fun v μ => .next (ρ.set i v) μ
noncomputable def sIf (t : DT) (a b : DS) : DS := fun c ρ μ => (t c ρ μ).thenS ρ fun q μ => if q then a c ρ μ else b c ρ μ
noncomputable def sRet (d : DE) : DS := fun c ρ μ => (d c ρ μ).thenS ρ fun v μ => .ret v μ
noncomputable def sRetN : DS := fun _ _ μ => .ret .none μ
noncomputable def sExpr (d : DE) : DS := fun c ρ μ => (d c ρ μ).thenS ρ fun _ μ => .next ρ μ

/- loops -/
structure It where
  items : List V
  chk : Mem → Bool
noncomputable abbrev DI := Cx → Fr → Mem → R It
noncomputable abbrev Bd := V → Fr → Option Fr
noncomputable def bd1 (i : Nat) : Bd := fun v ρ => some (ρ.set i v)
noncomputable def bd2 (i j : Nat) : Bd := fun v ρ => match v with
  | .tup [a, b] => some ((ρ.set i a).set j b)
  | _ => none
/-- as bd1, bd2, for names that are not bound yet (a comprehension's own) -/
noncomputable def cb1 (i : Nat) : Bd := fun v ρ => match ρ i with
  | none => some (ρ.set i v)
  | some _ => none
noncomputable def cb2 (i j : Nat) : Bd := fun v ρ => match ρ i, ρ j, v with
  | none, none, .tup [a, b] => some ((ρ.set i a).set j b)
  | _, _, _ => none
noncomputable def forS (chk : Mem → Bool) (bd : Bd) (body : DS) (c : Cx) : List V → Fr → Mem → RS
  | [], ρ, μ => if chk μ then .next ρ μ else .bad
  | v :: r, ρ, μ => if chk μ then match bd v ρ with
      | none => .bad
      | some ρ' => match body c ρ' μ with
        | .next ρ'' μ' => forS chk bd body c r ρ'' μ'
        | .ret v μ' => .ret v μ'
        | .exc _ _ _ => .bad
        | .bad => .bad
    else .bad
noncomputable def sFor (it : DI) (bd : Bd) (body : DS) : DS := fun c ρ μ => (it c ρ μ).thenS ρ fun t μ => forS t.chk bd body c t.items ρ μ
/-- as bind, but an exception is not followed -/
noncomputable def R.quiet {α β : Type} : R α → (α → Mem → R β) → R β
  | .ok a μ, f => f a μ
  | _, _ => .bad
noncomputable def compS (chk : Mem → Bool) (bd : Bd) (cond : DT) (elt : DE) (c : Cx) (ρ : Fr) : List V → Mem → List V → R (List V)
  | [], μ, acc => if chk μ then .ok acc μ else .bad
  | v :: r, μ, acc => if chk μ then match bd v ρ with
      | none => .bad
      | some ρ' => (cond c ρ' μ).quiet fun t μ => if t then (elt c ρ' μ).quiet fun x μ => if acc.length < lim then compS chk bd cond elt c ρ r μ (acc ++ [x]) else .bad
        else compS chk bd cond elt c ρ r μ acc
    else .bad
/-- a comprehension; locs: its own names -/
noncomputable def dComp (locs : List Nat) (it : DI) (bd : Bd) (cond : DT) (elt : DE) : DE := fun c ρ μ => (it c ρ μ).bind fun t μ => if locs.all (fun i => (ρ i).isNone) then (compS t.chk bd cond elt c ρ t.items μ []).bind fun xs μ => newL μ xs else .bad
/-- a list, a tuple -/
noncomputable def iSeq (d : DE) : DI := fun c ρ μ => (d c ρ μ).bind fun v μ => match v with
  | .tup xs => .ok ⟨xs, fun _ => true⟩ μ
  | .ref a => match μ[a]? with
    | some (.list xs) => .ok ⟨xs, fun μ => decide (μ[a]? = some (.list xs))⟩ μ
    | _ => .bad
  | _ => .bad
noncomputable def tiny (i : Int) : Bool := decide (-1073741824 ≤ i) && decide (i < 1073741824)
noncomputable def rangeL (a b c : Int) : List V := (List.range (Builtin.Range.rangeSize a b c).toNat).map fun k => V.int (a + (k : Nat) * c)
noncomputable def rangeOf (μ : Mem) (a b c : Int) : R It := if tiny a && tiny b && (decide (c = 1) || decide (c = -1)) then .ok ⟨rangeL a b c, fun _ => true⟩ μ else .bad
noncomputable def rangeArgs (μ : Mem) : List V → R It
  | [.int n] => rangeOf μ 0 n 1
  | [.int a, .int b] => rangeOf μ a b 1
  | [.int a, .int b, .int c] => rangeOf μ a b c
  | _ => .bad
noncomputable def iRange (ds : DL) : DI := fun c ρ μ => (ds c ρ μ).bind fun vs μ => rangeArgs μ vs
end
end Mine
end
section
set_option autoImplicit false
namespace Mine
noncomputable section
open PySem

structure Fn where
  np : Nat
  body : DS

noncomputable def callF (Φ : Nat → Option Fn) (fuel : Nat) : Nat → Nat → List V → Mem → R V
  | 0, _, _, _ => .bad
  | n + 1, f, args, μ => match Φ f with
    | none => .bad
    | some F => if args.length = F.np then
        match F.body ⟨callF Φ fuel n, fuel⟩ (fun i => args[i]?) μ with
        | .next _ μ' => .ok .none μ'
        | .ret v μ' => .ok v μ'
        | .exc _ _ _ => .bad
        | .bad => .bad
      else .bad

/-- a program laid in the model: its functions by number, where they lie, how they are called -/
structure Pg extends Pl where
  Φ : Nat → Option Fn
  fuel : Nat
  fnA : Nat → Addr
  fd : Nat → FuncData
  mg : Str → Option Value
  mb : Str → Option Value
noncomputable def Pg.call (P : Pg) (n : Nat) : Nat → List V → Mem → R V := callF P.Φ P.fuel n
noncomputable def Pg.cx (P : Pg) (n : Nat) : Cx := ⟨P.call n, P.fuel⟩

noncomputable def bnames : List Str := ["len", "isinstance", "list", "tuple", "str", "int", "bool", "range", "zip", "enumerate", "any", "all", "max", "sorted", "dict", "set"]

structure Good (P : Pg) : Prop where
  g : P.h₀.Ns mainGlobals P.mg
  b : P.h₀.Ns builtinsNs P.mb
  nolimit : P.h₀.NoLimit
  fn : ∀ f F, P.Φ f = some F → ∃ o, P.h₀.get? (P.fnA f) = some o ∧ o.data = .func (P.fd f) ∧ P.mg (P.fd f).name = some (.ref (P.fnA f)) ∧ P.h₀.CodeRec (P.fd f).code (P.fd f).qualname ∧
    (P.fd f).closure = [] ∧ (P.fd f).globals = mainGlobals ∧ (P.fd f).builtins = builtinsNs
  blt : ∀ x ∈ bnames, P.mg x = none ∧ P.mb x = bootBuiltins x

structure Blk where
  sc : Scope
  tab : List (Option (Str × NameKind))
noncomputable def Blk.ok (B : Blk) : Bool := B.sc.kind == .function && (B.tab.all fun
    | some (x, k) => B.sc.names.lookup x == some k && (k == .local || k == .cell || k == .free) && !(x == ("__debug__" : Str)) && !(x == ("__classdict__" : Str))
    | none => true) && decide ((B.tab.filterMap (·.map (·.1))).Nodup)

noncomputable def Frames (P : Pg) (β : Bk) (h : Heap) (l : List Env) : Prop :=
  ∀ e ∈ l, e.scope.kind ≠ .module ∧ ∃ L o, e.frame = some L ∧ L ∉ β ∧ P.h₀.get? L = none ∧ h.get? L = some o ∧ ∃ es n, o.data = .dict es n

noncomputable def own (env : Env) : List Addr := env.locals :: env.cells.map (·.2)
structure EnvOk (P : Pg) (B : Blk) (A : Around) (env : Env) (β : Bk) (ρ : Fr) (h : Heap) : Prop where
  ok : B.ok = true
  sc : env.scope = B.sc
  glob : env.globals = mainGlobals
  blt : env.builtins = builtinsNs
  ns : ∃ m, h.Ns env.locals m ∧ ∀ i x v, B.tab[i]? = some (some (x, .local)) → ρ i = some v → ∃ u, m x = some u ∧ Rel P.toPl β h v u
  loc : env.locals ∉ β ∧ P.h₀.get? env.locals = none
  cell : ∀ i x k, B.tab[i]? = some (some (x, k)) → k = .cell ∨ k = .free → ∃ c u, env.cells.lookup x = some c ∧ c ∉ β ∧ P.h₀.get? c = none ∧ h.IsCell c u ∧ ∀ v, ρ i = some v → ∃ y, u = some y ∧ Rel P.toPl β h v y
  apart : ∀ x y c, env.cells.lookup x = some c → env.cells.lookup y = some c → x = y
  fr : ∃ fe outer, A.frames = some (fe :: outer) ∧ fe.frame = env.frame ∧ Frames P β h (fe :: outer)
  own : ∀ a ∈ own env, a ∉ β ∧ P.h₀.get? a = none ∧ ∃ o, h.get? a = some o ∧ ((∃ es n, o.data = .dict es n) ∨ ∃ v, o.data = .cell v)

noncomputable def Room (A : Around) (n : Nat) : Prop := A.depth + 2 * n + 10 < recursionLimit ∧ A.units + 20 * n + 200 < cLine ∧ A.handled = none

/-- an exception of an own class in flight, made behind the heap h₁ -/
noncomputable def Fly (P : Pl) (β : Bk) (L : Option Addr) (h₁ h : Heap) (x : Value) (c : Nat) : Prop :=
  ∃ a oe vs, x = .ref a ∧ h₁.get? a = none ∧ h.get? a = some oe ∧ oe.cls = .ref (P.cls c) ∧ oe.data = .fields vs ∧ a ∉ β ∧ P.h₀.get? a = none ∧
    (vs[1]? = some .none ∨ ∃ T oT ts, vs[1]? = some (.ref T) ∧ h₁.get? T = none ∧ T ≠ a ∧ T ∉ β ∧ P.h₀.get? T = none ∧ h.get? T = some oT ∧ oT.data = .fields ts ∧ (ts[3]? = some .none ∨ ∃ l, L = some l ∧ ts[3]? = some (rawInt l)))
theorem Fly.lower {P : Pl} {β : Bk} {L : Option Addr} {h₁ h₂ : Heap} {h : Heap} {x : Value} {c : Nat} (f : Fly P β L h₁ h x c) (hl : ∀ a, h₁.get? a = none → h₂.get? a = none) : Fly P β L h₂ h x c := by
  obtain ⟨a, oe, vs, h0, h1, h2, h3, h4, h5, h6, h7⟩ := f
  refine ⟨a, oe, vs, h0, hl _ h1, h2, h3, h4, h5, h6, ?_⟩
  rcases h7 with h7 | ⟨T, oT, ts, k1, k2, k⟩
  · exact .inl h7
  · exact .inr ⟨T, oT, ts, k1, hl _ k2, k⟩
/-- what is not there now was not there before -/
theorem Post.back {P : Pl} {β β' : Bk} {μ' : Mem} {s s' : Shared} (p : Post P β β' μ' s s') {a : Addr} (h : s'.heap.get? a = none) : s.heap.get? a = none := by
  cases e : s.heap.get? a with
  | none => rfl
  | some o =>
    by_cases q : a ∈ β
    · obtain ⟨ob, e', _⟩ := p.inv.there (p.pre.subset q)
      rw [h] at e'; cases e'
    · obtain ⟨o', e', _⟩ := p.keep a o e q
      rw [h] at e'; cases e'
theorem PostS.back {P : Pl} {W : List Addr} {β β' : Bk} {μ' : Mem} {s s' : Shared} (p : PostS P W β β' μ' s s') (hW : ∀ a ∈ W, s'.heap.get? a ≠ none) {a : Addr} (h : s'.heap.get? a = none) : s.heap.get? a = none := by
  cases e : s.heap.get? a with
  | none => rfl
  | some o =>
    by_cases q : a ∈ β
    · obtain ⟨ob, e', _⟩ := p.inv.there (p.pre.subset q)
      rw [h] at e'; cases e'
    · by_cases w : a ∈ W
      · exact absurd h (hW a w)
      · obtain ⟨o', e', _⟩ := p.keep a o e q w
        rw [h] at e'; cases e'

noncomputable def OkE (P : Pl) (β : Bk) (s : Shared) (r : R V) : Value → Shared → Prop :=
  fun x s' => ∃ v μ' β', r = .ok v μ' ∧ Post P β β' μ' s s' ∧ Rel P β' s'.heap v x
noncomputable def ExE {α : Type} (P : Pl) (L : Option Addr) (β : Bk) (s : Shared) (r : R α) : Value → Shared → Prop :=
  fun x s' => ∃ c μ' β', r = .exc c μ' ∧ Post P β β' μ' s s' ∧ Fly P β' L s.heap s'.heap x c
noncomputable def OkT (P : Pl) (β : Bk) (s : Shared) (r : R Bool) : Bool → Shared → Prop :=
  fun x s' => ∃ μ' β', r = .ok x μ' ∧ Post P β β' μ' s s'
noncomputable def OkL (P : Pl) (β : Bk) (s : Shared) (r : R (List V)) : List Value → Shared → Prop :=
  fun x s' => ∃ v μ' β', r = .ok v μ' ∧ Post P β β' μ' s s' ∧ RelL P β' s'.heap v x

noncomputable def CallOk (P : Pg) (n : Nat) : Prop :=
  ∀ f A args vals β μ s, Room A n → (∃ l, A.frames = some l ∧ Frames P β s.heap l) → Inv P.toPl β μ s.heap → RelL P.toPl β s.heap args vals → P.call n f args μ ≠ .bad →
    codeAny P.M A (.call (.ref (P.fnA f)) ⟨vals, []⟩) (fun r s' => match r with
      | .ok (.ret x) => OkE P.toPl β s (P.call n f args μ) x s'
      | .ok _ => False
      | .error x => ExE P.toPl none β s (P.call n f args μ) x s') s

structure At (P : Pg) (B : Blk) (n : Nat) (A : Around) (env : Env) (β : Bk) (ρ : Fr) (μ : Mem) (s : Shared) : Prop where
  good : Good P
  call : ∀ k, k ≤ n → CallOk P k
  room : Room A n
  env : EnvOk P B A env β ρ s.heap
  inv : Inv P.toPl β μ s.heap

noncomputable def SimE (P : Pg) (B : Blk) (e : Expr) (d : DE) : Prop :=
  ∀ n A env β ρ μ s, At P B n A env β ρ μ s → d (P.cx n) ρ μ ≠ .bad →
    wpAny P.M A (eval e env) (OkE P.toPl β s (d (P.cx n) ρ μ)) (ExE P.toPl env.frame β s (d (P.cx n) ρ μ)) s
noncomputable def SimT (P : Pg) (B : Blk) (e : Expr) (d : DT) : Prop :=
  ∀ n A env β ρ μ s, At P B n A env β ρ μ s → d (P.cx n) ρ μ ≠ .bad →
    wpAny P.M A (isTrue e env (eval e env)) (OkT P.toPl β s (d (P.cx n) ρ μ)) (ExE P.toPl env.frame β s (d (P.cx n) ρ μ)) s
noncomputable def SimL (P : Pg) (B : Blk) (es : List Expr) (d : DL) : Prop :=
  ∀ n A env β ρ μ s pos, At P B n A env β ρ μ s → d (P.cx n) ρ μ ≠ .bad →
    wpAny P.M A (spliced (backTo pos (starEach es env))) (OkL P.toPl β s (d (P.cx n) ρ μ)) (ExE P.toPl env.frame β s (d (P.cx n) ρ μ)) s

section
variable {P : Pg} {β β' : Bk} {μ μ' : Mem} {s s' : Shared} {B : Blk} {n : Nat} {A : Around} {env : Env} {ρ : Fr}

theorem Post.notIn {P : Pl} {β β' : Bk} {μ' : Mem} {s s' : Shared} (p : Post P β β' μ' s s') {a : Addr} {o : Obj} (h : a ∉ β) (e : s.heap.get? a = some o) : a ∉ β' :=
  fun q => by rw [p.fresh a q h] at e; cases e

theorem Frames.post {l : List Env} (f : Frames P β s.heap l) (p : Post P.toPl β β' μ' s s') : Frames P β' s'.heap l := fun e he => by
  obtain ⟨k, L, o, hf, hn, hb, ho, es, m, hd⟩ := f e he
  obtain ⟨o', ho', hs⟩ := p.keep L o ho hn
  exact ⟨k, L, o', hf, p.notIn hn ho, hb, ho', es, m, hs.data.trans hd⟩

theorem EnvOk.live {h : Heap} (x : EnvOk P B A env β ρ h) : ∀ a ∈ Mine.own env, h.get? a ≠ none := fun a ha q => by
  obtain ⟨_, _, o, e, _⟩ := x.own a ha
  rw [q] at e; cases e
theorem EnvOk.post (x : EnvOk P B A env β ρ s.heap) (I : Inv P.toPl β μ s.heap) (p : Post P.toPl β β' μ' s s') : EnvOk P B A env β' ρ s'.heap where
  ok := x.ok
  sc := x.sc
  glob := x.glob
  blt := x.blt
  ns := by
    obtain ⟨m, hn, hm⟩ := x.ns
    refine ⟨m, p.keep.ns hn x.loc.1, fun i y v ht hv => ?_⟩
    obtain ⟨u, h1, h2⟩ := hm i y v ht hv
    exact ⟨u, h1, h2.post I p⟩
  loc := by
    obtain ⟨m, ⟨o, _, _, e, _⟩, _⟩ := x.ns
    exact ⟨p.notIn x.loc.1 e, x.loc.2⟩
  cell := fun i y k ht hk => by
    obtain ⟨c, u, h1, h2, h3, h4, h5⟩ := x.cell i y k ht hk
    obtain ⟨oc, e, _⟩ := id h4
    refine ⟨c, u, h1, p.notIn h2 e, h3, p.keep.cell h4 h2, fun v hv => ?_⟩
    obtain ⟨z, e1, e2⟩ := h5 v hv
    exact ⟨z, e1, e2.post I p⟩
  apart := x.apart
  fr := by
    obtain ⟨fe, outer, h1, h2, h3⟩ := x.fr
    exact ⟨fe, outer, h1, h2, h3.post p⟩
  own := fun a ha => by
    obtain ⟨h1, h2, o, h3, h4⟩ := x.own a ha
    obtain ⟨o', e, hs⟩ := p.keep a o h3 h1
    exact ⟨p.notIn h1 h3, h2, o', e, by rw [hs.data]; exact h4⟩

theorem At.post (x : At P B n A env β ρ μ s) (p : Post P.toPl β β' μ' s s') : At P B n A env β' ρ μ' s' :=
  ⟨x.good, x.call, x.room, x.env.post x.inv p, p.inv⟩

theorem At.units (x : At P B n A env β ρ μ s) : A.units + 200 < cLine := by have := x.room.2.1; omega
theorem At.depth (x : At P B n A env β ρ μ s) : A.depth < recursionLimit := by have := x.room.1; omega

/-- one expression, then what follows -/
theorem useE {γ : Type} {e : Expr} {d : DE} {f : V → Mem → R γ} {Q : Value → Shared → Prop} {E : Value → Shared → Prop} (h : SimE P B e d) (x : At P B n A env β ρ μ s) (hb : (d (P.cx n) ρ μ).bind f ≠ .bad)
    (ok : ∀ v μ₁ β₁ u s₁, d (P.cx n) ρ μ = .ok v μ₁ → Post P.toPl β β₁ μ₁ s s₁ → Rel P.toPl β₁ s₁.heap v u → f v μ₁ ≠ .bad → At P B n A env β₁ ρ μ₁ s₁ → Q u s₁)
    (ex : ∀ u s₁, ExE P.toPl env.frame β s ((d (P.cx n) ρ μ).bind f) u s₁ → E u s₁) : wpAny P.M A (eval e env) Q E s := by
  refine wpAny_mono (h n A env β ρ μ s x (fun q => hb (by rw [q]; rfl))) (fun u s₁ q => ?_) fun u s₁ q => ?_
  · obtain ⟨v, μ₁, β₁, e1, p, r⟩ := q
    exact ok v μ₁ β₁ u s₁ e1 p r (by rw [e1] at hb; exact hb) (x.post p)
  · obtain ⟨c, μ₁, β₁, e1, p, r⟩ := q
    exact ex u s₁ ⟨c, μ₁, β₁, by rw [e1]; rfl, p, r⟩

noncomputable def OkS (P : Pg) (B : Blk) (A : Around) (env : Env) (β : Bk) (s : Shared) (r : RS) : Flow → Shared → Prop := fun fl s' =>
  (∃ ρ' μ' β', r = .next ρ' μ' ∧ fl = .next ∧ PostS P.toPl (own env) β β' μ' s s' ∧ EnvOk P B A env β' ρ' s'.heap) ∨
  (∃ v x μ' β', r = .ret v μ' ∧ fl = .ret x ∧ PostS P.toPl (own env) β β' μ' s s' ∧ Rel P.toPl β' s'.heap v x ∧ EnvOk P B A env β' (fun _ => none) s'.heap)
noncomputable def ExS (P : Pg) (B : Blk) (A : Around) (env : Env) (β : Bk) (s : Shared) (r : RS) : Value → Shared → Prop := fun x s' =>
  ∃ c ρ' μ' β', r = .exc c ρ' μ' ∧ PostS P.toPl (own env) β β' μ' s s' ∧ Fly P.toPl β' env.frame s.heap s'.heap x c ∧ EnvOk P B A env β' ρ' s'.heap
noncomputable def SimS (P : Pg) (B : Blk) (ss : List Stmt) (d : DS) : Prop :=
  ∀ n A env β ρ μ s, At P B n A env β ρ μ s → d (P.cx n) ρ μ ≠ .bad →
    wpAny P.M A (execs ss env) (OkS P B A env β s (d (P.cx n) ρ μ)) (ExS P B A env β s (d (P.cx n) ρ μ)) s
noncomputable def SimX (P : Pg) (B : Blk) (st : Stmt) (d : DS) : Prop :=
  ∀ n A env β ρ μ s, At P B n A env β ρ μ s → d (P.cx n) ρ μ ≠ .bad →
    wpAny P.M A (exec st env) (OkS P B A env β s (d (P.cx n) ρ μ)) (ExS P B A env β s (d (P.cx n) ρ μ)) s

theorem OkS.after {β₁ : Bk} {μ₁ : Mem} {s₁ : Shared} {r : RS} {fl : Flow} (p : PostS P.toPl (own env) β β₁ μ₁ s s₁) (o : OkS P B A env β₁ s₁ r fl s') : OkS P B A env β s r fl s' := by
  rcases o with ⟨ρ, μ, β', e, f, q, h⟩ | ⟨v, x, μ, β', e, f, q, h⟩
  · exact .inl ⟨ρ, μ, β', e, f, p.trans q, h⟩
  · exact .inr ⟨v, x, μ, β', e, f, p.trans q, h⟩
theorem ExS.after {β₁ : Bk} {μ₁ : Mem} {s₁ : Shared} {r : RS} {x : Value} (p : PostS P.toPl (own env) β β₁ μ₁ s s₁) (hl : ∀ a ∈ own env, s₁.heap.get? a ≠ none) (o : ExS P B A env β₁ s₁ r x s') : ExS P B A env β s r x s' :=
  let ⟨c, ρ, μ, β', e, q, f, h⟩ := o; ⟨c, ρ, μ, β', e, p.trans q, f.lower fun _ => p.back hl, h⟩
theorem EnvOk.forget {h : Heap} (x : EnvOk P B A env β ρ h) : EnvOk P B A env β (fun _ => none) h :=
  { x with
    ns := let ⟨m, a, _⟩ := x.ns; ⟨m, a, fun _ _ _ _ e => by cases e⟩
    cell := fun i y k ht hk => let ⟨c, u, h1, h2, h3, h4, _⟩ := x.cell i y k ht hk; ⟨c, u, h1, h2, h3, h4, fun _ e => by cases e⟩ }
theorem At.next {β₁ : Bk} {ρ₁ : Fr} {μ₁ : Mem} {s₁ : Shared} (x : At P B n A env β ρ μ s) (p : PostS P.toPl (own env) β β₁ μ₁ s s₁) (e : EnvOk P B A env β₁ ρ₁ s₁.heap) : At P B n A env β₁ ρ₁ μ₁ s₁ :=
  ⟨x.good, x.call, x.room, e, p.inv⟩

/-- one expression at the head of a statement -/
theorem useES {e : Expr} {d : DE} {f : V → Mem → RS} {Q : Value → Shared → Prop} {E : Value → Shared → Prop} (h : SimE P B e d) (x : At P B n A env β ρ μ s) (hb : (d (P.cx n) ρ μ).thenS ρ f ≠ .bad)
    (ok : ∀ v μ₁ β₁ u s₁, d (P.cx n) ρ μ = .ok v μ₁ → Post P.toPl β β₁ μ₁ s s₁ → Rel P.toPl β₁ s₁.heap v u → f v μ₁ ≠ .bad → At P B n A env β₁ ρ μ₁ s₁ → Q u s₁)
    (ex : ∀ u s₁, ExS P B A env β s ((d (P.cx n) ρ μ).thenS ρ f) u s₁ → E u s₁) : wpAny P.M A (eval e env) Q E s := by
  refine wpAny_mono (h n A env β ρ μ s x (fun q => hb (by rw [q]; rfl))) (fun u s₁ q => ?_) fun u s₁ q => ?_
  · obtain ⟨v, μ₁, β₁, e1, p, r⟩ := q
    exact ok v μ₁ β₁ u s₁ e1 p r (by rw [e1] at hb; exact hb) (x.post p)
  · obtain ⟨c, μ₁, β₁, e1, p, r⟩ := q
    exact ex u s₁ ⟨c, ρ, μ₁, β₁, by rw [e1]; rfl, p.own x.env.live, r, x.env.post x.inv p⟩
theorem useTS {e : Expr} {d : DT} {f : Bool → Mem → RS} {Q : Bool → Shared → Prop} {E : Value → Shared → Prop} (h : SimT P B e d) (x : At P B n A env β ρ μ s) (hb : (d (P.cx n) ρ μ).thenS ρ f ≠ .bad)
    (ok : ∀ v μ₁ β₁ s₁, d (P.cx n) ρ μ = .ok v μ₁ → Post P.toPl β β₁ μ₁ s s₁ → f v μ₁ ≠ .bad → At P B n A env β₁ ρ μ₁ s₁ → Q v s₁)
    (ex : ∀ u s₁, ExS P B A env β s ((d (P.cx n) ρ μ).thenS ρ f) u s₁ → E u s₁) : wpAny P.M A (isTrue e env (eval e env)) Q E s := by
  refine wpAny_mono (h n A env β ρ μ s x (fun q => hb (by rw [q]; rfl))) (fun u s₁ q => ?_) fun u s₁ q => ?_
  · obtain ⟨μ₁, β₁, e1, p⟩ := q
    exact ok u μ₁ β₁ s₁ e1 p (by rw [e1] at hb; exact hb) (x.post p)
  · obtain ⟨c, μ₁, β₁, e1, p, r⟩ := q
    exact ex u s₁ ⟨c, ρ, μ₁, β₁, by rw [e1]; rfl, p.own x.env.live, r, x.env.post x.inv p⟩
end
end
end Mine
end
section
set_option autoImplicit false
namespace Mine
noncomputable section
open PySem PyProof.Rows

section
variable {P : Pg} {B : Blk}

/-- a value at once -/
theorem okNow {P : Pl} {β : Bk} {μ : Mem} {s : Shared} {v : V} {x : Value} (I : Inv P β μ s.heap) (r : Rel P β s.heap v x) : OkE P β s (.ok v μ) x s := ⟨v, μ, β, rfl, .refl I, r⟩
theorem okTok {P : Pl} {β : Bk} {μ : Mem} {s : Shared} {v : V} {x : Value} (t : Nat) (I : Inv P β μ s.heap) (r : Rel P β s.heap v x) : OkE P β s (.ok v μ) x { s with toks := t } := ⟨v, μ, β, rfl, .toks I t, r⟩
theorem OkE.after {P : Pl} {β β₁ : Bk} {μ₁ : Mem} {s s₁ s' : Shared} {r : R V} {x : Value} (p : Post P β β₁ μ₁ s s₁) (o : OkE P β₁ s₁ r x s') : OkE P β s r x s' :=
  let ⟨v, μ, β', e, q, h⟩ := o; ⟨v, μ, β', e, p.trans q, h⟩
theorem ExE.after {α : Type} {P : Pl} {L : Option Addr} {β β₁ : Bk} {μ₁ : Mem} {s s₁ s' : Shared} {r : R α} {x : Value} (p : Post P β β₁ μ₁ s s₁) (o : ExE P L β₁ s₁ r x s') : ExE P L β s r x s' :=
  let ⟨v, μ, β', e, q, h⟩ := o; ⟨v, μ, β', e, p.trans q, h.lower fun _ => p.back⟩
theorem OkT.after {P : Pl} {β β₁ : Bk} {μ₁ : Mem} {s s₁ s' : Shared} {r : R Bool} {x : Bool} (p : Post P β β₁ μ₁ s s₁) (o : OkT P β₁ s₁ r x s') : OkT P β s r x s' :=
  let ⟨μ, β', e, q⟩ := o; ⟨μ, β', e, p.trans q⟩
theorem SimE.none {k pos} : SimE P B (.Constant .none k pos) (dC .none) := fun _ _ _ _ _ _ _ x _ => wpAny_Constant_none (okNow x.inv .none)
theorem SimE.bool {b k pos} : SimE P B (.Constant (.bool b) k pos) (dC (.bool b)) := fun _ _ _ _ _ _ _ x _ => wpAny_Constant_bool (okNow x.inv (.bool b))
theorem SimE.int {i k pos} : SimE P B (.Constant (.int i) k pos) (dC (.int i)) := fun _ _ _ _ _ _ _ x _ => wpAny_Constant_int (okTok _ x.inv (.int i _))
theorem SimE.str {y k pos} (h : (PyData.strOk y && decide (y.length ≤ lim)) = true) : SimE P B (.Constant (.str y) k pos) (dC (.str y)) := fun _ _ _ _ _ _ _ x _ =>
  have h' := Bool.and_eq_true_iff.mp h
  wpAny_Constant_str (okTok _ x.inv (.str h'.1 (of_decide_eq_true h'.2)))

theorem Blk.look {B : Blk} (h : B.ok = true) {i : Nat} {x : Str} {k : NameKind} (ht : B.tab[i]? = some (some (x, k))) :
    B.sc.kind = .function ∧ B.sc.names.lookup x = some k ∧ (k = .local ∨ k = .cell ∨ k = .free) ∧ (x == ("__debug__" : Str)) = false ∧ (x == ("__classdict__" : Str)) = false := by
  simp only [Blk.ok, Bool.and_eq_true, beq_iff_eq] at h
  have hm : some (x, k) ∈ B.tab := List.mem_of_getElem? ht
  have := List.all_eq_true.mp h.1.2 _ hm
  simp only [Bool.and_eq_true, beq_iff_eq, Bool.or_eq_true, Bool.not_eq_true'] at this
  exact ⟨h.1.1, this.1.1.1, by rcases this.1.1.2 with (q | q) | q <;> simp [q], this.1.2, this.2⟩

theorem SimE.var {i : Nat} {x : Str} {k : NameKind} {pos : Pos} (ht : B.tab[i]? = some (some (x, k))) : SimE P B (.Name x pos) (dV i) := fun n A env β ρ μ s X hb => by
  obtain ⟨h1, h2, h3, h4, h5⟩ := X.env.ok |> fun o => Blk.look o ht
  cases hv : ρ i with
  | none => exact absurd (by simp [dV, hv, R.opt]) hb
  | some v =>
    have hk : env.scope.kind = .function := by rw [X.env.sc]; exact h1
    have hl : env.kindOf x = some k := by show env.scope.names.lookup x = some k; rw [X.env.sc]; exact h2
    have done : ∀ u, Rel P.toPl β s.heap v u → OkE P.toPl β s (dV i (P.cx n) ρ μ) u s := fun u r => by
      simp only [dV, hv, R.opt]; exact okNow X.inv r
    rcases h3 with rfl | rfl | rfl
    · obtain ⟨m, hn, hm⟩ := X.env.ns
      obtain ⟨u, e, r⟩ := hm i x v ht hv
      exact wpAny_Name (wpAny_loadName_local hk hl hn e (done u r)) h4
    · obtain ⟨c, u, e1, _, _, e2, e3⟩ := X.env.cell i x _ ht (.inl rfl)
      obtain ⟨y, rfl, r⟩ := e3 v hv
      exact wpAny_Name (wpAny_loadName_cell hk hl e1 e2 (done y r)) h4
    · obtain ⟨c, u, e1, _, _, e2, e3⟩ := X.env.cell i x _ ht (.inr rfl)
      obtain ⟨y, rfl, r⟩ := e3 v hv
      exact wpAny_Name (wpAny_loadName_free hk hl e1 e2 (done y r) h5) h4

/-- an operator over values -/
noncomputable def OpOk (P : Pg) (op : Operator) (f : V → V → Mem → R V) : Prop :=
  ∀ A β μ s a b x y L, A.units + 200 < cLine → Inv P.toPl β μ s.heap → Rel P.toPl β s.heap a x → Rel P.toPl β s.heap b y → f a b μ ≠ .bad →
    wpAny P.M A (binaryOp op x y) (OkE P.toPl β s (f a b μ)) (ExE P.toPl L β s (f a b μ)) s
noncomputable def CmpOk (P : Pg) (op : CmpOp) (f : Mem → V → V → Option Bool) : Prop :=
  ∀ A β μ s a b x y t (Q : Value → Shared → Prop) (E : Value → Shared → Prop), A.units + 200 < cLine → Inv P.toPl β μ s.heap → Rel P.toPl β s.heap a x → Rel P.toPl β s.heap b y → f μ a b = some t →
    (∀ tk, Q (.bool t) { s with toks := tk }) → wpAny P.M A (compareOp op x y) Q E s

theorem SimE.bin {l r : Expr} {op : Operator} {pos : Pos} {dl dr : DE} {f : V → V → Mem → R V} (o : OpOk P op f) (hl : SimE P B l dl) (hr : SimE P B r dr) : SimE P B (.BinOp l op r pos) (dBin f dl dr) :=
  fun n A env β ρ μ s X hb => by
    refine wpAny_BinOp (useE hl X hb (fun a μ₁ β₁ x s₁ e₁ p₁ r₁ hb₁ X₁ => ?_) fun u s₁ q => q)
    refine useE hr X₁ hb₁ (fun b μ₂ β₂ y s₂ e₂ p₂ r₂ hb₂ X₂ => ?_) fun u s₂ q => ?_
    · have e : dBin f dl dr (P.cx n) ρ μ = f a b μ₂ := by simp only [dBin, e₁, e₂, R.bind]
      rw [e]
      exact wpAny_mono (o A β₂ μ₂ s₂ a b x y env.frame X₂.units X₂.inv (r₁.post X₁.inv p₂) r₂ hb₂) (fun _ _ q => (q.after p₂).after p₁) fun _ _ q => (q.after p₂).after p₁
    · have e : dBin f dl dr (P.cx n) ρ μ = (dr (P.cx n) ρ μ₁).bind fun b μ => f a b μ := by simp only [dBin, e₁, R.bind]
      rw [e]; exact q.after p₁
end
end
end Mine
end
section
set_option autoImplicit false
namespace Mine
noncomputable section
open PySem PyProof.Rows

section
variable {P : Pg} {B : Blk}

theorem SimE.cmp {l r : Expr} {op : CmpOp} {pos : Pos} {dl dr : DE} {f : Mem → V → V → Option Bool} (o : CmpOk P op f) (hm : behindInMarks op r = false) (hl : SimE P B l dl) (hr : SimE P B r dr) :
    SimE P B (.Compare l [op] [r] pos) (dCmp f dl dr) := fun n A env β ρ μ s X hb => by
  refine wpAny_Compare1 (useE hl X hb (fun a μ₁ β₁ x s₁ e₁ p₁ r₁ hb₁ X₁ => ?_) fun u s₁ q => q) hm
  refine useE hr X₁ hb₁ (fun b μ₂ β₂ y s₂ e₂ p₂ r₂ hb₂ X₂ => ?_) fun u s₂ q => ?_
  · cases ht : f μ₂ a b with
    | none => simp only [ht, R.opt, R.bind] at hb₂; exact absurd rfl hb₂
    | some t =>
      refine o A β₂ μ₂ s₂ a b x y t _ _ X₂.units X₂.inv (r₁.post X₁.inv p₂) r₂ ht fun tk => ?_
      have e : dCmp f dl dr (P.cx n) ρ μ = .ok (.bool t) μ₂ := by simp only [dCmp, e₁, e₂, R.bind, R.opt, ht]
      rw [e]; exact ((okTok tk X₂.inv (.bool t)).after p₂).after p₁
  · have e : dCmp f dl dr (P.cx n) ρ μ = (dr (P.cx n) ρ μ₁).bind fun b μ => (R.opt μ (f μ a b)).bind fun t μ => .ok (.bool t) μ := by simp only [dCmp, e₁, R.bind]
    rw [e]; exact q.after p₁

theorem SimT.cmp {l r : Expr} {op : CmpOp} {pos : Pos} {dl dr : DE} {f : Mem → V → V → Option Bool} (o : CmpOk P op f) (hm : behindInMarks op r = false) (hl : SimE P B l dl) (hr : SimE P B r dr) :
    SimT P B (.Compare l [op] [r] pos) (tCmp f dl dr) := fun n A env β ρ μ s X hb => by
  refine wpAny_isTrue_Compare1 (useE hl X hb (fun a μ₁ β₁ x s₁ e₁ p₁ r₁ hb₁ X₁ => ?_) fun u s₁ q => q) hm
  refine useE hr X₁ hb₁ (fun b μ₂ β₂ y s₂ e₂ p₂ r₂ hb₂ X₂ => ?_) fun u s₂ q => ?_
  · cases ht : f μ₂ a b with
    | none => simp only [ht, R.opt] at hb₂; exact absurd rfl hb₂
    | some t =>
      refine o A β₂ μ₂ s₂ a b x y t _ _ X₂.units X₂.inv (r₁.post X₁.inv p₂) r₂ ht fun tk => ?_
      refine wpAny_truthy_bool ?_
      have e : tCmp f dl dr (P.cx n) ρ μ = .ok t μ₂ := by simp only [tCmp, e₁, e₂, R.bind, R.opt, ht]
      rw [e]; exact ⟨μ₂, β₂, rfl, p₁.trans (p₂.trans (.toks X₂.inv tk))⟩
  · have e : tCmp f dl dr (P.cx n) ρ μ = (dr (P.cx n) ρ μ₁).bind fun b μ => R.opt μ (f μ a b) := by simp only [tCmp, e₁, R.bind]
    rw [e]; exact q.after p₁

/-- truth of a value -/
theorem truth_ok {A : Around} {β : Bk} {μ : Mem} {s : Shared} {v : V} {x : Value} {t : Bool} {Q : Bool → Shared → Prop} {E : Value → Shared → Prop} (r : Rel P.toPl β s.heap v x) (h : truth μ v = some t)
    (k : Q t s) : wpAny P.M A (truthy x) Q E s := by
  cases r with
  | none => cases h; exact fun _ _ _ => k
  | bool b => cases h; exact wpAny_truthy_bool k
  | int i t => cases h; exact PySem.P.truthy_int k
  | str => cases h
  | tup => cases h
  | ref => cases h
  | scr => cases h
  | exc => cases h

theorem SimT.val {e : Expr} {d : DE} (h : SimE P B e d) (he : ∀ env whole, isTrue e env whole = (do let v ← whole; standAt e.pos; holding [v] (truthy v))) : SimT P B e (tE d) := fun n A env β ρ μ s X hb => by
  refine wpAny_isTrue_value (useE h X hb (fun a μ₁ β₁ x s₁ e₁ p₁ r₁ hb₁ X₁ => ?_) fun u s₁ q => q) (he env _)
  cases ht : truth μ₁ a with
  | none => simp only [ht, R.opt] at hb₁; exact absurd rfl hb₁
  | some t =>
    refine truth_ok r₁ ht ?_
    have e : tE d (P.cx n) ρ μ = .ok t μ₁ := by simp only [tE, e₁, R.bind, R.opt, ht]
    rw [e]; exact ⟨μ₁, β₁, rfl, p₁⟩

theorem useT {γ : Type} {n : Nat} {A : Around} {env : Env} {β : Bk} {ρ : Fr} {μ : Mem} {s : Shared} {e : Expr} {d : DT} {f : Bool → Mem → R γ} {Q : Bool → Shared → Prop} {E : Value → Shared → Prop} (h : SimT P B e d) (x : At P B n A env β ρ μ s) (hb : (d (P.cx n) ρ μ).bind f ≠ .bad)
    (ok : ∀ v μ₁ β₁ s₁, d (P.cx n) ρ μ = .ok v μ₁ → Post P.toPl β β₁ μ₁ s s₁ → f v μ₁ ≠ .bad → At P B n A env β₁ ρ μ₁ s₁ → Q v s₁)
    (ex : ∀ u s₁, ExE P.toPl env.frame β s ((d (P.cx n) ρ μ).bind f) u s₁ → E u s₁) : wpAny P.M A (isTrue e env (eval e env)) Q E s := by
  refine wpAny_mono (h n A env β ρ μ s x (fun q => hb (by rw [q]; rfl))) (fun u s₁ q => ?_) fun u s₁ q => ?_
  · obtain ⟨μ₁, β₁, e1, p⟩ := q
    exact ok u μ₁ β₁ s₁ e1 p (by rw [e1] at hb; exact hb) (x.post p)
  · obtain ⟨c, μ₁, β₁, e1, p, r⟩ := q
    exact ex u s₁ ⟨c, μ₁, β₁, by rw [e1]; rfl, p, r⟩

theorem SimT.not {e : Expr} {d : DT} {pos : Pos} (h : SimT P B e d) : SimT P B (.UnaryOp .Not e pos) (tNot d) := fun n A env β ρ μ s X hb => by
  refine wpAny_isTrue_Not (useT h X hb (fun b μ₁ β₁ s₁ e₁ p₁ hb₁ X₁ => ?_) fun u s₁ q => q)
  exact ⟨μ₁, β₁, by simp only [tNot, e₁, R.bind], p₁⟩

noncomputable def SimA (P : Pg) (B : Blk) (op : BoolOp) (es : List Expr) (d : DT) : Prop :=
  ∀ n A env β ρ μ s, At P B n A env β ρ μ s → d (P.cx n) ρ μ ≠ .bad →
    wpAny P.M A (allTrue op es env) (OkT P.toPl β s (d (P.cx n) ρ μ)) (ExE P.toPl env.frame β s (d (P.cx n) ρ μ)) s
theorem SimA.andNil : SimA P B .And [] tTrue := fun _ _ _ β _ μ _ X _ => wpAny_allTrue_And_nil ⟨μ, β, rfl, .refl X.inv⟩
theorem SimA.orNil : SimA P B .Or [] tFalse := fun _ _ _ β _ μ _ X _ => wpAny_allTrue_Or_nil ⟨μ, β, rfl, .refl X.inv⟩
theorem SimA.and {e : Expr} {es : List Expr} {d ds : DT} (h : SimT P B e d) (hs : SimA P B .And es ds) : SimA P B .And (e :: es) (tAnd d ds) := fun n A env β ρ μ s X hb => by
  refine wpAny_allTrue_And_cons (useT h X hb (fun b μ₁ β₁ s₁ e₁ p₁ hb₁ X₁ => ?_) fun u s₁ q => q)
  cases b with
  | false => exact ⟨μ₁, β₁, by simp only [tAnd, e₁, R.bind]; rfl, p₁⟩
  | true =>
    have e : tAnd d ds (P.cx n) ρ μ = ds (P.cx n) ρ μ₁ := by simp only [tAnd, e₁, R.bind, if_true]
    rw [e]
    exact wpAny_mono (hs n A env β₁ ρ μ₁ s₁ X₁ (by simpa using hb₁)) (fun _ _ q => q.after p₁) fun _ _ q => q.after p₁
theorem SimA.or {e : Expr} {es : List Expr} {d ds : DT} (h : SimT P B e d) (hs : SimA P B .Or es ds) : SimA P B .Or (e :: es) (tOr d ds) := fun n A env β ρ μ s X hb => by
  refine wpAny_allTrue_Or_cons (useT h X hb (fun b μ₁ β₁ s₁ e₁ p₁ hb₁ X₁ => ?_) fun u s₁ q => q)
  cases b with
  | true => exact ⟨μ₁, β₁, by simp only [tOr, e₁, R.bind]; rfl, p₁⟩
  | false =>
    have e : tOr d ds (P.cx n) ρ μ = ds (P.cx n) ρ μ₁ := by simp only [tOr, e₁, R.bind]; rfl
    rw [e]
    exact wpAny_mono (hs n A env β₁ ρ μ₁ s₁ X₁ (by simpa using hb₁)) (fun _ _ q => q.after p₁) fun _ _ q => q.after p₁
theorem SimT.boolOp {op : BoolOp} {es : List Expr} {d : DT} {pos : Pos} (h : SimA P B op es d) : SimT P B (.BoolOp op es pos) d := fun n A env β ρ μ s X hb => wpAny_isTrue_BoolOp (h n A env β ρ μ s X hb)

theorem SimE.ifExp {t b o : Expr} {dt : DT} {db do_ : DE} {pos : Pos} (ht : SimT P B t dt) (h1 : SimE P B b db) (h2 : SimE P B o do_) : SimE P B (.IfExp t b o pos) (dIf dt db do_) := fun n A env β ρ μ s X hb => by
  refine wpAny_IfExp (useT ht X hb (fun b' μ₁ β₁ s₁ e₁ p₁ hb₁ X₁ => ?_) fun u s₁ q => q)
  cases b' with
  | true =>
    have e : dIf dt db do_ (P.cx n) ρ μ = db (P.cx n) ρ μ₁ := by simp only [dIf, e₁, R.bind, if_true]
    rw [e]
    exact wpAny_mono (h1 n A env β₁ ρ μ₁ s₁ X₁ (by simpa using hb₁)) (fun _ _ q => q.after p₁) fun _ _ q => q.after p₁
  | false =>
    have e : dIf dt db do_ (P.cx n) ρ μ = do_ (P.cx n) ρ μ₁ := by simp only [dIf, e₁, R.bind]; rfl
    rw [e]
    exact wpAny_mono (h2 n A env β₁ ρ μ₁ s₁ X₁ (by simpa using hb₁)) (fun _ _ q => q.after p₁) fun _ _ q => q.after p₁

theorem SimE.not {e : Expr} {d : DE} {pos : Pos} (h : SimE P B e d) : SimE P B (.UnaryOp .Not e pos) (dNot d) := fun n A env β ρ μ s X hb => by
  refine wpAny_UnaryOp (useE h X hb (fun a μ₁ β₁ x s₁ e₁ p₁ r₁ hb₁ X₁ => ?_) fun u s₁ q => q)
  cases ht : truth μ₁ a with
  | none => simp only [ht, R.opt, R.bind] at hb₁; exact absurd rfl hb₁
  | some t =>
    refine not_value (truth_ok r₁ ht ?_)
    have e : dNot d (P.cx n) ρ μ = .ok (.bool (!t)) μ₁ := by simp only [dNot, e₁, R.bind, R.opt, ht]
    rw [e]; exact (okNow X₁.inv (.bool _)).after p₁

noncomputable def SimB (P : Pg) (B : Blk) (op : BoolOp) (es : List Expr) (d : DE) : Prop :=
  ∀ n A env β ρ μ s pos, At P B n A env β ρ μ s → d (P.cx n) ρ μ ≠ .bad →
    wpAny P.M A (boolOp pos op (evalEach es env)) (OkE P.toPl β s (d (P.cx n) ρ μ)) (ExE P.toPl env.frame β s (d (P.cx n) ρ μ)) s
theorem SimB.one {op : BoolOp} {e : Expr} {d : DE} (h : SimE P B e d) : SimB P B op [e] d := fun n A env β ρ μ s _ X hb => h n A env β ρ μ s X hb
theorem SimB.and {e e' : Expr} {es : List Expr} {d ds : DE} (h : SimE P B e d) (hs : SimB P B .And (e' :: es) ds) : SimB P B .And (e :: e' :: es) (dAnd d ds) := fun n A env β ρ μ s pos X hb => by
  show wpAny P.M A (do
    let v ← eval e env
    standAt pos
    let t ← holding [v] (truthy v)
    match BoolOp.And, t with
    | .And, false | .Or, true => pure v
    | _, _ => boolOp pos .And (evalEach (e' :: es) env)) _ _ s
  refine wpAny_bind (useE h X hb (fun a μ₁ β₁ x s₁ e₁ p₁ r₁ hb₁ X₁ => ?_) fun u s₁ q => q)
  refine wpAny_bind (wpAny_standAt (wpAny_bind (wpAny_holding ?_)))
  cases ht : truth μ₁ a with
  | none => simp only [ht, R.opt, R.bind] at hb₁; exact absurd rfl hb₁
  | some t =>
    refine truth_ok r₁ ht ?_
    cases t with
    | false =>
      have e : dAnd d ds (P.cx n) ρ μ = .ok a μ₁ := by simp only [dAnd, e₁, R.bind, R.opt, ht]; rfl
      rw [e]; exact wpAny_pure ((okNow X₁.inv r₁).after p₁)
    | true =>
      have e : dAnd d ds (P.cx n) ρ μ = ds (P.cx n) ρ μ₁ := by simp only [dAnd, e₁, R.bind, R.opt, ht]; rfl
      rw [e]
      exact wpAny_mono (hs n A env β₁ ρ μ₁ s₁ pos X₁ (by simpa only [R.opt, R.bind, ht, if_true] using hb₁)) (fun _ _ q => q.after p₁) fun _ _ q => q.after p₁
theorem SimB.or {e e' : Expr} {es : List Expr} {d ds : DE} (h : SimE P B e d) (hs : SimB P B .Or (e' :: es) ds) : SimB P B .Or (e :: e' :: es) (dOr d ds) := fun n A env β ρ μ s pos X hb => by
  show wpAny P.M A (do
    let v ← eval e env
    standAt pos
    let t ← holding [v] (truthy v)
    match BoolOp.Or, t with
    | .And, false | .Or, true => pure v
    | _, _ => boolOp pos .Or (evalEach (e' :: es) env)) _ _ s
  refine wpAny_bind (useE h X hb (fun a μ₁ β₁ x s₁ e₁ p₁ r₁ hb₁ X₁ => ?_) fun u s₁ q => q)
  refine wpAny_bind (wpAny_standAt (wpAny_bind (wpAny_holding ?_)))
  cases ht : truth μ₁ a with
  | none => simp only [ht, R.opt, R.bind] at hb₁; exact absurd rfl hb₁
  | some t =>
    refine truth_ok r₁ ht ?_
    cases t with
    | true =>
      have e : dOr d ds (P.cx n) ρ μ = .ok a μ₁ := by simp only [dOr, e₁, R.bind, R.opt, ht]; rfl
      rw [e]; exact wpAny_pure ((okNow X₁.inv r₁).after p₁)
    | false =>
      have e : dOr d ds (P.cx n) ρ μ = ds (P.cx n) ρ μ₁ := by simp only [dOr, e₁, R.bind, R.opt, ht]; rfl
      rw [e]
      exact wpAny_mono (hs n A env β₁ ρ μ₁ s₁ pos X₁ (by simpa [R.opt, R.bind, ht] using hb₁)) (fun _ _ q => q.after p₁) fun _ _ q => q.after p₁
theorem SimE.boolOp {op : BoolOp} {es : List Expr} {d : DE} {pos : Pos} (h : SimB P B op es d) : SimE P B (.BoolOp op es pos) d := fun n A env β ρ μ s X hb => h n A env β ρ μ s pos X hb

/- displays -/
theorem useL {γ : Type} {n : Nat} {A : Around} {env : Env} {β : Bk} {ρ : Fr} {μ : Mem} {s : Shared} {pos : Pos} {es : List Expr} {d : DL} {f : List V → Mem → R γ} {Q : List Value → Shared → Prop} {E : Value → Shared → Prop} (h : SimL P B es d) (x : At P B n A env β ρ μ s) (hb : (d (P.cx n) ρ μ).bind f ≠ .bad)
    (ok : ∀ v μ₁ β₁ u s₁, d (P.cx n) ρ μ = .ok v μ₁ → Post P.toPl β β₁ μ₁ s s₁ → RelL P.toPl β₁ s₁.heap v u → f v μ₁ ≠ .bad → At P B n A env β₁ ρ μ₁ s₁ → Q u s₁)
    (ex : ∀ u s₁, ExE P.toPl env.frame β s ((d (P.cx n) ρ μ).bind f) u s₁ → E u s₁) : wpAny P.M A (spliced (backTo pos (starEach es env))) Q E s := by
  refine wpAny_mono (h n A env β ρ μ s pos x (fun q => hb (by rw [q]; rfl))) (fun u s₁ q => ?_) fun u s₁ q => ?_
  · obtain ⟨v, μ₁, β₁, e1, p, r⟩ := q
    exact ok v μ₁ β₁ u s₁ e1 p r (by rw [e1] at hb; exact hb) (x.post p)
  · obtain ⟨c, μ₁, β₁, e1, p, r⟩ := q
    exact ex u s₁ ⟨c, μ₁, β₁, by rw [e1]; rfl, p, r⟩
theorem SimL.nil : SimL P B [] dNil := fun n A env β ρ μ s _ X _ => wpAny_items_nil ⟨[], μ, β, rfl, .refl X.inv, .nil⟩
theorem SimL.cons {e : Expr} {es : List Expr} {d : DE} {ds : DL} (hn : ∀ env, starEach (e :: es) env = (false, eval e env) :: starEach es env) (h : SimE P B e d) (hs : SimL P B es ds) : SimL P B (e :: es) (dCons d ds) := fun n A env β ρ μ s pos X hb => by
  refine wpAny_items_cons (useE h X hb (fun a μ₁ β₁ x s₁ e₁ p₁ r₁ hb₁ X₁ => ?_) fun u s₁ q => q) (hn env)
  refine useL hs X₁ hb₁ (fun b μ₂ β₂ y s₂ e₂ p₂ r₂ hb₂ X₂ => ?_) fun u s₂ q => ?_
  · exact ⟨a :: b, μ₂, β₂, by simp only [dCons, e₁, e₂, R.bind], p₁.trans p₂, .cons (r₁.post X₁.inv p₂) r₂⟩
  · have e : dCons d ds (P.cx n) ρ μ = (ds (P.cx n) ρ μ₁).bind fun vs μ => .ok (a :: vs) μ := by simp only [dCons, e₁, R.bind]
    rw [e]; exact q.after p₁

theorem lim_line {k : Nat} (h : k ≤ lim) : k ≤ sizeLine := Nat.le_trans h (by decide)

/-- a new tuple -/
theorem tupNew {P : Pl} {β : Bk} {μ : Mem} {s : Shared} {vs : List V} {xs : List Value} (I : Inv P β μ s.heap) (r : RelL P β s.heap vs xs) (hl : vs.length ≤ lim) :
    OkE P β s (newT μ vs) (.ref s.heap.objs.size) { s with heap := s.heap.push { cls := .type "tuple", data := .seq xs.toArray } } := by
  have hk : Keep β s.heap (s.heap.push { cls := .type "tuple", data := .seq xs.toArray }) := .of fun a o e => Heap.get?_push_of_some _ e
  have hI : Inv P β μ (s.heap.push { cls := .type "tuple", data := .seq xs.toArray }) := I.keep hk fun a o e => Heap.get?_push_of_some _ e
  refine ⟨.tup vs, μ, β, by simp only [newT, hl, if_true], ⟨⟨_, s.toks, rfl⟩, hI, List.prefix_refl _, hk, fun _ h n => absurd h n⟩, ?_⟩
  exact .tup (Heap.get?_push_size _ rfl) (r.mono I (List.prefix_refl _) hk fun _ h n => absurd h n) hl
/-- a new list -/
theorem listNew {P : Pl} {β : Bk} {μ : Mem} {s : Shared} {vs : List V} {xs : List Value} (I : Inv P β μ s.heap) (r : RelL P β s.heap vs xs) (hl : vs.length ≤ lim) :
    OkE P β s (newL μ vs) (.ref s.heap.objs.size) { s with heap := s.heap.push { cls := .type "list", data := .seq xs.toArray } } := by
  refine ⟨.ref μ.length, μ ++ [.list vs], β ++ [s.heap.objs.size], by simp only [newL, hl, if_true], Post.push I _ _ s.toks (.list (Heap.get?_push_size _ rfl) (r.pushed I _) hl), .ref ?_⟩
  rw [← I.len, List.getElem?_append_right (Nat.le_refl _)]; simp
theorem SimE.tup {es : List Expr} {ds : DL} {k : Nat} {pos : Pos} (h : SimL P B es ds) : SimE P B (.Tuple es k pos) (dTup ds) := fun n A env β ρ μ s X hb => by
  refine wpAny_Tuple (useL h X hb (fun vs μ₁ β₁ xs s₁ e₁ p₁ r₁ hb₁ X₁ => ?_) fun u s₁ q => q)
  have hl : vs.length ≤ lim := by
    by_cases q : vs.length ≤ lim
    · exact q
    · simp only [newT, q, if_false] at hb₁; exact absurd rfl hb₁
  have e : dTup ds (P.cx n) ρ μ = newT μ₁ vs := by simp only [dTup, e₁, R.bind]
  exact ⟨lim_line (r₁.length ▸ hl), by rw [e]; exact (tupNew X₁.inv r₁ hl).after p₁⟩
theorem SimE.list {es : List Expr} {ds : DL} {pos : Pos} (h : SimL P B es ds) : SimE P B (.List es pos) (dLst ds) := fun n A env β ρ μ s X hb => by
  refine wpAny_List (useL h X hb (fun vs μ₁ β₁ xs s₁ e₁ p₁ r₁ hb₁ X₁ => ?_) fun u s₁ q => q)
  have hl : vs.length ≤ lim := by
    by_cases q : vs.length ≤ lim
    · exact q
    · simp only [newL, q, if_false] at hb₁; exact absurd rfl hb₁
  have e : dLst ds (P.cx n) ρ μ = newL μ₁ vs := by simp only [dLst, e₁, R.bind]
  exact ⟨lim_line (r₁.length ▸ hl), by rw [e]; exact (listNew X₁.inv r₁ hl).after p₁⟩
end
end
end Mine
end
section
set_option autoImplicit false
namespace Mine
noncomputable section
open PySem PyProof.Rows PySem.SeqAt

section
variable {P : Pl} {β : Bk} {μ : Mem} {h : Heap}

theorem readsAll_of (n : Nat) (ih : ∀ v x d, toD n μ v = some d → Rel P β h v x → (∃ as, Reads h x d as) ∧ d.canLay0 = true ∧ d.depth ≤ n) :
    ∀ (vs : List V) (xs : List Value) (ds : List PyData), allD (toD n μ) vs = some ds → RelL P β h vs xs → (∃ as, ReadsAll h xs ds as) ∧ PyData.canLayAll0 ds = true ∧ PyData.depthAll ds ≤ n
  | [], _, ds, e, .nil => by cases e; exact ⟨⟨[], .nil⟩, rfl, Nat.zero_le _⟩
  | v :: vs, _, ds, e, .cons (x := x) (xs := xs) r rs => by
    simp only [allD] at e
    cases hd : toD n μ v with
    | none => simp [hd] at e
    | some d =>
      simp only [hd] at e
      cases hds : allD (toD n μ) vs with
      | none => simp [hds] at e
      | some ds' =>
        simp only [hds, Option.map_some, Option.some.injEq] at e
        subst e
        obtain ⟨⟨as, h1⟩, h2, h3⟩ := ih v x d hd r
        obtain ⟨⟨bs, h4⟩, h5, h6⟩ := readsAll_of n ih vs xs ds' hds rs
        exact ⟨⟨as ++ bs, .cons h1 h4⟩, by simp [PyData.canLayAll0, h2, h5], by simp only [PyData.depthAll]; omega⟩

theorem reads_of (I : Inv P β μ h) : ∀ n v x d, toD n μ v = some d → Rel P β h v x → (∃ as, Reads h x d as) ∧ d.canLay0 = true ∧ d.depth ≤ n := by
  intro n
  induction n with
  | zero =>
    intro v x d e r
    cases r <;> simp only [toD] at e <;> first
      | (cases e; exact ⟨⟨[], .none⟩, rfl, by simp [PyData.depth]⟩)
      | (cases e; exact ⟨⟨[], .bool _⟩, rfl, by simp [PyData.depth]⟩)
      | (cases e; exact ⟨⟨[], .int _ _⟩, rfl, by simp [PyData.depth]⟩)
      | (rename_i h1 h2; cases e; exact ⟨⟨[], .str _ _⟩, h1, by simp [PyData.depth]⟩)
      | cases e
  | succ n ih =>
    intro v x d e r
    cases r with
    | none => simp only [toD] at e; cases e; exact ⟨⟨[], .none⟩, rfl, by simp [PyData.depth]⟩
    | bool b => simp only [toD] at e; cases e; exact ⟨⟨[], .bool _⟩, rfl, by simp [PyData.depth]⟩
    | int i t => simp only [toD] at e; cases e; exact ⟨⟨[], .int _ _⟩, rfl, by simp [PyData.depth]⟩
    | str h1 h2 => simp only [toD] at e; cases e; exact ⟨⟨[], .str _ _⟩, h1, by simp [PyData.depth]⟩
    | @tup a vs m xs h1 h2 _ =>
      simp only [toD] at e
      cases hd : allD (toD n μ) xs with
      | none => simp [hd] at e
      | some ds =>
        simp only [hd, Option.map_some, Option.some.injEq] at e
        subst e
        obtain ⟨⟨as, q1⟩, q2, q3⟩ := readsAll_of n ih xs _ ds hd h2
        exact ⟨⟨as, .tuple h1 rfl rfl q1⟩, by simpa [PyData.canLay0] using q2, by simp only [PyData.depth]; omega⟩
    | @ref i a h1 =>
      simp only [toD] at e
      cases hm : μ[i]? with
      | none => simp [hm] at e
      | some o =>
        simp only [hm] at e
        cases o with
        | list xs =>
          cases hd : allD (toD n μ) xs with
          | none => simp [hd] at e
          | some ds =>
            simp only [hd, Option.map_some, Option.some.injEq] at e
            subst e
            have ro := I.obj i _ a hm h1
            cases ro with
            | list g1 g2 _ =>
              obtain ⟨⟨as, q1⟩, q2, q3⟩ := readsAll_of n ih xs _ ds hd g2
              exact ⟨⟨a :: as, .list g1 rfl rfl q1⟩, by simpa [PyData.canLay0] using q2, by simp only [PyData.depth]; omega⟩
        | dict es => cases e
        | inst c d => cases e
    | scr => cases e
    | exc => cases e
end

section
variable {P : Pg} {B : Blk}

theorem cmpEq : CmpOk P .Eq cEq := fun A β μ s a b x y t Q E hu I ra rb h k => by
  simp only [cEq, eqV] at h
  cases h1 : toD deep μ a with
  | none => simp [h1] at h
  | some d =>
    cases h2 : toD deep μ b with
    | none => simp [h1, h2] at h
    | some e =>
      simp only [h1, h2, Option.some.injEq] at h
      subst h
      obtain ⟨⟨as, r1⟩, c1, l1⟩ := reads_of I deep a x d h1 ra
      obtain ⟨⟨bs, r2⟩, c2, l2⟩ := reads_of I deep b y e h2 rb
      exact compareEq_reads r1 r2 c1 c2 (by simp only [deep] at l1 l2; omega) (k s.toks)
theorem cmpNe : CmpOk P .NotEq cNe := fun A β μ s a b x y t Q E hu I ra rb h k => by
  simp only [cNe, eqV] at h
  cases h1 : toD deep μ a with
  | none => simp [h1] at h
  | some d =>
    cases h2 : toD deep μ b with
    | none => simp [h1, h2] at h
    | some e =>
      simp only [h1, h2, Option.map_some, Option.some.injEq] at h
      subst h
      obtain ⟨⟨as, r1⟩, c1, l1⟩ := reads_of I deep a x d h1 ra
      obtain ⟨⟨bs, r2⟩, c2, l2⟩ := reads_of I deep b y e h2 rb
      exact compareNe_reads r1 r2 c1 c2 (by simp only [deep] at l1 l2; omega) (k s.toks)
theorem cmpLt : CmpOk P .Lt cLt := fun A β μ s a b x y t Q E _ _ ra rb h k => by
  cases ra with
  | int i t1 => cases rb with
    | int j t2 => cases h; exact PySem.P.lt_int (k s.toks)
    | _ => exact absurd (h : none = some t) (fun q => nomatch q)
  | _ => exact absurd (h : none = some t) (fun q => nomatch q)
theorem cmpGt : CmpOk P .Gt cGt := fun A β μ s a b x y t Q E _ _ ra rb h k => by
  cases ra with
  | int i t1 => cases rb with
    | int j t2 => cases h; exact PySem.P.gt_int (k s.toks)
    | _ => exact absurd (h : none = some t) (fun q => nomatch q)
  | _ => exact absurd (h : none = some t) (fun q => nomatch q)
theorem in_reads {A : Around} {β : Bk} {μ : Mem} {s : Shared} {a b : V} {x y : Value} {t : Bool} (hu : A.units + 200 < cLine) (I : Inv P.toPl β μ s.heap) (ra : Rel P.toPl β s.heap a x) (rb : Rel P.toPl β s.heap b y) (h : cIn μ a b = some t) :
    ∃ d ds as bs, t = (ds.any fun y => PyData.eqv y d) ∧ (Reads s.heap y (.list ds) as ∨ Reads s.heap y (.tuple ds) as) ∧ Reads s.heap x d bs ∧ PyData.canLayAll0 ds = true ∧ d.canLay0 = true ∧ A.units + 1 + min (PyData.depthAll ds) d.depth < cLine := by
  cases rb with
  | @tup l vs n xs g1 g2 g3 =>
    simp only [cIn] at h
    cases h1 : toD deep μ a with
    | none => simp [h1] at h
    | some d =>
      cases h2 : allD (toD deep μ) xs with
      | none => simp [h1, h2] at h
      | some ds =>
        simp only [h1, h2, Option.some.injEq] at h
        obtain ⟨⟨as, r1⟩, c1, l1⟩ := reads_of I deep a x d h1 ra
        obtain ⟨⟨bs, r2⟩, c2, l2⟩ := readsAll_of deep (reads_of I deep) xs _ ds h2 g2
        exact ⟨d, ds, bs, as, h.symm, .inr (.tuple g1 rfl rfl r2), r1, c2, c1, by simp only [deep] at l1 l2; omega⟩
  | @ref i l e =>
    simp only [cIn] at h
    cases hm : μ[i]? with
    | none => simp [hm] at h
    | some o =>
      cases o with
      | list xs =>
        simp only [hm] at h
        have ro := I.obj i _ l hm e
        cases ro with
        | list g1 g2 g3 =>
          cases h1 : toD deep μ a with
          | none => simp [h1] at h
          | some d =>
            cases h2 : allD (toD deep μ) xs with
            | none => simp [h1, h2] at h
            | some ds =>
              simp only [h1, h2, Option.some.injEq] at h
              obtain ⟨⟨as, r1⟩, c1, l1⟩ := reads_of I deep a x d h1 ra
              obtain ⟨⟨bs, r2⟩, c2, l2⟩ := readsAll_of deep (reads_of I deep) xs _ ds h2 g2
              exact ⟨d, ds, l :: bs, as, h.symm, .inl (.list g1 rfl rfl r2), r1, c2, c1, by simp only [deep] at l1 l2; omega⟩
      | dict es => simp [hm] at h
      | inst c d => simp [hm] at h
  | _ => cases h

theorem cmpIn : CmpOk P .In cIn := fun A β μ s a b x y t Q E hu I ra rb h k => by
  obtain ⟨d, ds, as, bs, rfl, r | r, h1, h2, h3, h4⟩ := in_reads hu I ra rb h
  · exact in_list_reads r h1 h2 h3 h4 (k s.toks)
  · exact in_tuple_reads r h1 h2 h3 h4 (k s.toks)
theorem cmpNotIn : CmpOk P .NotIn cNotIn := fun A β μ s a b x y t Q E hu I ra rb h k => by
  simp only [cNotIn] at h
  cases q : cIn μ a b with
  | none => simp [q] at h
  | some u =>
    simp only [q, Option.map_some, Option.some.injEq] at h
    subst h
    obtain ⟨d, ds, as, bs, rfl, r | r, h1, h2, h3, h4⟩ := in_reads hu I ra rb q
    · exact notIn_list_reads r h1 h2 h3 h4 (k s.toks)
    · exact notIn_tuple_reads r h1 h2 h3 h4 (k s.toks)
end
end
end Mine
end
section
set_option autoImplicit false
namespace Mine
noncomputable section
open PySem PyProof.Rows PySem.SeqAt

section
variable {P : Pg} {B : Blk}

theorem strOk_append {a b : Str} (ha : PyData.strOk a = true) (hb : PyData.strOk b = true) : PyData.strOk (a ++ b) = true := by
  have : (a ++ b).cps = a.cps ++ b.cps := rfl
  simp only [PyData.strOk, this, Array.all_append, Bool.and_eq_true] at *
  exact ⟨ha, hb⟩

theorem newT_lim {μ : Mem} {xs : List V} (h : newT μ xs ≠ .bad) : xs.length ≤ lim := by
  by_cases q : xs.length ≤ lim
  · exact q
  · simp only [newT, q, if_false] at h; exact absurd rfl h
theorem newL_lim {μ : Mem} {xs : List V} (h : newL μ xs ≠ .bad) : xs.length ≤ lim := by
  by_cases q : xs.length ≤ lim
  · exact q
  · simp only [newL, q, if_false] at h; exact absurd rfl h
theorem newS_lim {μ : Mem} {x : Str} (h : newS μ x ≠ .bad) : x.length ≤ lim := by
  by_cases q : x.length ≤ lim
  · exact q
  · simp only [newS, q, if_false] at h; exact absurd rfl h

theorem opAdd_ok : OpOk P .Add opAdd := fun A β μ s a b x y L hu I ra rb hb => by
  cases ra with
  | int i t =>
    cases rb with
    | int j u => exact PySem.P.add_int (okTok _ I (.int _ _))
    | _ => exact absurd rfl hb
  | @str x t h1 h2 =>
    cases rb <;> first | exact absurd rfl hb | skip
    simp only [opAdd] at hb ⊢
    rename_i y u h3 h4
    have hl := newS_lim hb
    simp only [newS, hl, if_true]
    exact add_str (fun t' tk => okTok tk I (.str (strOk_append h1 h3) hl)) (by simp only [sizeLine, lim] at *; omega)
  | @tup l vs n xs h1 h2 h3 =>
    cases rb <;> first | exact absurd rfl hb | skip
    simp only [opAdd] at hb ⊢
    rename_i l' vs' n' xs' g1 g2 g3
    have hl := newT_lim hb
    by_cases e1 : vs.isEmpty = true
    · have z : vs.toList = [] := by simpa using e1
      have z' : xs = [] := by have := h2.length; rw [z] at this; exact List.length_eq_zero_iff.mp this
      subst z'
      refine concat_meets ⟨_, h1, rfl⟩ ⟨_, g1, rfl⟩ noFill_tuple_add seq_tuple_add F.slot_tuple_add F.entry_tuple_add (F.args_tuple_add_2 _ _) (tuple_addW0 l l' vs vs' n n' none none #[] #[] e1) ⟨h1, g1, ?_⟩
      simp only [List.nil_append, newT, g3, if_true]
      exact okNow I (.tup g1 g2 g3)
    · by_cases e2 : vs'.isEmpty = true
      · have z : vs'.toList = [] := by simpa using e2
        have z' : xs' = [] := by have := g2.length; rw [z] at this; exact List.length_eq_zero_iff.mp this
        subst z'
        refine concat_meets ⟨_, h1, rfl⟩ ⟨_, g1, rfl⟩ noFill_tuple_add seq_tuple_add F.slot_tuple_add F.entry_tuple_add (F.args_tuple_add_2 _ _) (tuple_addW1 l l' vs vs' n n' none none #[] #[] e1 e2) ⟨h1, g1, ?_⟩
        simp only [List.append_nil, newT, h3, if_true]
        exact okNow I (.tup h1 h2 h3)
      · have hs : vs.size + vs'.size ≤ lim := by
          have q1 := h2.length; have q2 := g2.length
          simp at q1 q2 hl; omega
        refine PySem.P.add_tuple h1 g1 e1 e2 ?_ (lim_line hs)
        have := tupNew I (h2.append g2) hl
        rw [show (vs ++ vs') = (vs.toList ++ vs'.toList).toArray from by simp]
        exact this
  | @ref i l e =>
    cases rb <;> first | exact absurd rfl hb | skip
    simp only [opAdd] at hb ⊢
    rename_i j l' e'
    cases h1 : μ[i]? with
    | none => simp only [h1] at hb; exact absurd rfl hb
    | some o1 =>
      cases h2 : μ[j]? with
      | none => simp only [h1, h2] at hb; cases o1 <;> exact absurd rfl hb
      | some o2 =>
        have r1 := I.obj i _ l h1 e
        have r2 := I.obj j _ l' h2 e'
        simp only [h1, h2] at hb ⊢
        cases r1 with
        | dict => exact absurd rfl hb
        | inst => exact absurd rfl hb
        | @list _ vs n xs a1 a2 a3 =>
        cases r2 with
        | dict => exact absurd rfl hb
        | inst => exact absurd rfl hb
        | @list _ vs' n' xs' b1 b2 b3 =>
        simp only at hb ⊢
        have hl := newL_lim hb
        have hs : vs.size + vs'.size ≤ lim := by
          have q1 := a2.length; have q2 := b2.length
          simp at q1 q2 hl; omega
        refine PySem.P.add_list a1 b1 ?_ (lim_line hs)
        have := listNew I (a2.append b2) hl
        rw [show (vs ++ vs') = (vs.toList ++ vs'.toList).toArray from by simp]
        exact this
  | _ => exact absurd rfl hb

theorem opSub_ok : OpOk P .Sub opSub := fun A β μ s a b x y L hu I ra rb hb => by
  cases ra with
  | int i t => cases rb with
    | int j u => exact PySem.P.sub_int (okTok _ I (.int _ _))
    | _ => exact absurd rfl hb
  | _ => exact absurd rfl hb
theorem opDiv_ok : OpOk P .FloorDiv opDiv := fun A β μ s a b x y L hu I ra rb hb => by
  cases ra <;> first | exact absurd rfl hb | skip
  cases rb <;> first | exact absurd rfl hb | skip
  rename_i j _
  simp only [opDiv] at hb ⊢
  by_cases h : j = 0 ∨ 1073741824 ≤ j.natAbs
  · rw [if_pos h] at hb; exact absurd rfl hb
  · rw [if_neg h]
    exact floordiv_int (fun q => h (.inl q)) (okTok _ I (.int _ _)) (.inl (PyProof.noPylong_small (by omega)))
theorem opMod_ok : OpOk P .Mod opMod := fun A β μ s a b x y L hu I ra rb hb => by
  cases ra <;> first | exact absurd rfl hb | skip
  cases rb <;> first | exact absurd rfl hb | skip
  rename_i j _
  simp only [opMod] at hb ⊢
  by_cases h : j = 0
  · rw [if_pos h] at hb; exact absurd rfl hb
  · rw [if_neg h]; exact mod_int' h (okTok _ I (.int _ _))

theorem RelL.flat {P : Pl} {β : Bk} {h : Heap} {vs : List V} {xs : List Value} (r : RelL P β h vs xs) : ∀ k : Nat, RelL P β h (List.replicate k vs).flatten (List.replicate k xs).flatten
  | 0 => .nil
  | k + 1 => by rw [List.replicate_succ, List.replicate_succ, List.flatten_cons, List.flatten_cons]; exact r.append (r.flat k)

theorem small_bits {i : Int} (h : small i = true) : Builtin.Int.intBits i ≤ 64 := by
  simp only [small, Bool.and_eq_true, decide_eq_true_eq] at h
  exact intBits_le_64 (by omega) (by omega)
theorem opMul_ok : OpOk P .Mult opMul := fun A β μ s a b x y L hu I ra rb hb => by
  cases ra with
  | int i t =>
    cases rb <;> first | exact absurd rfl hb | skip
    simp only [opMul] at hb ⊢
    rename_i j u
    by_cases h : (small i || small j) = true
    · rw [if_pos h]
      refine PySem.P.mul_int (okTok _ I (.int _ _)) ?_
      rcases Bool.or_eq_true_iff.mp h with q | q
      · exact .of_left (small_bits q)
      · exact .of_right (small_bits q)
    · rw [if_neg h] at hb; exact absurd rfl hb
  | @ref i l e =>
    cases rb <;> first | exact absurd rfl hb | skip
    simp only [opMul] at hb ⊢
    rename_i k u
    cases h1 : μ[i]? with
    | none => simp only [h1] at hb; exact absurd rfl hb
    | some o1 =>
      have r1 := I.obj i _ l h1 e
      simp only [h1] at hb ⊢
      cases r1 with
      | dict => exact absurd rfl hb
      | inst => exact absurd rfl hb
      | @list _ vs n xs a1 a2 a3 =>
      simp only at hb ⊢
      by_cases h : (small k && decide (xs.length * k.toNat ≤ lim)) = true
      · rw [if_pos h] at hb ⊢
        simp only [small, Bool.and_eq_true, decide_eq_true_eq] at h
        have hl := newL_lim hb
        have hz : vs.size * k.toNat ≤ lim := by have := a2.length; simp at this; rw [← this]; exact h.2
        refine wpAny_binaryOp_repeat_ref (T := "list") (U := "int") (by decide) ⟨_, a1, rfl⟩ (fun s' => typeIs_int s' k u) noFill_list_mul F.fills_int_mul F.slot_int_rmul repeat_list F.slot_int_index.lookup
          (call_meets F.slot_int_rmul (typeIs_int s k u) F.entry_int_rmul (F.args_int_rmul_2 _ _) (lm_int_rmul_list_any k u l vs n none #[])
            ⟨a1, rfl, ⟨_, a1, rfl⟩, call_meets F.slot_list_mul ⟨_, a1, rfl⟩ F.entry_list_mul (F.args_list_mul_2 _ _)
              (lm_list_mul_any l vs n none #[] k u (by simp [Builtin.List.listFitsIndex]; omega) (by simp only [lim] at hz; omega) (by simp only [Builtin.List.listTooLong, sizeLine, lim] at *; simp; omega))
              ⟨a1, ?_⟩⟩)
        have := listNew I (a2.flat k.toNat) hl
        have e : (List.foldl (fun x1 x2 => x1 ++ x2) #[] (List.replicate (if vs.isEmpty = true then 0 else k.toNat) vs)) = (List.replicate k.toNat vs.toList).flatten.toArray := listMul_foldl_if vs k.toNat
        rw [e]
        exact this
      · rw [if_neg h] at hb; exact absurd rfl hb
  | _ => exact absurd rfl hb

theorem SimE.neg {e : Expr} {d : DE} {pos : Pos} (h : SimE P B e d) : SimE P B (.UnaryOp .USub e pos) (dUn opNeg d) := fun n A env β ρ μ s X hb => by
  refine wpAny_UnaryOp (useE h X hb (fun a μ₁ β₁ x s₁ e₁ p₁ r₁ hb₁ X₁ => ?_) fun u s₁ q => q)
  have e : dUn opNeg d (P.cx n) ρ μ = opNeg a μ₁ := by simp only [dUn, e₁, R.bind]
  rw [e]
  cases r₁ <;> simp only [opNeg] at hb₁ ⊢ <;> first | exact absurd rfl hb₁ | exact PySem.P.neg_int ((okTok _ X₁.inv (.int _ _)).after p₁)
end
end
end Mine
end
section
set_option autoImplicit false
namespace Mine
noncomputable section
open PySem PyProof.Rows PySem.SeqAt

section
variable {P : Pg} {B : Blk}

theorem small_lo {i : Int} (h : small i = true) : -(2 ^ 63 : Int) ≤ i ∧ i < 2 ^ 63 := by
  simp only [small, Bool.and_eq_true, decide_eq_true_eq] at h; omega

theorem seqIndex_facts {i : Int} {n k : Nat} (h : seqIndex? i n = some k) : (0 ≤ i ∧ k = i.toNat ∧ i < n) ∨ (i < 0 ∧ -(n : Int) ≤ i ∧ k = (i + n).toNat) := by
  unfold seqIndex? at h
  simp only at h
  split at h
  · split at h <;> cases h
    rename_i h1 h2
    simp only [Bool.and_eq_true, decide_eq_true_eq] at h2
    omega
  · split at h <;> cases h
    rename_i h1 h2
    simp only [Bool.and_eq_true, decide_eq_true_eq] at h2
    omega

theorem item_ok {A : Around} {β : Bk} {μ : Mem} {s : Shared} {a b : V} {x y : Value} {value slice : Expr} {L : Option Addr} (I : Inv P.toPl β μ s.heap) (ra : Rel P.toPl β s.heap a x) (rb : Rel P.toPl β s.heap b y) (hb : item μ a b ≠ .bad)
    (hs : ∀ i, subscripted slice false x i = operate [x, i] (getItem x i)) :
    wpAny P.M A (subscriptTail value slice x y) (OkE P.toPl β s (item μ a b)) (ExE P.toPl L β s (item μ a b)) s := by
  cases rb with
  | int i t =>
    have lst : ∀ (l : Addr) (items : Array Value) (xs : List V), s.heap.IsList l items → RelL P.toPl β s.heap xs items.toList → R.opt μ (at? i xs) ≠ .bad →
        wpAny P.M A (getItem (.ref l) (.int i t)) (OkE P.toPl β s (R.opt μ (at? i xs))) (ExE P.toPl L β s (R.opt μ (at? i xs))) s := fun l items xs hl hr hb => by
      cases hv : at? i xs with
      | none => rw [hv] at hb; exact absurd rfl hb
      | some v =>
        simp only [R.opt]
        simp only [at?] at hv
        split at hv
        · rename_i hsm
          obtain ⟨k, hk, hx⟩ := Option.bind_eq_some_iff.mp hv
          obtain ⟨u, hu, hR⟩ := hr.get hx
          have hlen := hr.length
          rcases seqIndex_facts hk with ⟨h0, rfl, h1⟩ | ⟨h0, h1, rfl⟩
          · exact wpAny_getItem_list hl h0 (small_lo hsm).2 (by simpa using hu) (okNow I hR)
          · refine wpAny_getItem_list_neg hl h0 (by simp at hlen; omega) (small_lo hsm).1 (x := u) ?_ (okNow I hR)
            have : (i + (items.size : Int)).toNat = (i + (xs.length : Int)).toNat := by simp at hlen; omega
            rw [this]; simpa using hu
        · cases hv
    cases ra with
    | @tup l vs n xs g1 g2 g3 =>
      simp only [item] at hb ⊢
      cases hv : at? i xs with
      | none => rw [hv] at hb; exact absurd rfl hb
      | some v =>
        simp only [R.opt]
        simp only [at?] at hv
        split at hv
        · rename_i hsm
          obtain ⟨k, hk, hx⟩ := Option.bind_eq_some_iff.mp hv
          obtain ⟨u, hu, hR⟩ := g2.get hx
          exact tail_any ⟨_, g1, rfl⟩ slot_tuple_getitem.lookup (PySem.P.getItem_tuple g1 (small_lo hsm).1 (small_lo hsm).2 (by rw [show vs.size = xs.length from by rw [g2.length]; simp]; exact hk) (by simpa using hu) (okNow I hR)) (hs _)
        · cases hv
    | @ref j l e =>
      simp only [item] at hb ⊢
      cases hm : μ[j]? with
      | none => rw [hm] at hb; exact absurd rfl hb
      | some o =>
        have ro := I.obj j _ l hm e
        simp only [hm] at hb ⊢
        cases ro with
        | dict => exact absurd rfl hb
        | inst => exact absurd rfl hb
        | @list _ vs n xs a1 a2 a3 =>
          have hl : s.heap.IsList l vs := ⟨_, a1, rfl, n, rfl⟩
          exact tail_any hl.typeIs slot_list_getitem.lookup (lst l vs xs hl a2 hb) (hs _)
    | @scr l items ns g1 g2 g3 =>
      simp only [item] at hb ⊢
      obtain ⟨o, e1, e2⟩ := g1
      have hl : s.heap.IsList l items := ⟨o, I.base _ _ e1, e2⟩
      exact tail_any hl.typeIs slot_list_getitem.lookup (lst l items _ hl g3 hb) (hs _)
    | @str x t g1 g2 =>
      simp only [item] at hb ⊢
      split at hb
      · rename_i hsm
        rw [if_pos hsm]
        cases hv : (seqIndex? i x.length).bind (x.cps[·]?) with
        | none => rw [hv] at hb; exact absurd rfl hb
        | some c =>
          have hlo := small_lo hsm
          refine tail_any (typeIs_str s x t) slot_str_getitem.lookup (getItem_str (by simp; omega) hv (okTok _ I (.str ?_ ?_))) (hs _)
          · obtain ⟨k, _, hk⟩ := Option.bind_eq_some_iff.mp hv
            simp only [PyData.strOk, Array.all_eq_true, decide_eq_true_eq] at g1 ⊢
            intro j hj
            obtain ⟨hk1, hk2⟩ := Array.getElem?_eq_some_iff.mp hk
            have := g1 k hk1
            simp at hj; subst hj
            simpa [hk2] using this
          · show (1 : Nat) ≤ lim; decide
      · exact absurd rfl hb
    | _ => simp only [item] at hb; exact absurd rfl hb
  | _ => simp only [item] at hb; exact absurd rfl hb

theorem SimE.idx {a i : Expr} {da di : DE} {pos : Pos} (hs : ∀ x y, subscripted i false x y = operate [x, y] (getItem x y)) (ha : SimE P B a da) (hi : SimE P B i di) : SimE P B (.Subscript a i pos) (dIdx da di) :=
  fun n A env β ρ μ s X hb => by
    refine Subscript_ (useE ha X hb (fun v μ₁ β₁ x s₁ e₁ p₁ r₁ hb₁ X₁ => ?_) fun u s₁ q => q)
    refine useE hi X₁ hb₁ (fun k μ₂ β₂ y s₂ e₂ p₂ r₂ hb₂ X₂ => ?_) fun u s₂ q => ?_
    · have e : dIdx da di (P.cx n) ρ μ = item μ₂ v k := by simp only [dIdx, e₁, e₂, R.bind]
      rw [e]
      exact wpAny_mono (item_ok X₂.inv (r₁.post X₁.inv p₂) r₂ hb₂ (fun _ => hs _ _)) (fun _ _ q => (q.after p₂).after p₁) fun _ _ q => (q.after p₂).after p₁
    · have e : dIdx da di (P.cx n) ρ μ = (di (P.cx n) ρ μ₁).bind fun k μ => item μ v k := by simp only [dIdx, e₁, R.bind]
      rw [e]; exact q.after p₁

/- slices -/
theorem RelL.cut {P : Pl} {β : Bk} {h : Heap} {vs : List V} {xs : List Value} (r : RelL P β h vs xs) (lo hi : Option Int) : RelL P β h (cut lo hi vs) (Mine.cut lo hi xs) := by
  unfold Mine.cut
  rw [r.length]
  exact (r.drop _).take _
theorem cut_length {α : Type} (lo hi : Option Int) (xs : List α) : (cut lo hi xs).length ≤ xs.length := by
  unfold cut
  rw [List.length_take, List.length_drop]
  omega
theorem cut_mem {α : Type} {lo hi : Option Int} {xs : List α} {a : α} (h : a ∈ cut lo hi xs) : a ∈ xs := List.mem_of_mem_drop (List.mem_of_mem_take h)
theorem pick_cut (items : Array Value) (lo hi : Option Int) : slicePick items lo hi none = (cut lo hi items.toList).toArray := by
  rw [slicePick_plain]; simp [cut]

theorem clip_le (n : Nat) (i : Int) : clipAt n i ≤ n := by have := clipAt_cast n i; omega
theorem adjust_cut (lo hi : Option Int) (n : Nat) : Builtin.Slice.sliceAdjust lo hi 1 (n : Int) = (((lo.elim 0 (clipAt n) : Nat) : Int), ((hi.elim n (clipAt n) : Nat) : Int)) := by
  unfold Builtin.Slice.sliceAdjust
  have h1 : ¬ ((1 : Int) < 0) := by omega
  simp only [h1, if_false]
  have one : ∀ i : Int, (if i < 0 then max (i + (n : Int)) 0 else min i (n : Int)) = ((clipAt n i : Nat) : Int) := fun i => by
    rw [clipAt_cast]; split <;> omega
  cases lo <;> cases hi <;> simp [one]
theorem places_cut (a b : Nat) : Builtin.Slice.slicePlaces (a : Int) (b : Int) 1 = b - a := by
  unfold Builtin.Slice.slicePlaces
  have h1 : (1 : Int) > 0 := by omega
  simp only [h1, if_true, Int.ediv_one]
  split <;> omega
theorem picks_cut (xs : Array Value) (a m : Nat) : ((List.range m).filterMap fun (k : Nat) => xs[((a : Int) + (k : Int) * 1).toNat]?) = (xs.toList.drop a).take m := by
  have e : (fun (k : Nat) => xs[((a : Int) + (k : Int) * 1).toNat]?) = fun k => xs[a + k]? := by
    funext k
    have : ((a : Int) + (k : Int) * 1).toNat = a + k := by omega
    rw [this]
  rw [e]
  have := pick_run xs a m
  rw [List.filterMap_map] at this
  exact this
theorem slicePart_of {prog : Program} {w : World} {A : Around} {E : Value → Shared → Prop} {s : Shared} {v : Value} {i : Option Int} {Q : Option Int → Shared → Prop} (p : IsPart v i) (h : Q i s) : wpAny (model prog w) A (Builtin.Slice.slicePartIndex v) Q E s := by
  cases p with
  | none => exact slicePart_none h
  | int i t => exact slicePart_int h

theorem getItem_tuple_cut {prog : Program} {w : World} {A : Around} {E : Value → Shared → Prop} {s : Shared} {t sl : Addr} {items : Array Value} {n : Nat} {vl vu : Value} {lo hi : Option Int} {Q : Value → Shared → Prop} (ht : IsT s.heap t items n) (hs : s.heap.IsSliceOf sl vl vu .none) (pl : IsPart vl lo) (pu : IsPart vu hi)
    (h1 : cut lo hi items.toList = items.toList → Q (.ref t) s)
    (h : Q (.ref s.heap.objs.size) { s with heap := s.heap.push { cls := .type "tuple", data := .seq (cut lo hi items.toList).toArray } })
    (hsz : items.size ≤ sizeLine) : wpAny (model prog w) A (getItem (.ref t) (.ref sl)) Q E s := by
  have hT : s.TypeIs (.ref t) "tuple" := ⟨_, ht, rfl⟩
  have hI : IsTup s.heap t items := ⟨_, ht, rfl, n, rfl⟩
  have hdrop : sizeOk (.seq (cut lo hi items.toList).toArray) := by
    show (cut lo hi items.toList).toArray.size ≤ sizeLine
    rw [List.size_toArray]
    have := cut_length lo hi items.toList
    simp at this; omega
  obtain ⟨os, hos, hcs, hds⟩ := id hs
  have hTs : s.TypeIs (.ref sl) "slice" := ⟨os, hos, hcs⟩
  unfold getItem
  try with_reducible refine wpAny_holding ?_
  first | refine wpAny_bind (wpAny_pure ?_) | skip
  refine wpAny_bind (wpAny_sequenceKey hT (by decide) ?_)
  refine wpAny_bind (wpAny_callSpecial?_slot (name := Str.ofString "__getitem__") hT slot_tuple_getitem
    (wpAny_call_entry slot_tuple_getitem hT entry_tuple_getitem ?_ (args_tuple_getitem _ _)))
  show wpAny _ _ (Builtin.Tuple.tupleItemsOf (.ref t) >>= _) _ _ s
  refine wpAny_bind (tupleItemsOf_ hI ?_)
  refine wpAny_bind (wpAny_typeOf hTs ?_)
  rw [if_pos (by decide)]
  have app : ∀ (Q' : Int × Int × Nat → Shared → Prop) (E' : Value → Shared → Prop) (A' : Around), Q' (((lo.elim 0 (clipAt items.size) : Nat) : Int), 1, hi.elim items.size (clipAt items.size) - lo.elim 0 (clipAt items.size)) s → wpAny (model prog w) A' (Builtin.Slice.sliceApplied (.ref sl) (pure (items.size : Int))) Q' E' s := fun Q' E' A' hq => by
    unfold Builtin.Slice.sliceApplied Builtin.Slice.sliceFields
    refine wpAny_bind (wpAny_bind (wpAny_field hos hds (x := vl) rfl (wpAny_bind (wpAny_field hos hds (x := vu) rfl (wpAny_bind (wpAny_field hos hds (x := .none) rfl (wpAny_pure ?_)))))))
    refine wpAny_bind (slicePart_none ?_)
    show wpAny _ _ (if ((1 : Int) == 0) = true then _ else _) _ _ s
    rw [if_neg (by decide)]
    refine wpAny_bind (slicePart_of pl (wpAny_bind (slicePart_of pu (wpAny_bind (wpAny_pure ?_)))))
    show wpAny _ _ (match Builtin.Slice.sliceAdjust lo hi 1 (items.size : Int) with | (lo, hi) => pure (lo, (1 : Int), Builtin.Slice.slicePlaces lo hi 1)) _ _ s
    rw [adjust_cut]
    show wpAny _ _ (pure (_, (1 : Int), Builtin.Slice.slicePlaces _ _ 1)) _ _ s
    rw [places_cut]
    exact wpAny_pure hq
  refine wpAny_bind (app _ _ _ ?_)
  dsimp only
  have ecut : cut lo hi items.toList = (items.toList.drop (lo.elim 0 (clipAt items.size))).take (hi.elim items.size (clipAt items.size) - lo.elim 0 (clipAt items.size)) := by simp [cut]
  by_cases hw : (((lo.elim 0 (clipAt items.size) : Nat) : Int) == 0 && (1 : Int) == 1 && (hi.elim items.size (clipAt items.size) - lo.elim 0 (clipAt items.size)) == items.size) = true
  · have hq : Q (.ref t) s := h1 (by
      simp only [Bool.and_eq_true, beq_iff_eq] at hw
      have z : lo.elim 0 (clipAt items.size) = 0 := by omega
      rw [ecut, hw.2, z, List.drop_zero, List.take_of_length_le (by simp)])
    rw [if_pos hw]
    refine wpAny_bind ?_
    unfold Builtin.Tuple.tupleIsExact
    refine wpAny_bind (wpAny_typeOf hT (wpAny_pure ?_))
    rw [if_pos (by decide)]
    first
      | exact wpAny_bind (wpAny_rule (wpAny_pure ⟨_, rfl, wpAny_pure hq⟩))
      | exact wpAny_bind (wpAny_rule (wpAny_bind (wpAny_pure (wpAny_pure ⟨_, rfl, wpAny_pure hq⟩))))
      | exact wpAny_bind (wpAny_rule (wpAny_bind (wpAny_pure (wpAny_pure ⟨_, rfl, hq⟩))))
      | exact wpAny_bind (wpAny_rule (wpAny_pure ⟨_, rfl, hq⟩))
  · rw [if_neg hw, picks_cut, ← ecut]
    first
      | exact wpAny_bind (m := Builtin.Tuple.tupleExact _) (wpAny_newObj_type (wpAny_pure ⟨_, rfl, wpAny_pure h⟩) hdrop)
      | exact wpAny_bind (m := Builtin.Tuple.tupleExact _) (wpAny_newObj_type (wpAny_bind (wpAny_pure (wpAny_pure ⟨_, rfl, wpAny_pure h⟩))) hdrop)
      | exact wpAny_bind (wpAny_bind (m := Builtin.Tuple.tupleExact _) (wpAny_newObj_type (wpAny_pure (wpAny_pure ⟨_, rfl, wpAny_pure h⟩)) hdrop))
      | exact wpAny_bind (wpAny_bind (m := Builtin.Tuple.tupleExact _) (wpAny_newObj_type (wpAny_pure ⟨_, rfl, wpAny_pure h⟩) hdrop))

theorem idx_cut (lo hi : Option Int) (n : Nat) : Builtin.Str.strSliceIndices lo hi 1 n = (List.range (hi.elim n (clipAt n) - lo.elim 0 (clipAt n))).map (lo.elim 0 (clipAt n) + ·) := by
  have : Builtin.Str.strSliceIndices lo hi 1 n = sliceRange (sliceBounds lo hi none n).1 (sliceBounds lo hi none n).2.1 (sliceBounds lo hi none n).2.2 := rfl
  rw [this, sliceBounds_plain, sliceRange_one]
theorem picks_str (x : Str) (lo hi : Option Int) : (Builtin.Str.strSliceIndices lo hi 1 x.length).filterMap (x.cps[·]?) = cut lo hi x.cps.toList := by
  rw [idx_cut, pick_run]; simp [cut, Str.length]
theorem cutS_whole (x : Str) (lo hi : Option Int) (h : (Builtin.Str.strSliceIndices lo hi 1 x.length).length = x.length) : cutS lo hi x = x := by
  have hl := h
  rw [idx_cut] at hl
  simp only [List.length_map, List.length_range] at hl
  have hle : hi.elim x.length (clipAt x.length) ≤ x.length := by
    cases hi with
    | none => exact Nat.le_refl _
    | some i => exact clip_le _ i
  have e : cut lo hi x.cps.toList = x.cps.toList := by
    unfold cut
    simp only [Array.length_toList]
    change _ = _
    by_cases hx : x.length = 0
    · have : x.cps.toList = [] := by have : x.cps.size = 0 := hx; simpa using this
      rw [this]; simp
    · have z : lo.elim 0 (clipAt x.cps.size) = 0 := by show lo.elim 0 (clipAt x.length) = 0; omega
      have z' : hi.elim x.cps.size (clipAt x.cps.size) = x.cps.size := by show hi.elim x.length (clipAt x.length) = x.length; omega
      rw [z, z', List.drop_zero, List.take_of_length_le (by simp)]
  unfold cutS
  rw [e]
theorem strOk_cut {x : Str} (h : PyData.strOk x = true) (lo hi : Option Int) : PyData.strOk (cutS lo hi x) = true := by
  simp only [PyData.strOk, Array.all_eq_true', decide_eq_true_eq] at h ⊢
  intro c hc
  exact h c (Array.mem_toList_iff.mp (cut_mem (by simpa [cutS] using hc)))

theorem getItem_str_cut {prog : Program} {w : World} {A : Around} {E : Value → Shared → Prop} {s : Shared} {x : Str} {t : Tok} {sl : Addr} {vl vu : Value} {lo hi : Option Int} {Q : Value → Shared → Prop} (hs : s.heap.IsSliceOf sl vl vu .none) (pl : IsPart vl lo) (pu : IsPart vu hi)
    (h : ∀ t' tk, Q (.str (cutS lo hi x) t') { s with toks := tk }) (hsz : x.length ≤ lim) : wpAny (model prog w) A (getItem (.str x t) (.ref sl)) Q E s := by
  have part : ∀ {v : Value} {i : Option Int}, IsPart v i → ∃ p : Option (Int × Tok), v = partValue p ∧ p.map (·.1) = i := fun p => by
    cases p with
    | none => exact ⟨none, rfl, rfl⟩
    | int i t => exact ⟨some (i, t), rfl, rfl⟩
  obtain ⟨l, rfl, rfl⟩ := part pl
  obtain ⟨u, rfl, rfl⟩ := part pu
  refine wpAny_getItem_str_slice (l := l) (u := u) (st := none) ?_ rfl ?_
  · obtain ⟨o, e1, e2, e3⟩ := hs
    exact ⟨o, e1, e2, e3⟩
  · unfold sliceMade
    have e : slicePicked x l u none = Builtin.Str.strSliceIndices (l.map (·.1)) (u.map (·.1)) 1 x.length := rfl
    split
    · rename_i hw
      simp only [e, Bool.and_eq_true, beq_iff_eq] at hw
      have := h t s.toks
      rw [cutS_whole x _ _ hw.2] at this
      exact this
    · rw [e, picks_str]
      exact ⟨by
        have := cut_length (l.map (·.1)) (u.map (·.1)) x.cps.toList
        show (cut (l.map (·.1)) (u.map (·.1)) x.cps.toList).toArray.size ≤ sizeLine
        simp at this ⊢
        have h2 : x.cps.size ≤ lim := hsz
        simp only [lim, sizeLine] at *
        omega, h s.toks (s.toks + 1)⟩

noncomputable def SimO (P : Pg) (B : Blk) (e : Option Expr) (d : DO) : Prop :=
  ∀ n A env β ρ μ s, At P B n A env β ρ μ s → d (P.cx n) ρ μ ≠ .bad →
    wpAny P.M A (valueOrNone (evalOpt e env)) (fun x s' => ∃ i μ' β', d (P.cx n) ρ μ = .ok i μ' ∧ Post P.toPl β β' μ' s s' ∧ IsPart x i) (ExE P.toPl env.frame β s (d (P.cx n) ρ μ)) s
theorem SimO.none : SimO P B Option.none oNone := fun _ _ _ β _ μ _ X _ => wpAny_pure ⟨Option.none, μ, β, rfl, .refl X.inv, .none⟩
theorem SimO.some {e : Expr} {d : DE} (h : SimE P B e d) : SimO P B (Option.some e) (oSome d) := fun n A env β ρ μ s X hb => by
  show wpAny P.M A (eval e env) _ _ s
  refine useE h X hb (fun v μ₁ β₁ x s₁ e₁ p₁ r₁ hb₁ X₁ => ?_) fun u s₁ q => q
  cases r₁ <;> first | exact absurd rfl hb₁ | skip
  rename_i i t
  exact ⟨Option.some i, μ₁, β₁, by simp only [oSome, e₁, R.bind], p₁, .int i t⟩

theorem slc_ok {A : Around} {β : Bk} {μ : Mem} {s : Shared} {a : V} {x vl vu : Value} {lo hi : Option Int} {value slice : Expr} {L : Option Addr} (I : Inv P.toPl β μ s.heap) (ra : Rel P.toPl β s.heap a x) (pl : IsPart vl lo) (pu : IsPart vu hi) (hb : slc μ lo hi a ≠ .bad)
    (hs : ∀ x i, subscripted slice false x i = operate [i, x] (getItem x i)) :
    wpAny P.M A (subscriptTail value slice x (.ref s.heap.objs.size)) (OkE P.toPl β s (slc μ lo hi a)) (ExE P.toPl L β s (slc μ lo hi a)) { s with heap := s.heap.push { cls := .type "slice", data := .fields #[vl, vu, .none] } } := by
  have p : Post P.toPl β β μ s { s with heap := s.heap.push { cls := .type "slice", data := .fields #[vl, vu, .none] }, toks := s.toks } := Post.other I s.toks fun a o e => Heap.get?_push_of_some _ e
  have hsl := Heap.IsSliceOf.new s.heap vl vu .none
  have r' := ra.post I p
  cases r' with
  | @tup l vs n xs g1 g2 g3 =>
    simp only [slc] at hb ⊢
    have hl := newT_lim hb
    refine tail_any ⟨_, g1, rfl⟩ slot_tuple_getitem.lookup (getItem_tuple_cut (lo := lo) (hi := hi) g1 hsl pl pu (fun e => ?_) ?_ (lim_line (by have := g2.length; simp at this; omega))) (hs _ _)
    · have : cut lo hi xs = xs := by
        have h1 := congrArg List.length e
        have h2 := g2.length
        have h3 : (cut lo hi xs).length = xs.length := by rw [(g2.cut lo hi).length, h1, ← h2]
        unfold cut at h3 ⊢
        rw [List.length_take, List.length_drop] at h3
        by_cases hx : xs.length = 0
        · rw [List.length_eq_zero_iff.mp hx]; simp
        · have z : lo.elim 0 (clipAt xs.length) = 0 := by omega
          rw [z, List.drop_zero, List.take_of_length_le (by omega)]
      rw [this]
      simp only [newT, g3, if_true]
      exact (okNow p.inv (.tup g1 g2 g3)).after p
    · have := tupNew p.inv (g2.cut lo hi) hl
      exact this.after p
  | @ref j l e =>
    simp only [slc] at hb ⊢
    cases hm : μ[j]? with
    | none => rw [hm] at hb; exact absurd rfl hb
    | some o =>
      have ro := p.inv.obj j _ l hm e
      simp only [hm] at hb ⊢
      cases ro with
      | dict => exact absurd rfl hb
      | inst => exact absurd rfl hb
      | @list _ vs n xs a1 a2 a3 =>
        have hl := newL_lim hb
        refine tail_any ⟨_, a1, rfl⟩ slot_list_getitem.lookup (wpAny_getItem_list_slice (lo := lo) (hi := hi) (st := none) ⟨_, a1, rfl, n, rfl⟩ hsl pl pu .none (by simp) ?_ (lim_line (by have := a2.length; simp at this; omega))) (hs _ _)
        rw [pick_cut]
        exact (listNew p.inv (a2.cut lo hi) hl).after p
  | @str x t g1 g2 =>
    simp only [slc] at hb ⊢
    have hl := newS_lim hb
    simp only [newS, hl, if_true]
    refine tail_any (typeIs_str _ x t) slot_str_getitem.lookup (getItem_str_cut hsl pl pu (fun t' tk => ?_) g2) (hs _ _)
    exact (okTok tk p.inv (.str (strOk_cut g1 lo hi) hl)).after p
  | _ => simp only [slc] at hb; exact absurd rfl hb

theorem SimE.slc {a : Expr} {lo hi : Option Expr} {da : DE} {dl dh : DO} {p pos : Pos} (ha : SimE P B a da) (hl : SimO P B lo dl) (hh : SimO P B hi dh) : SimE P B (.Subscript a (.Slice lo hi Option.none p) pos) (dSlc da dl dh) :=
  fun n A env β ρ μ s X hb => by
    refine Subscript_ (useE ha X hb (fun v μ₁ β₁ x s₁ e₁ p₁ r₁ hb₁ X₁ => ?_) fun u s₁ q => q)
    rw [arm_eval_Slice]
    have e0 : dSlc da dl dh (P.cx n) ρ μ = (dl (P.cx n) ρ μ₁).bind fun l μ => (dh (P.cx n) ρ μ).bind fun h μ => Mine.slc μ l h v := by simp only [dSlc, e₁]; rfl
    rw [e0]
    refine wpAny_bind (wpAny_mono (hl n A env β₁ ρ μ₁ s₁ X₁ fun q => hb₁ (by simp [q, R.bind])) (fun vl s₂ q => ?_) fun u s₂ q => ?_)
    · obtain ⟨l, μ₂, β₂, e₂, p₂, k₂⟩ := q
      have X₂ := X₁.post p₂
      rw [e₂] at hb₁ ⊢
      simp only [R.bind] at hb₁ ⊢
      refine wpAny_bind (wpAny_holding (wpAny_mono (hh n A env β₂ ρ μ₂ s₂ X₂ fun q => hb₁ (by simp [q, R.bind])) (fun vu s₃ q => ?_) fun u s₃ q => ?_))
      · obtain ⟨h, μ₃, β₃, e₃, p₃, k₃⟩ := q
        have X₃ := X₂.post p₃
        rw [e₃] at hb₁ ⊢
        simp only [R.bind] at hb₁ ⊢
        refine wpAny_bind (wpAny_holding (wpAny_pure ?_))
        refine wpAny_newObj_type ?_ (by show (3 : Nat) ≤ sizeLine + 2; decide)
        refine wpAny_mono (slc_ok (L := env.frame) X₃.inv ((r₁.post X₁.inv p₂).post X₂.inv p₃) k₂ k₃ hb₁ (fun _ _ => rfl)) (fun _ _ q => ((q.after p₃).after p₂).after p₁) fun _ _ q => ((q.after p₃).after p₂).after p₁
      · obtain ⟨c, μ₃, β₃, e₃, p₃, k₃⟩ := q
        exact ⟨c, μ₃, β₃, by simp [e₃, R.bind], p₁.trans (p₂.trans p₃), k₃.lower fun _ q => p₁.back (p₂.back q)⟩
    · obtain ⟨c, μ₂, β₂, e₂, p₂, k₂⟩ := q
      exact ⟨c, μ₂, β₂, by simp [e₂, R.bind], p₁.trans p₂, k₂.lower fun _ => p₁.back⟩
end
end
end Mine
end
section
set_option autoImplicit false
namespace Mine
noncomputable section
open PySem PyProof.Rows PySem.SeqAt

section
variable {P : Pg} {B : Blk}

theorem tab_inj_aux : ∀ {tab : List (Option (Str × NameKind))}, (tab.filterMap (·.map (·.1))).Nodup → ∀ {i j : Nat} {x : Str} {k k' : NameKind}, tab[i]? = some (some (x, k)) → tab[j]? = some (some (x, k')) → i = j
  | [], _, i, j, x, k, k', h, _ => by simp at h
  | none :: r, hn, i, j, x, k, k', hi, hj => by
    cases i with
    | zero => simp at hi
    | succ i => cases j with
      | zero => simp at hj
      | succ j => exact congrArg (· + 1) (tab_inj_aux (tab := r) (i := i) (j := j) (x := x) (k := k) (k' := k') (by simpa using hn) (by simpa using hi) (by simpa using hj))
  | some (y, q) :: r, hn, i, j, x, k, k', hi, hj => by
    have hn' : (y :: r.filterMap (·.map (·.1))).Nodup := by simpa using hn
    have out : ∀ {m : Nat} {q' : NameKind}, r[m]? = some (some (y, q')) → False := fun {m q'} h => by
      have : y ∈ r.filterMap (·.map (·.1)) := List.mem_filterMap.mpr ⟨_, List.mem_of_getElem? h, rfl⟩
      exact (List.nodup_cons.mp hn').1 this
    cases i with
    | zero => cases j with
      | zero => rfl
      | succ j =>
        simp at hi hj
        exact (out (hi.1 ▸ hj)).elim
    | succ i => cases j with
      | zero =>
        simp at hi hj
        exact (out (hj.1 ▸ hi)).elim
      | succ j => exact congrArg (· + 1) (tab_inj_aux (tab := r) (i := i) (j := j) (x := x) (k := k) (k' := k') (List.nodup_cons.mp hn').2 (by simpa using hi) (by simpa using hj))
theorem Blk.inj {B : Blk} (h : B.ok = true) {i j : Nat} {x : Str} {k k' : NameKind} (hi : B.tab[i]? = some (some (x, k))) (hj : B.tab[j]? = some (some (x, k'))) : i = j := by
  simp only [Blk.ok, Bool.and_eq_true] at h
  exact tab_inj_aux (of_decide_eq_true h.2) hi hj

theorem EnvOk.ownOk {A : Around} {env : Env} {β : Bk} {ρ : Fr} {h : Heap} (x : EnvOk P B A env β ρ h) : OwnOk (Mine.own env) h := fun a ha o e => by
  obtain ⟨_, _, o', e', hd⟩ := x.own a ha
  rw [e] at e'; cases e'; exact hd.elim .inl fun h => .inr (.inl h)

theorem lookup_mem_snd {l : List (Str × Addr)} {x : Str} {c : Addr} (h : l.lookup x = some c) : c ∈ l.map (·.2) := by
  induction l with
  | nil => cases h
  | cons p r ih =>
    obtain ⟨y, d⟩ := p
    rw [List.lookup_cons] at h
    split at h
    · cases h; simp
    · exact List.mem_cons_of_mem _ (ih h)

/-- what a store of a name may change -/
noncomputable def tgt (k : NameKind) (x : Str) (env : Env) : List Addr := match k with
  | .local => [env.locals]
  | _ => (env.cells.lookup x).toList
theorem tgt_sub {k : NameKind} {x : Str} {env : Env} : ∀ a ∈ tgt k x env, a ∈ own env := fun a ha => by
  have hc : a ∈ (env.cells.lookup x).toList → a ∈ own env := fun h => List.mem_cons_of_mem _ (lookup_mem_snd (Option.mem_toList.mp h))
  cases k <;> first | exact hc ha | exact List.mem_cons.mpr (.inl (List.mem_singleton.mp ha))
/-- a name stored -/
theorem store_at {n : Nat} {A : Around} {env : Env} {β : Bk} {ρ : Fr} {μ : Mem} {s : Shared} {i : Nat} {x : Str} {k : NameKind} {v : V} {u : Value} {Q : Unit → Shared → Prop} {E : Value → Shared → Prop}
    (X : At P B n A env β ρ μ s) (ht : B.tab[i]? = some (some (x, k))) (hk : k = .local ∨ k = .cell) (r : Rel P.toPl β s.heap v u)
    (h : ∀ s', PostS P.toPl (tgt k x env) β β μ s s' → EnvOk P B A env β (ρ.set i v) s'.heap → Q () s') : wpAny P.M A (storeName env x u) Q E s := by
  obtain ⟨h1, h2, _, _, _⟩ := Blk.look X.env.ok ht
  have hkd : env.scope.kind = .function := by rw [X.env.sc]; exact h1
  have hl : env.kindOf x = some k := by show env.scope.names.lookup x = some k; rw [X.env.sc]; exact h2
  have key : ∀ (W : Addr) (h' : Heap) (tk : Nat), W ∈ tgt k x env → W ∉ β → P.h₀.get? W = none → (∀ o, s.heap.get? W = some o → (∃ es n, o.data = .dict es n) ∨ ∃ v, o.data = .cell v) → Heap.SameBut W s.heap h' →
      PostS P.toPl (tgt k x env) β β μ s { s with heap := h', toks := tk } ∧ ∀ {v' : V} {u' : Value}, Rel P.toPl β s.heap v' u' → Rel P.toPl β h' v' u' := fun W h' tk hW hWb hW0 hWo hs => by
    have base : ∀ a o, P.h₀.get? a = some o → h'.get? a = some o := fun a o e => by
      rw [hs.2 a (fun q => by rw [q, hW0] at e; cases e)]; exact X.inv.base a o e
    have rel : ∀ {v' : V} {u' : Value}, Rel P.toPl β s.heap v' u' → Rel P.toPl β h' v' u' := by
      intro v' u' r'
      -- everything but W stands
      have : ∀ a o, s.heap.get? a = some o → a ≠ W → h'.get? a = some o := fun a o e q => (hs.2 a q).trans e
      exact Rel.but X.inv this hWb hWo r'
    refine ⟨⟨⟨h', tk, rfl⟩, ⟨X.inv.len, X.inv.nd, fun j o a e1 e2 => ?_, base, X.inv.new⟩, List.prefix_refl _, fun a o e _ hw => ⟨o, (hs.2 a fun q => hw (q ▸ hW)).trans e, .refl _⟩, fun _ q n => absurd q n⟩, rel⟩
    have ro := X.inv.obj j o a e1 e2
    exact ro.but X.inv (fun b ob e q => (hs.2 b q).trans e) hWb hWo (fun q => hWb (q ▸ List.mem_of_getElem? e2))
  rcases hk with rfl | rfl
  · obtain ⟨m, hn, hm⟩ := X.env.ns
    refine wpAny_storeName_local hl hn (fun h' hn' hs => ?_) (by rw [hkd]; rfl)
    obtain ⟨p, rel⟩ := key env.locals h' (s.toks + 1) (List.mem_cons_self) X.env.loc.1 X.env.loc.2 (fun o e => by
      obtain ⟨o', es, n, e', hd, _⟩ := hn
      rw [e] at e'; cases e'; exact .inl ⟨es, n, hd⟩) hs
    refine h _ p { X.env with
      ns := ⟨_, hn', fun j y w hj hw => ?_⟩
      cell := fun j y k' hj hk' => ?_
      fr := ?_
      own := fun a ha => ?_ }
    · by_cases q : j = i
      · subst q
        rw [ht] at hj; cases hj
        rw [Fr.set_self] at hw; cases hw
        exact ⟨u, by simp, rel r⟩
      · rw [Fr.set_ne ρ v q] at hw
        obtain ⟨u', e1, e2⟩ := hm j y w hj hw
        have hy : y ≠ x := fun e => q (Blk.inj X.env.ok (e ▸ hj) ht)
        exact ⟨u', by simp [hy, e1], rel e2⟩
    · obtain ⟨c, u', h1, h2, h3, h4, h5⟩ := X.env.cell j y k' hj hk'
      have hj' : j ≠ i := fun q => by subst q; rw [ht] at hj; cases hj; rcases hk' with q | q <;> cases q
      refine ⟨c, u', h1, h2, h3, ?_, fun w hw => ?_⟩
      · obtain ⟨oc, g1, g2⟩ := h4
        refine ⟨oc, (hs.2 c fun q => ?_).trans g1, g2⟩
        obtain ⟨o', es, n, e', hd, _⟩ := hn
        rw [q, e'] at g1; cases g1; rw [hd] at g2; cases g2
      · rw [Fr.set_ne ρ v hj'] at hw
        obtain ⟨z, e1, e2⟩ := h5 w hw
        exact ⟨z, e1, rel e2⟩
    · obtain ⟨fe, outer, f1, f2, f3⟩ := X.env.fr
      refine ⟨fe, outer, f1, f2, fun e he => ?_⟩
      obtain ⟨k, L, o, g1, g2, g3, g4, es, m', g5⟩ := f3 e he
      by_cases q : L = env.locals
      · obtain ⟨o', es', n', e', hd, _⟩ := hn'
        exact ⟨k, L, o', g1, g2, g3, q ▸ e', es', n', hd⟩
      · exact ⟨k, L, o, g1, g2, g3, (hs.2 L q).trans g4, es, m', g5⟩
    · obtain ⟨g1, g2, o, g3, g4⟩ := X.env.own a ha
      by_cases q : a = env.locals
      · obtain ⟨o', es', n', e', hd, _⟩ := hn'
        exact ⟨g1, g2, o', q ▸ e', .inl ⟨es', n', hd⟩⟩
      · exact ⟨g1, g2, o, (hs.2 a q).trans g3, g4⟩
  · obtain ⟨c, u₀, c1, c2, c3, c4, c5⟩ := X.env.cell i x _ ht (.inl rfl)
    refine wpAny_storeName_cell hkd hl c1 c4 fun h' hv' hs => ?_
    obtain ⟨p, rel⟩ := key c h' s.toks (Option.mem_toList.mpr c1) c2 c3 (fun o e => by
      obtain ⟨o', e', hd⟩ := c4
      rw [e] at e'; cases e'; exact .inr ⟨_, hd⟩) hs
    have noL : ∀ L o, s.heap.get? L = some o → (∃ es n, o.data = .dict es n) → L ≠ c := fun L o e ⟨es, n, hd⟩ q => by
      obtain ⟨o', e', hd'⟩ := c4
      rw [q, e'] at e; cases e; rw [hd] at hd'; cases hd'
    refine h _ p { X.env with
      ns := ?_
      cell := fun j y k' hj hk' => ?_
      fr := ?_
      own := fun a ha => ?_ }
    · obtain ⟨m, ⟨o, es, ep, e, d, q⟩, hm⟩ := X.env.ns
      refine ⟨m, ⟨o, es, ep, (hs.2 _ (noL _ _ e ⟨es, ep, d⟩)).trans e, d, q⟩, fun j y w hj hw => ?_⟩
      have hj' : j ≠ i := fun q => by subst q; rw [ht] at hj; cases hj
      rw [Fr.set_ne ρ v hj'] at hw
      obtain ⟨u', e1, e2⟩ := hm j y w hj hw
      exact ⟨u', e1, rel e2⟩
    · by_cases q : j = i
      · subst q
        rw [ht] at hj; cases hj
        refine ⟨c, some u, c1, c2, c3, hv', fun w hw => ?_⟩
        rw [Fr.set_self] at hw; cases hw
        exact ⟨u, rfl, rel r⟩
      · obtain ⟨c', u', h1, h2, h3, h4, h5⟩ := X.env.cell j y k' hj hk'
        have hy : y ≠ x := fun e => q (Blk.inj X.env.ok (e ▸ hj) ht)
        have hc' : c' ≠ c := fun e => hy (X.env.apart y x c' h1 (e ▸ c1))
        refine ⟨c', u', h1, h2, h3, ?_, fun w hw => ?_⟩
        · obtain ⟨oc, g1, g2⟩ := h4
          exact ⟨oc, (hs.2 c' hc').trans g1, g2⟩
        · rw [Fr.set_ne ρ v q] at hw
          obtain ⟨z, e1, e2⟩ := h5 w hw
          exact ⟨z, e1, rel e2⟩
    · obtain ⟨fe, outer, f1, f2, f3⟩ := X.env.fr
      refine ⟨fe, outer, f1, f2, fun e he => ?_⟩
      obtain ⟨k, L, o, g1, g2, g3, g4, es, m', g5⟩ := f3 e he
      exact ⟨k, L, o, g1, g2, g3, (hs.2 L (noL L o g4 ⟨es, m', g5⟩)).trans g4, es, m', g5⟩
    · obtain ⟨g1, g2, o, g3, g4⟩ := X.env.own a ha
      by_cases q : a = c
      · obtain ⟨o', e', hd⟩ := hv'
        exact ⟨g1, g2, o', q ▸ e', .inr ⟨_, hd⟩⟩
      · exact ⟨g1, g2, o, (hs.2 a q).trans g3, g4⟩

theorem store_ok {n : Nat} {A : Around} {env : Env} {β : Bk} {ρ : Fr} {μ : Mem} {s : Shared} {i : Nat} {x : Str} {k : NameKind} {v : V} {u : Value} {Q : Unit → Shared → Prop} {E : Value → Shared → Prop}
    (X : At P B n A env β ρ μ s) (ht : B.tab[i]? = some (some (x, k))) (hk : k = .local ∨ k = .cell) (r : Rel P.toPl β s.heap v u)
    (h : ∀ s', PostS P.toPl (own env) β β μ s s' → EnvOk P B A env β (ρ.set i v) s'.heap → Q () s') : wpAny P.M A (storeName env x u) Q E s :=
  store_at X ht hk r fun s' p he => h s' ⟨p.st, p.inv, p.pre, fun a o e n w => p.keep a o e n fun q => w (tgt_sub a q), fun _ q n => absurd q n⟩ he

theorem SimS.nil : SimS P B [] sNil := fun _ _ _ β ρ μ _ X _ => wpAny_execs_nil (.inl ⟨ρ, μ, β, rfl, rfl, (Post.refl X.inv).own X.env.live, X.env⟩)

theorem SimS.cons {st : Stmt} {ss : List Stmt} {d ds : DS} (h : SimX P B st d) (hs : SimS P B ss ds) : SimS P B (st :: ss) (sSeq d ds) := fun n A env β ρ μ s X hb => by
  have hb' : d (P.cx n) ρ μ ≠ .bad := fun q => hb (by simp only [sSeq, q])
  refine wpAny_execs_cons (wpAny_mono (h n A env β ρ μ s X hb') (fun fl s₁ q => ?_) fun x s₁ q => ?_)
  · rcases q with ⟨ρ₁, μ₁, β₁, e, rfl, p, he⟩ | ⟨v, x, μ₁, β₁, e, rfl, p, r, he⟩
    · have e' : sSeq d ds (P.cx n) ρ μ = ds (P.cx n) ρ₁ μ₁ := by simp only [sSeq, e]
      rw [e'] at hb ⊢
      exact wpAny_mono (hs n A env β₁ ρ₁ μ₁ s₁ (X.next p he) hb) (fun _ _ q => q.after p) fun _ _ q => q.after p he.live
    · have e' : sSeq d ds (P.cx n) ρ μ = .ret v μ₁ := by simp only [sSeq, e]
      rw [e']
      exact .inr ⟨v, x, μ₁, β₁, rfl, rfl, p, r, he⟩
  · obtain ⟨c, ρ₁, μ₁, β₁, e, p, f, he⟩ := q
    exact ⟨c, ρ₁, μ₁, β₁, by simp only [sSeq, e], p, f, he⟩

theorem SimX.if {t : Expr} {a b : List Stmt} {dt : DT} {da db : DS} {pos : Pos} (ht : SimT P B t dt) (h1 : SimS P B a da) (h2 : SimS P B b db) : SimX P B (.If t a b pos) (sIf dt da db) := fun n A env β ρ μ s X hb => by
  refine wpAny_If (useTS ht X hb (fun q μ₁ β₁ s₁ e₁ p₁ hb₁ X₁ => ?_) fun u s₁ q => q)
  cases q with
  | true =>
    have e : sIf dt da db (P.cx n) ρ μ = da (P.cx n) ρ μ₁ := by simp only [sIf, e₁]; rfl
    rw [e]
    exact wpAny_mono (h1 n A env β₁ ρ μ₁ s₁ X₁ (by simpa using hb₁)) (fun _ _ q => q.after (p₁.own X.env.live)) fun _ _ q => q.after (p₁.own X.env.live) X₁.env.live
  | false =>
    have e : sIf dt da db (P.cx n) ρ μ = db (P.cx n) ρ μ₁ := by simp only [sIf, e₁]; rfl
    rw [e]
    exact wpAny_mono (h2 n A env β₁ ρ μ₁ s₁ X₁ (by simpa using hb₁)) (fun _ _ q => q.after (p₁.own X.env.live)) fun _ _ q => q.after (p₁.own X.env.live) X₁.env.live

theorem SimX.ret {e : Expr} {d : DE} {pos : Pos} (h : SimE P B e d) : SimX P B (.Return (some e) pos) (sRet d) := fun n A env β ρ μ s X hb => by
  refine wpAny_Return_some (useES h X hb (fun v μ₁ β₁ u s₁ e₁ p₁ r₁ hb₁ X₁ => ?_) fun u s₁ q => q)
  exact .inr ⟨v, u, μ₁, β₁, by simp only [sRet, e₁]; rfl, rfl, p₁.own X.env.live, r₁, X₁.env.forget⟩

theorem SimX.expr {e : Expr} {d : DE} {pos : Pos} (hw : ∀ env, swapsWith e none pos.line env = pure false) (h : SimE P B e d) : SimX P B (.Expr e pos) (sExpr d) := fun n A env β ρ μ s X hb => by
  have hi : interactive env = false := by
    have : env.scope.kind = .function := by
      have := X.env.ok
      simp only [Blk.ok, Bool.and_eq_true, beq_iff_eq] at this
      rw [X.env.sc]; exact this.1.1
    simp [interactive, this]
  rw [exec_Expr env e pos hi (hw env)]
  refine wpAny_bind (wpAny_standAt (wpAny_bind (useES h X hb (fun v μ₁ β₁ u s₁ e₁ p₁ r₁ hb₁ X₁ => ?_) fun u s₁ q => q)))
  have fin : OkS P B A env β s (sExpr d (P.cx n) ρ μ) .next s₁ := .inl ⟨ρ, μ₁, β₁, by simp only [sExpr, e₁]; rfl, rfl, p₁.own X.env.live, X₁.env⟩
  exact wpAny_dropValue fin
end
end
end Mine
end
section
set_option autoImplicit false
namespace Mine
noncomputable section
open PySem PyProof.Rows PySem.SeqAt

theorem bindL_out {kind : Str → Option NameKind} {x : Str} : ∀ (l : List (Str × Value)) (m : Str → Option Value), (∀ p ∈ l, p.1 ≠ x) → bindL kind l m x = m x
  | [], _, _ => rfl
  | (y, v) :: r, m, h => by
    rw [bindL, bindL_out r _ fun p hp => h p (List.mem_cons_of_mem _ hp)]
    have hy : ¬ x = y := fun e => h (y, v) List.mem_cons_self e.symm
    split
    · simp [hy]
    · rfl
theorem bindC_out {kind : Str → Option NameKind} {x : Str} : ∀ (l : List (Str × Value)) (m : Str → Option Value), (∀ p ∈ l, p.1 ≠ x) → bindC kind l m x = m x
  | [], _, _ => rfl
  | (y, v) :: r, m, h => by
    rw [bindC, bindC_out r _ fun p hp => h p (List.mem_cons_of_mem _ hp)]
    have hy : ¬ x = y := fun e => h (y, v) List.mem_cons_self e.symm
    split
    · rfl
    · simp [hy]
theorem zip_fst_ne {x : Str} {ps : List Str} {vs : List Value} (h : x ∉ ps) : ∀ p ∈ ps.zip vs, p.1 ≠ x := fun p hp e => h (e ▸ (List.of_mem_zip (a := p.1) (b := p.2) hp).1)
theorem bindL_at {kind : Str → Option NameKind} : ∀ (ps : List Str) (vs : List Value) (m : Str → Option Value), ps.Nodup → ∀ (i : Nat) (x : Str) (v : Value), ps[i]? = some x → vs[i]? = some v → kind x = some .local → bindL kind (ps.zip vs) m x = some v
  | [], _, _, _, i, x, v, h, _, _ => by simp at h
  | _ :: _, [], _, _, i, x, v, _, h, _ => by simp at h
  | y :: ps, u :: vs, m, hn, 0, x, v, hx, hv, hk => by
    simp at hx hv; subst hx hv
    rw [List.zip_cons_cons, bindL, bindL_out _ _ (zip_fst_ne (List.nodup_cons.mp hn).1), if_pos hk]; simp
  | y :: ps, u :: vs, m, hn, i + 1, x, v, hx, hv, hk => by
    rw [List.zip_cons_cons, bindL]
    exact bindL_at ps vs _ (List.nodup_cons.mp hn).2 i x v (by simpa using hx) (by simpa using hv) hk
theorem bindC_at {kind : Str → Option NameKind} : ∀ (ps : List Str) (vs : List Value) (m : Str → Option Value), ps.Nodup → ∀ (i : Nat) (x : Str) (v : Value), ps[i]? = some x → vs[i]? = some v → kind x ≠ some .local → bindC kind (ps.zip vs) m x = some v
  | [], _, _, _, i, x, v, h, _, _ => by simp at h
  | _ :: _, [], _, _, i, x, v, _, h, _ => by simp at h
  | y :: ps, u :: vs, m, hn, 0, x, v, hx, hv, hk => by
    simp at hx hv; subst hx hv
    rw [List.zip_cons_cons, bindC, bindC_out _ _ (zip_fst_ne (List.nodup_cons.mp hn).1), if_neg hk]; simp
  | y :: ps, u :: vs, m, hn, i + 1, x, v, hx, hv, hk => by
    rw [List.zip_cons_cons, bindC]
    exact bindC_at ps vs _ (List.nodup_cons.mp hn).2 i x v (by simpa using hx) (by simpa using hv) hk

theorem lookup_apart {cs : List (Str × Addr)} (h : cs.Pairwise fun x y => x.2 ≠ y.2) : ∀ {x y : Str} {c : Addr}, cs.lookup x = some c → cs.lookup y = some c → x = y := by
  induction cs with
  | nil => intro x y c hx; cases hx
  | cons p r ih =>
    intro x y c hx hy
    obtain ⟨z, d⟩ := p
    have h1 := (List.pairwise_cons.mp h).1
    rw [List.lookup_cons] at hx hy
    have out : ∀ {w : Str}, r.lookup w = some d → False := fun {w} e => by
      obtain ⟨q, hq, e'⟩ := List.mem_map.mp (lookup_mem_snd e)
      exact h1 q hq e'.symm
    cases hx' : (x == z) with
    | true =>
      simp only [hx'] at hx; cases hx
      cases hy' : (y == z) with
      | true => exact (beq_iff_eq.mp hx').trans (beq_iff_eq.mp hy').symm
      | false => simp only [hy'] at hy; exact (out hy).elim
    | false =>
      simp only [hx'] at hx
      cases hy' : (y == z) with
      | true => simp only [hy'] at hy; cases hy; exact (out hx).elim
      | false => simp only [hy'] at hy; exact ih (List.pairwise_cons.mp h).2 hx hy

structure FnOk (P : Pg) (f : Nat) (F : Fn) (tab : List (Option (Str × NameKind))) (ps : List Str) (bd : List Stmt) : Prop where
  body : (P.fd f).body = .stmts bd
  ok : Blk.ok ⟨(P.fd f).scope, tab⟩ = true
  np : ps.length = F.np
  par : ∀ (i : Nat) (x : Str), ps[i]? = some x → ∃ k : NameKind, tab[i]? = some (some (x, k)) ∧ (k = .local ∨ k = .cell)
  nofree : ∀ (i : Nat) (x : Str), tab[i]? ≠ some (some (x, .free))
  bind : ∀ vals : List Value, vals.length = F.np → bindArgs (P.fd f) ⟨vals, []⟩ = pure (ps.zip vals)
  nd : ((cellsFrom 0 (P.fd f).scope.names []).map (·.1)).Nodup
  co : (P.fd f).scope.isCoroutine = false
  gen : (P.fd f).scope.isGenerator = false
  sim : SimS P ⟨(P.fd f).scope, tab⟩ bd F.body

theorem Room.deeper {A : Around} {n : Nat} (env : Env) (h : Room A (n + 1)) : Room (A.deeper env) n := by
  obtain ⟨h1, h2, h3⟩ := h
  refine ⟨?_, ?_, h3⟩
  · show A.depth + 1 + 2 * n + 10 < recursionLimit; omega
  · show A.units + 3 + 20 * n + 200 < cLine; omega

theorem keeps_post {P : Pl} {β : Bk} {μ : Mem} {s s₁ : Shared} (I : Inv P β μ s.heap) (same : ∃ h tk, s₁ = { s with heap := h, toks := tk }) (hk : ∀ b o, s.heap.get? b = some o → s₁.heap.get? b = some o) : Post P β β μ s s₁ := by
  obtain ⟨h, tk, rfl⟩ := same
  exact Post.other I tk hk

theorem callOk_succ {P : Pg} (G : Good P) (n : Nat) (ih : ∀ k, k ≤ n → CallOk P k) (hF : ∀ f F, P.Φ f = some F → ∃ tab ps body, FnOk P f F tab ps body) : CallOk P (n + 1) := fun f A args vals β μ s room hfr I r hb => by
  cases hf : P.Φ f with
  | none => exact absurd (by simp [Pg.call, callF, hf]) hb
  | some F =>
    obtain ⟨tab, ps, body, K⟩ := hF f F hf
    obtain ⟨o, g1, g2, g3, g4, g5, g6, g7⟩ := G.fn f F hf
    have ecall : P.call (n + 1) f args μ = if args.length = F.np then (match F.body (P.cx n) (fun i => args[i]?) μ with
        | .next _ μ' => .ok .none μ' | .ret v μ' => .ok v μ' | .exc _ _ _ => .bad | .bad => .bad) else .bad := by
      simp only [Pg.call, callF, hf, Pg.cx] <;> rfl
    rw [ecall] at hb ⊢
    by_cases hlen : args.length = F.np
    · rw [if_pos hlen] at hb ⊢
      have hvl : vals.length = F.np := by rw [← r.length]; exact hlen
      have hnd : ps.Nodup := by
        rw [List.nodup_iff_pairwise_ne, List.pairwise_iff_getElem]
        intro i j hi hj hij e
        obtain ⟨k, q, _⟩ := K.par i ps[i] (List.getElem?_eq_getElem hi)
        obtain ⟨k', q', _⟩ := K.par j ps[j] (List.getElem?_eq_getElem hj)
        have := Blk.inj K.ok (B := ⟨(P.fd f).scope, tab⟩) q (e ▸ q')
        omega
      have hkind : (P.fd f).scope.kind = .function := by
        have := K.ok
        simp only [Blk.ok, Bool.and_eq_true, beq_iff_eq] at this
        exact this.1.1
      have look : ∀ i x k, tab[i]? = some (some (x, k)) → (P.fd f).scope.names.lookup x = some k := fun i x k h => (Blk.look (B := ⟨(P.fd f).scope, tab⟩) K.ok h).2.1
      have hh : s.heap.get? (P.fnA f) = some o := I.base _ _ g1
      refine codeAny_call_cells (binds := ps.zip vals) (by have := room.1; omega) hh g2 (G.nolimit.keeps I.base) (g4.keeps I.base) K.body (K.bind vals hvl) g5 (fun x hx => ?_) (fun s₁ x => ?_) K.co K.gen hkind
      · obtain ⟨i, hi, e⟩ := List.getElem_of_mem (List.of_mem_zip (a := x.1) (b := x.2) hx).1
        obtain ⟨k, q, hk⟩ := K.par i x.1 (by rw [List.getElem?_eq_getElem hi, e])
        have := look i x.1 k q
        rcases hk with rfl | rfl
        · exact .inl this
        · exact .inr ⟨this, PySem.W.cellsFrom_some _ _ _ (.inl this)⟩
      · have hL : (callEnvC (P.fd f) s.heap.objs.size (P.fnA f)).locals = s.heap.objs.size := rfl
        have p₁ : Post P.toPl β β μ s s₁ := keeps_post I x.toInCall.same x.toInCall.keep
        have notB : ∀ a : Addr, s.heap.objs.size ≤ a → a ∉ β := fun a ha q => by
          obtain ⟨ob, e, _⟩ := I.there q
          exact absurd (Heap.lt_size e) (Nat.not_lt.mpr ha)
        have not0 : ∀ a : Addr, s.heap.objs.size ≤ a → P.h₀.get? a = none := fun a ha => by
          cases e : P.h₀.get? a with
          | none => rfl
          | some o' => exact absurd (Heap.lt_size (I.base _ _ e)) (Nat.not_lt.mpr ha)
        have r₁ := r.post I p₁
        have E : EnvOk P ⟨(P.fd f).scope, tab⟩ (A.deeper (callEnvC (P.fd f) s.heap.objs.size (P.fnA f))) (callEnvC (P.fd f) s.heap.objs.size (P.fnA f)) β (fun i => args[i]?) s₁.heap := {
          ok := K.ok
          sc := rfl
          glob := g6
          blt := g7
          ns := by
            refine ⟨_, x.toInCall.ns, fun i y v ht hv => ?_⟩
            obtain ⟨u, hu, hr⟩ := r₁.get hv
            have hi : i < ps.length := by rw [K.np, ← hlen]; exact (List.getElem?_eq_some_iff.mp hv).1
            obtain ⟨k, q, _⟩ := K.par i ps[i] (List.getElem?_eq_getElem hi)
            have e : y = ps[i] := by rw [ht] at q; cases q; rfl
            exact ⟨u, bindL_at ps vals _ hnd i y u (by rw [e]; exact List.getElem?_eq_getElem hi) hu (look i y _ ht), hr⟩
          loc := ⟨notB _ (Nat.le_refl _), not0 _ (Nat.le_refl _)⟩
          cell := fun i y k ht hk => by
            have hk' : k = .cell := by
              rcases hk with rfl | rfl
              · rfl
              · exact absurd ht (K.nofree i y)
            subst hk'
            have hl := look i y _ ht
            obtain ⟨c, hc⟩ := Option.isSome_iff_exists.mp (PySem.W.cellsFrom_some (x := y) (P.fd f).scope.names (s.heap.objs.size + 1) [] (.inl hl))
            have ab : s.heap.objs.size < c := by
              obtain ⟨q, hq, e⟩ := List.mem_map.mp (lookup_mem_snd hc)
              have := x.above q.1 q.2 hq
              rw [e] at this; exact this
            refine ⟨c, _, hc, notB c (Nat.le_of_lt ab), not0 c (Nat.le_of_lt ab), x.cell y c hc, fun v hv => ?_⟩
            obtain ⟨u, hu, hr⟩ := r₁.get hv
            have hi : i < ps.length := by rw [K.np, ← hlen]; exact (List.getElem?_eq_some_iff.mp hv).1
            obtain ⟨k, q, _⟩ := K.par i ps[i] (List.getElem?_eq_getElem hi)
            have e : y = ps[i] := by rw [ht] at q; cases q; rfl
            exact ⟨u, bindC_at ps vals _ hnd i y u (by rw [e]; exact List.getElem?_eq_getElem hi) hu (by show (P.fd f).scope.names.lookup y ≠ _; rw [hl]; simp), hr⟩
          apart := fun y z c hy hz => lookup_apart x.apart hy hz
          fr := by
            obtain ⟨l, hl, hF⟩ := hfr
            refine ⟨_, l, Around.frames_deeper hl, rfl, fun e he => ?_⟩
            rcases List.mem_cons.mp he with rfl | he
            · obtain ⟨o', es, ep, e', hd, _⟩ := x.toInCall.ns
              exact ⟨by show (P.fd f).scope.kind ≠ _; rw [hkind]; decide, s.heap.objs.size, o', rfl, notB _ (Nat.le_refl _), not0 _ (Nat.le_refl _), e', es, ep, hd⟩
            · exact hF.post p₁ e he
          own := fun a ha => by
            rcases List.mem_cons.mp ha with rfl | ha
            · obtain ⟨o', es, ep, e', hd, _⟩ := x.toInCall.ns
              exact ⟨notB _ (Nat.le_refl _), not0 _ (Nat.le_refl _), o', e', .inl ⟨es, ep, hd⟩⟩
            · obtain ⟨q, hq, rfl⟩ := List.mem_map.mp ha
              have ab := Nat.le_of_lt (x.above q.1 q.2 hq)
              obtain ⟨o', e', hd⟩ := x.cell q.1 q.2 (lookup_of_mem_nodup (cellsFrom_names (P.fd f).scope.names 0 (s.heap.objs.size + 1) [] [] rfl ▸ K.nd) hq)
              exact ⟨notB _ ab, not0 _ ab, o', e', .inr ⟨_, hd⟩⟩ }
        have X : At P ⟨(P.fd f).scope, tab⟩ n (A.deeper (callEnvC (P.fd f) s.heap.objs.size (P.fnA f))) (callEnvC (P.fd f) s.heap.objs.size (P.fnA f)) β (fun i => args[i]?) μ s₁ := ⟨G, ih, room.deeper _, E, p₁.inv⟩
        have hb' : F.body (P.cx n) (fun i => args[i]?) μ ≠ .bad := fun q => hb (by rw [q])
        -- what is the callee's own is new
        have back : ∀ {β' : Bk} {μ' : Mem} {s' : Shared}, PostS P.toPl (own (callEnvC (P.fd f) s.heap.objs.size (P.fnA f))) β β' μ' s₁ s' → Post P.toPl β β' μ' s s' := fun {β' μ' s'} q => by
          refine ⟨?_, q.inv, q.pre, fun a o' e hn => ?_, fun a ha hn => p₁.back (q.fresh a ha hn).1⟩
          · obtain ⟨h1, t1, e1⟩ := p₁.st
            obtain ⟨h2, t2, e2⟩ := q.st
            exact ⟨h2, t2, by rw [e2, e1]⟩
          · refine q.keep a o' (x.toInCall.keep a o' e) hn fun hw => ?_
            have hlt := Heap.lt_size e
            rcases List.mem_cons.mp hw with rfl | hw
            · exact absurd hlt (Nat.lt_irrefl _)
            · obtain ⟨z, hz, e'⟩ := List.mem_map.mp hw
              have := x.above z.1 z.2 hz
              rw [e'] at this
              exact absurd (Nat.lt_trans hlt this) (Nat.lt_irrefl _)
        refine wpAny_mono (K.sim n _ _ β _ μ s₁ X hb') (fun fl s' q => ?_) fun e s' q => ?_
        · rcases q with ⟨ρ', μ', β', e, rfl, p, _⟩ | ⟨v, u, μ', β', e, rfl, p, rv, _⟩
          · rw [e]; exact ⟨.none, μ', β', rfl, back p, .none⟩
          · rw [e]; exact ⟨v, μ', β', rfl, back p, rv⟩
        · obtain ⟨c, ρ', μ', β', e, p, fl, he⟩ := q
          rw [e] at hb; exact absurd rfl hb
    · rw [if_neg hlen] at hb; exact absurd rfl hb

theorem callOk {P : Pg} (G : Good P) (hF : ∀ f F, P.Φ f = some F → ∃ tab ps body, FnOk P f F tab ps body) : ∀ n, ∀ k, k ≤ n → CallOk P k
  | 0, k, hk => by
    obtain rfl : k = 0 := by omega
    exact fun f A args vals β μ s _ _ _ _ hb => absurd rfl hb
  | n + 1, k, hk => by
    by_cases h : k = n + 1
    · subst h; exact callOk_succ G n (callOk G hF n) hF
    · exact callOk G hF n k (by omega)
end
end Mine
end
section
set_option autoImplicit false
namespace Mine
noncomputable section
open PySem PyProof.Rows PySem.SeqAt

section
variable {P : Pg} {B : Blk}

/-- no starred arguments -/
noncomputable def plainArgs : List Expr → Bool
  | [] => true
  | .Starred _ _ :: _ => false
  | _ :: r => plainArgs r
theorem plain_trees {pos : Pos} {env : Env} : ∀ {es : List Expr}, plainArgs es = true → ∀ p ∈ backTo pos (starEach es env), p.1 = false
  | [], _, p, hp => by cases hp
  | e :: r, h, p, hp => by
    cases e <;> simp only [plainArgs] at h <;> first
      | cases h
      | (simp only [starEach, backTo, List.map_cons, List.mem_cons] at hp
         rcases hp with rfl | hp
         · rfl
         · exact plain_trees h p hp)
theorem evalArgs_of {M : Model} {A : Around} {E : Value → Shared → Prop} {s : Shared} {f : Value} {trees : List (Bool × Sem Value)} {Q : Args → Shared → Prop} (hp : ∀ p ∈ trees, p.1 = false)
    (h : wpAny M A (spliced trees) (fun vs s' => Q ⟨vs, []⟩ s') E s) : wpAny M A (evalArgs f true trees []) Q E s := by
  cases trees with
  | nil =>
    unfold evalArgs
    show wpAny M A (spliced [] >>= _) Q E s
    refine wpAny_bind (wpAny_mono h (fun vs s' h' => ?_) fun _ _ x => x)
    refine wpAny_holding ?_
    exact wpAny_bind (wpAny_pure (wpAny_bind (wpAny_pure (wpAny_pure h'))))
  | cons t r =>
    obtain ⟨b, x⟩ := t
    have : b = false := hp (b, x) List.mem_cons_self
    subst this
    exact Calls.evalArgs_plain h

theorem At.glob {n : Nat} {A : Around} {env : Env} {β : Bk} {ρ : Fr} {μ : Mem} {s : Shared} (X : At P B n A env β ρ μ s) {x : Str} {pos : Pos} {v : Value} {Q : Value → Shared → Prop} {E : Value → Shared → Prop} (hx : B.sc.names.lookup x = some .globalImplicit) (hd : (x == ("__debug__" : Str)) = false)
    (hv : P.mg x = some v) (h : Q v s) : wpAny P.M A (eval (.Name x pos) env) Q E s := by
  have hk : env.scope.kind = .function := by
    have := X.env.ok
    simp only [Blk.ok, Bool.and_eq_true, beq_iff_eq] at this
    rw [X.env.sc]; exact this.1.1
  refine Calls.Name_function_global hk (by show env.scope.names.lookup x = _; rw [X.env.sc]; exact hx) (Calls.loadGlobal_global (mg := P.mg) ?_ hv h) hd
  rw [X.env.glob]; exact X.good.g.keeps X.inv.base
theorem At.blt {n : Nat} {A : Around} {env : Env} {β : Bk} {ρ : Fr} {μ : Mem} {s : Shared} (X : At P B n A env β ρ μ s) {x : Str} {pos : Pos} {v : Value} {Q : Value → Shared → Prop} {E : Value → Shared → Prop} (hx : B.sc.names.lookup x = some .globalImplicit) (hd : (x == ("__debug__" : Str)) = false)
    (hm : x ∈ bnames) (hv : bootBuiltins x = some v) (h : Q v s) : wpAny P.M A (eval (.Name x pos) env) Q E s := by
  have hk : env.scope.kind = .function := by
    have := X.env.ok
    simp only [Blk.ok, Bool.and_eq_true, beq_iff_eq] at this
    rw [X.env.sc]; exact this.1.1
  obtain ⟨g1, g2⟩ := X.good.blt x hm
  refine Calls.Name_function_global hk (by show env.scope.names.lookup x = _; rw [X.env.sc]; exact hx) (Calls.loadGlobal_builtin (mg := P.mg) (mb := P.mb) ?_ g1 ?_ (g2.trans hv) h) hd
  · rw [X.env.glob]; exact X.good.g.keeps X.inv.base
  · rw [X.env.blt]; exact X.good.b.keeps X.inv.base

theorem SimE.call {x : Str} {f : Nat} {F : Fn} {es : List Expr} {ds : DL} {p pos : Pos} (hf : P.Φ f = some F) (hn : (P.fd f).name = x) (hx : B.sc.names.lookup x = some .globalImplicit) (hd : (x == ("__debug__" : Str)) = false) (hp : plainArgs es = true) (h : SimL P B es ds) :
    SimE P B (.Call (.Name x p) es [] pos) (dCall f ds) := fun n A env β ρ μ s X hb => by
  obtain ⟨o, g1, g2, g3, g4⟩ := X.good.fn f F hf
  refine Call_Name rfl (X.glob hx hd (hn ▸ g3) ?_)
  refine Calls.callWith_function (fd := P.fd f) (o := o) (evalArgs_of (plain_trees hp) (useL h X hb (fun vs μ₁ β₁ xs s₁ e₁ p₁ r₁ hb₁ X₁ => ?_) fun u s₁ q => q))
  refine ⟨⟨X₁.inv.base _ _ g1, g2⟩, wpAny_call ?_⟩
  have e : dCall f ds (P.cx n) ρ μ = P.call n f vs μ₁ := by simp only [dCall, e₁]; rfl
  rw [e]
  obtain ⟨fe, outer, f1, f2, f3⟩ := X₁.env.fr
  refine codeAny_mono (X₁.call n (Nat.le_refl n) f A vs xs β₁ μ₁ s₁ X₁.room ⟨_, f1, f3⟩ X₁.inv r₁ hb₁) fun r s' q => ?_
  match r, q with
  | .ok (.ret u), q => exact OkE.after p₁ q
  | .ok .next, q => exact q
  | .ok .brk, q => exact q
  | .ok .cont, q => exact q
  | .error u, q =>
    obtain ⟨c, μ', β', q1, q2, q3⟩ := q
    refine ⟨c, μ', β', q1, p₁.trans q2, ?_⟩
    obtain ⟨a, oe, vs, h1, h1', h2, h3, h4, h5, h6, h7⟩ := q3.lower fun _ => p₁.back
    refine ⟨a, oe, vs, h1, h1', h2, h3, h4, h5, h6, ?_⟩
    rcases h7 with h7 | ⟨T, oT, ts, k1, k1', k2, k3, k4, k5, k6, k7⟩
    · exact .inl h7
    · refine .inr ⟨T, oT, ts, k1, k1', k2, k3, k4, k5, k6, ?_⟩
      rcases k7 with k7 | ⟨l, hl, _⟩
      · exact .inl k7
      · cases hl

/-- a built-in function of one argument -/
noncomputable def B1Ok (P : Pg) (id : Value) (f : Mem → V → R V) : Prop :=
  ∀ A β μ s a x L, A.units + 200 < cLine → A.handled = none → Inv P.toPl β μ s.heap → Rel P.toPl β s.heap a x → f μ a ≠ .bad →
    wpAny P.M A (PySem.call id [x]) (OkE P.toPl β s (f μ a)) (ExE P.toPl L β s (f μ a)) s
theorem callWith_plain {M : Model} {A : Around} {E : Value → Shared → Prop} {s : Shared} {pos : Pos} {f : Value} {first : List Value} {args : List (Bool × Sem Value)} {Q : Value → Shared → Prop} (hf : ∀ a, f ≠ .ref a) (hp : ∀ p ∈ args, p.1 = false)
    (h : wpAny M A (spliced args) (fun vs s₁ => wpAny M A (PySem.call f (first ++ vs) []) Q E s₁) E s) : wpAny M A (callWith pos f first args []) Q E s := by
  have hany : args.any (·.1) = false := by
    rw [List.any_eq_false]; intro p hp'; rw [hp p hp']; decide
  have h' := evalArgs_of (f := f) (Q := fun a s₁ => wpAny M A (PySem.call f (first ++ a.pos) a.kw) Q E s₁) hp h
  have hkp : keeperOf f = pure .machine := by
    cases f <;> first | rfl | exact absurd rfl (hf _)
  unfold callWith
  refine wpAny_bind (wpAny_holding (wpAny_mono h' (fun a s₁ h₁ => wpAny_bind (wpAny_standAt ?_)) fun _ _ x => x))
  simp only [hany, List.any_nil, Bool.or_false, hkp]
  refine wpAny_bind (wpAny_pure ?_)
  exact wpAny_bind (wpAny_mono h₁ (fun r s₂ hr => wpAny_bind (wpAny_holding (wpAny_point (wpAny_pure hr)))) fun _ _ x => x)

theorem SimE.b1 {x : Str} {id : Value} {f : Mem → V → R V} {e : Expr} {d : DE} {p pos : Pos} (o : B1Ok P id f) (hid : ∀ a, id ≠ .ref a) (hx : B.sc.names.lookup x = some .globalImplicit) (hd : (x == ("__debug__" : Str)) = false) (hm : x ∈ bnames) (hv : bootBuiltins x = some id) (hp : plainArgs [e] = true)
    (hn : ∀ env, starEach [e] env = [(false, eval e env)]) (h : SimE P B e d) : SimE P B (.Call (.Name x p) [e] [] pos) (dB1 f d) := fun n A env β ρ μ s X hb => by
  refine Call_Name rfl (X.blt hx hd hm hv ?_)
  refine callWith_plain hid (plain_trees hp) ?_
  refine wpAny_items_cons (useE h X hb (fun a μ₁ β₁ u s₁ e₁ p₁ r₁ hb₁ X₁ => ?_) fun u s₁ q => q) (hn env)
  refine wpAny_items_nil ?_
  have e : dB1 f d (P.cx n) ρ μ = f μ₁ a := by simp only [dB1, e₁]; rfl
  rw [e]
  exact wpAny_mono (o A β₁ μ₁ s₁ a u env.frame X₁.units X₁.room.2.2 X₁.inv r₁ hb₁) (fun _ _ q => q.after p₁) fun _ _ q => q.after p₁
end
end
end Mine
end
section
set_option autoImplicit false
namespace Mine
noncomputable section
open PySem PyProof.Rows PySem.SeqAt

/-- an iterator that yields the items, its value bound to the target -/
structure Turns (P : Pg) (A : Around) (B : Blk) (target : Expr) (bd : Bd) (tw : Env → List Addr) (I : Addr) (items : List V) (chk : Mem → Bool) (vol : List Addr) (St : Nat → Bk → Heap → Prop) : Prop where
  sub : ∀ env, ∀ a ∈ tw env, a ∈ own env
  stay : ∀ i β β' μ μ' s s' W, St i β s.heap → Inv P.toPl β μ s.heap → OwnOk W s.heap → PostS P.toPl W β β' μ' s s' → (∀ a ∈ vol, a ∉ W ∧ a ∉ β) → St i β' s'.heap
  here : ∀ i β h, St i β h → ∀ a ∈ vol, ∃ o, h.get? a = some o ∧ (∃ vs, o.data = .fields vs) ∧ ∃ T, o.cls = .type T
  self : ∀ i β s (Q : Value → Shared → Prop) (E : Value → Shared → Prop), St i β s.heap → Q (.ref I) s → wpAny P.M A (pyIter (.ref I)) Q E s
  item : ∀ i v n env β ρ ρ' μ s (Q : Shared → Prop) (E : Value → Shared → Prop), items[i]? = some v → chk μ = true → At P B n A env β ρ μ s → (∀ a ∈ vol, a ∉ own env ∧ a ∉ β ∧ P.h₀.get? a = none) → St i β s.heap → bd v ρ = some ρ' →
    (∀ s', PostS P.toPl (vol ++ tw env) β β μ s s' → EnvOk P B A env β ρ' s'.heap → St (i + 1) β s'.heap → Q s') →
    wpAny P.M A (pyNext (.ref I)) (fun r s₁ => match r with
      | none => False
      | some u => wpAny P.M A (letOwnedTupleGo target (.ref I) u) (fun _ s₂ => wpAny P.M A (assign target env u) (fun _ s₃ => Q s₃) E s₂) E s₁) E s
  done : ∀ n env β ρ μ s (Q : Shared → Prop) (E : Value → Shared → Prop), chk μ = true → At P B n A env β ρ μ s → (∀ a ∈ vol, a ∉ own env ∧ a ∉ β ∧ P.h₀.get? a = none) → St items.length β s.heap →
    (∀ s', PostS P.toPl (vol ++ tw env) β β μ s s' → EnvOk P B A env β ρ s'.heap → Q s') →
    wpAny P.M A (pyNext (.ref I)) (fun r s₁ => match r with | none => Q s₁ | some _ => False) E s

/-- the source of a loop -/
noncomputable def SimI (P : Pg) (B Bt : Blk) (iter target : Expr) (bd : Bd) (tw : Env → List Addr) (d : DI) : Prop :=
  ∀ n A env β ρ μ s (E : Value → Shared → Prop) (Q : Value → Shared → Prop), At P B n A env β ρ μ s → d (P.cx n) ρ μ ≠ .bad →
    (∀ t μ' β' s' I vol St, d (P.cx n) ρ μ = .ok t μ' → Post P.toPl β β' μ' s s' → Turns P A Bt target bd tw I t.items t.chk vol St → St 0 β' s'.heap →
      (∀ a ∈ vol, s.heap.get? a = none ∧ a ∉ β') → Q (.ref I) s') →
    (∀ x s', ExE P.toPl env.frame β s (d (P.cx n) ρ μ) x s' → E x s') →
    wpAny P.M A (eval iter env) (fun x s₁ => wpAny P.M A (pyIter x) Q E s₁) E s

section
variable {P : Pg} {B : Blk}

theorem PostS.weaken {P : Pl} {W W' : List Addr} {β β' : Bk} {μ' : Mem} {s s' : Shared} (p : PostS P W β β' μ' s s') (h : ∀ a ∈ W, a ∈ W') (hW : ∀ a ∈ β', a ∉ β → a ∉ W') : PostS P W' β β' μ' s s' :=
  ⟨p.st, p.inv, p.pre, fun a o e n w => p.keep a o e n fun q => w (h a q), fun a ha hn => ⟨(p.fresh a ha hn).1, hW a ha hn⟩⟩
/-- what was made meanwhile may be forgotten -/
theorem PostS.drop {P : Pl} {W V : List Addr} {β β₁ β₂ : Bk} {μ₁ μ₂ : Mem} {s s₁ s₂ : Shared} (p : Post P β β₁ μ₁ s s₁) (hv : ∀ a ∈ V, s.heap.get? a = none) (hW : ∀ a ∈ W, s.heap.get? a ≠ none) (q : PostS P (V ++ W) β₁ β₂ μ₂ s₁ s₂) : PostS P W β β₂ μ₂ s s₂ := by
  refine ⟨?_, q.inv, p.pre.trans q.pre, fun a o e n w => ?_, fun a ha hn => ?_⟩
  · obtain ⟨h1, t1, e1⟩ := p.st
    obtain ⟨h2, t2, e2⟩ := q.st
    exact ⟨h2, t2, by rw [e2, e1]⟩
  · obtain ⟨o₁, e₁, s₁⟩ := p.keep a o e n
    obtain ⟨o₂, e₂, s₂⟩ := q.keep a o₁ e₁ (p.notIn n e) fun h => by
      rcases List.mem_append.mp h with h | h
      · rw [hv a h] at e; cases e
      · exact w h
    exact ⟨o₂, e₂, s₁.trans s₂⟩
  · by_cases h₁ : a ∈ β₁
    · exact ⟨p.fresh a h₁ hn, fun w => hW a w (p.fresh a h₁ hn)⟩
    · obtain ⟨f1, f2⟩ := q.fresh a ha h₁
      exact ⟨p.back f1, fun w => f2 (List.mem_append_right _ w)⟩

theorem keepV {P : Pl} {W : List Addr} {β β' : Bk} {μ' : Mem} {s s' : Shared} (p : PostS P W β β' μ' s s') {a : Addr} {o : Obj} {vs : Array Value} (e : s.heap.get? a = some o) (hd : o.data = .fields vs) (hw : a ∉ W) (hb : a ∉ β) : s'.heap.get? a = some o := by
  obtain ⟨o₂, e₂, hs⟩ := p.keep a o e hb hw
  rw [hs.eq (by rw [hd]; simp)] at e₂; exact e₂
theorem Turns.keepSt {A : Around} {target : Expr} {bd : Bd} {tw : Env → List Addr} {I : Addr} {items : List V} {chk : Mem → Bool} {vol : List Addr} {St : Nat → Bk → Heap → Prop} (T : Turns P A B target bd tw I items chk vol St) {W : List Addr} {i : Nat} {β β' : Bk} {μ μ' : Mem} {s s' : Shared}
    (st : St i β s.heap) (I : Inv P.toPl β μ s.heap) (hW : OwnOk W s.heap) (p : PostS P.toPl W β β' μ' s s') (hv : ∀ a ∈ vol, a ∉ W ∧ a ∉ β) : St i β' s'.heap ∧ ∀ a ∈ vol, a ∉ β' := by
  refine ⟨T.stay i β β' μ μ' s s' W st I hW p hv, fun a ha => ?_⟩
  obtain ⟨o', e', _⟩ := T.here i β _ st a ha
  exact p.notIn (hv a ha).2 e'

theorem twsub {A : Around} {target : Expr} {bd : Bd} {tw : Env → List Addr} {I : Addr} {items : List V} {chk : Mem → Bool} {vol : List Addr} {St : Nat → Bk → Heap → Prop} {env : Env} (T : Turns P A B target bd tw I items chk vol St) : ∀ a ∈ vol ++ tw env, a ∈ vol ++ own env := fun a ha => by
  rcases List.mem_append.mp ha with h | h
  · exact List.mem_append_left _ h
  · exact List.mem_append_right _ (T.sub env a h)
/-- the turns of a for loop, from a place on -/
theorem forTurns {A : Around} {target : Expr} {bd : Bd} {tw : Env → List Addr} {I : Addr} {items : List V} {chk : Mem → Bool} {vol : List Addr} {St : Nat → Bk → Heap → Prop} {body : List Stmt} {db : DS} {env : Env} {n : Nat}
    (T : Turns P A B target bd tw I items chk vol St) (hbody : SimS P B body db) :
    ∀ (rest : List V) (i : Nat) (β : Bk) (ρ : Fr) (μ : Mem) (s : Shared) (R : Result → Shared → Prop), i ≤ items.length → items.drop i = rest → At P B n A env β ρ μ s → (∀ a ∈ vol, a ∉ own env ∧ a ∉ β ∧ P.h₀.get? a = none) → St i β s.heap → forS chk bd db (P.cx n) rest ρ μ ≠ .bad →
      (∀ fl s', (∃ ρ' μ' β', forS chk bd db (P.cx n) rest ρ μ = .next ρ' μ' ∧ fl = .next ∧ PostS P.toPl (vol ++ own env) β β' μ' s s' ∧ EnvOk P B A env β' ρ' s'.heap) ∨
        (∃ v x μ' β', forS chk bd db (P.cx n) rest ρ μ = .ret v μ' ∧ fl = .ret x ∧ PostS P.toPl (vol ++ own env) β β' μ' s s' ∧ Rel P.toPl β' s'.heap v x ∧ EnvOk P B A env β' (fun _ => none) s'.heap) → R (.ok fl) s') →
      (∀ x s', (∃ c ρ' μ' β', forS chk bd db (P.cx n) rest ρ μ = .exc c ρ' μ' ∧ PostS P.toPl (vol ++ own env) β β' μ' s s' ∧ Fly P.toPl β' env.frame s.heap s'.heap x c ∧ EnvOk P B A env β' ρ' s'.heap) → notedBy P.M A env (fun e s'' => R (.error e) s'') x s') →
      codeAny P.M A (.forLoop target (.ref I) body [] env) R s := by
  intro rest
  induction rest with
  | nil =>
    intro i β ρ μ s R hle hd X hv st hb hok hex
    have hchk : chk μ = true := by
      by_cases q : chk μ = true
      · exact q
      · simp only [forS, q] at hb; exact absurd rfl hb
    have hi : items.length ≤ i := List.drop_eq_nil_iff.mp hd
    have hi' : i ≤ items.length := hle
    obtain rfl : i = items.length := Nat.le_antisymm hi' hi
    refine codeAny_of_tree ?_
    show wpAny P.M A ((forTurn target (.ref I) body [] env).onRaise (fun x => do noteFrame x env; theTreesLotGoes x)) _ _ s
    refine wpAny_noted ?_
    simp only [forTurn]
    refine wpAny_bind (wpAny_standAt (wpAny_bind (wpAny_onRaise (wpAny_mono (T.done n env β ρ μ s (fun s' => R (.ok .next) s') (notedBy P.M A env fun e s' => R (.error e) s') hchk X hv st fun s' p' he => ?_) (fun r s₁ h₁ => ?_) fun _ _ h' => wpAny_standAt h'))))
    · exact hok .next s' (.inl ⟨ρ, μ, β, by simp only [forS, hchk, if_true], rfl, p'.weaken (twsub T) fun a ha hn => absurd ha hn, he⟩)
    · cases r with
      | none => exact wpAny_pure ⟨rfl, codeAny_block (wpAny_execs_nil h₁)⟩
      | some u => exact h₁.elim
  | cons v rest ih =>
    intro i β ρ μ s R hle hd X hv st hb hok hex
    have hchk : chk μ = true := by
      by_cases q : chk μ = true
      · exact q
      · simp only [forS, q] at hb; exact absurd rfl hb
    have hiv : items[i]? = some v := by
      have := congrArg List.head? hd
      rw [List.head?_drop] at this; simpa using this
    have hi : i < items.length := (List.getElem?_eq_some_iff.mp hiv).1
    have hd' : items.drop (i + 1) = rest := by
      have := congrArg List.tail hd
      rw [List.tail_drop] at this; simpa using this
    cases hρ : bd v ρ with
    | none => simp only [forS, hchk, if_true, hρ] at hb; exact absurd rfl hb
    | some ρ' =>
      have e1 : forS chk bd db (P.cx n) (v :: rest) ρ μ = (match db (P.cx n) ρ' μ with
        | .next ρ'' μ' => forS chk bd db (P.cx n) rest ρ'' μ'
        | .ret v μ' => .ret v μ'
        | .exc _ _ _ => .bad
        | .bad => .bad) := by rw [forS, if_pos hchk, hρ] <;> rfl
      rw [e1] at hb hok hex
      refine codeAny_of_tree ?_
      show wpAny P.M A ((forTurn target (.ref I) body [] env).onRaise (fun x => do noteFrame x env; theTreesLotGoes x)) _ _ s
      refine wpAny_noted ?_
      simp only [forTurn]
      refine wpAny_bind (wpAny_standAt (wpAny_bind (wpAny_onRaise (wpAny_mono (T.item i v n env β ρ ρ' μ s (fun s₃ => wpAny P.M A (execs body env) (fun f s₄ => match f with
          | .next | .cont => codeAny P.M A (.forLoop target (.ref I) body [] env) R s₄
          | .brk => R (.ok .next) s₄
          | .ret v => R (.ok (.ret v)) s₄) (notedBy P.M A env fun e s' => R (.error e) s') s₃) (notedBy P.M A env fun e s' => R (.error e) s') hiv hchk X hv st hρ fun s₃ p₃' he₃ st₃ => ?_) (fun r s₁ h₁ => ?_) fun _ _ h' => wpAny_standAt h'))))
      · have p₃ : PostS P.toPl (vol ++ own env) β β μ s s₃ := p₃'.weaken (twsub T) fun a ha hn => absurd ha hn
        have X₃ : At P B n A env β ρ' μ s₃ := ⟨X.good, X.call, X.room, he₃, p₃.inv⟩
        have lv₃ : ∀ a ∈ vol ++ own env, s₃.heap.get? a ≠ none := fun a ha q => by
          rcases List.mem_append.mp ha with h | h
          · obtain ⟨o, e, _⟩ := T.here _ _ _ st₃ a h
            rw [q] at e; cases e
          · exact he₃.live a h q
        have wk : ∀ {β₄ : Bk} {μ₄ : Mem} {s₄ : Shared}, PostS P.toPl (own env) β β₄ μ₄ s₃ s₄ → ∀ a ∈ β₄, a ∉ β → a ∉ vol ++ own env := fun q a ha hn hw => lv₃ a hw (q.fresh a ha hn).1
        refine wpAny_mono (hbody n A env β ρ' μ s₃ X₃ (fun q => hb (by rw [q]))) (fun f s₄ q => ?_) fun x s₄ q => ?_
        · rcases q with ⟨ρ₄, μ₄, β₄, e4, rfl, p₄, he₄⟩ | ⟨u, x, μ₄, β₄, e4, rfl, p₄, r₄, he₄⟩
          · rw [e4] at hb hok hex
            have p₄' : PostS P.toPl (vol ++ own env) β β₄ μ₄ s₃ s₄ := p₄.weaken (fun a h => List.mem_append_right _ h) (wk p₄)
            obtain ⟨st₄, nb⟩ := T.keepSt st₃ X₃.inv he₃.ownOk p₄ fun a ha => ⟨(hv a ha).1, (hv a ha).2.1⟩
            have lv₄ : ∀ a ∈ vol ++ own env, s₄.heap.get? a ≠ none := fun a ha q => by
              rcases List.mem_append.mp ha with h | h
              · obtain ⟨o, e, _⟩ := T.here _ _ _ st₄ a h
                rw [q] at e; cases e
              · exact he₄.live a h q
            refine ih (i + 1) β₄ ρ₄ μ₄ s₄ R hi hd' ⟨X.good, X.call, X.room, he₄, p₄.inv⟩ (fun a ha => ⟨(hv a ha).1, nb a ha, (hv a ha).2.2⟩) st₄ hb (fun fl s' q => hok fl s' ?_) fun x s' q => hex x s' ?_
            · rcases q with ⟨a1, a2, a3, a4, a5, a6, a7⟩ | ⟨a1, a2, a3, a4, a5, a6, a7, a8⟩
              · exact .inl ⟨a1, a2, a3, a4, a5, (p₃.trans p₄').trans a6, a7⟩
              · exact .inr ⟨a1, a2, a3, a4, a5, a6, (p₃.trans p₄').trans a7, a8⟩
            · obtain ⟨a1, a2, a3, a4, a5, a6, a7, a8⟩ := q
              exact ⟨a1, a2, a3, a4, a5, (p₃.trans p₄').trans a6, a7.lower fun _ => (p₃.trans p₄').back lv₄, a8⟩
          · rw [e4] at hok
            exact hok (.ret x) s₄ (.inr ⟨u, x, μ₄, β₄, rfl, rfl, p₃.trans (p₄.weaken (fun a h => List.mem_append_right _ h) (wk p₄)), r₄, he₄⟩)
        · obtain ⟨c, ρ₄, μ₄, β₄, e4, p₄, f₄, he₄⟩ := q
          rw [e4] at hb; exact absurd rfl hb
      · cases r with
        | none => exact h₁.elim
        | some u =>
          refine wpAny_bind (wpAny_mono h₁ (fun _ s₂ h₂ => wpAny_bind (wpAny_mono h₂ (fun _ s₃ h₃ => wpAny_bind (wpAny_mono h₃ (fun f s₄ h₄ => ?_) fun _ _ h' => h')) fun _ _ h' => h')) fun _ _ h' => h')
          cases f with
          | next => exact wpAny_pure ⟨rfl, h₄⟩
          | cont => exact wpAny_pure ⟨rfl, h₄⟩
          | brk => exact wpAny_pure h₄
          | ret v => exact wpAny_pure h₄

/-- things of the machine's own (iterators) changed: the names stand -/
theorem EnvOk.postV {A : Around} {env : Env} {β β' : Bk} {ρ : Fr} {μ μ' : Mem} {s s' : Shared} {V : List Addr} (x : EnvOk P B A env β ρ s.heap) (I : Inv P.toPl β μ s.heap) (hV : ∀ a ∈ V, ∀ o, s.heap.get? a = some o → (∃ vs, o.data = .fields vs) ∧ ∃ T, o.cls = .type T) (p : PostS P.toPl V β β' μ' s s') : EnvOk P B A env β' ρ s'.heap := by
  have hO : OwnOk V s.heap := fun a ha o e => .inr (.inr (.inl (hV a ha o e)))
  have nd : ∀ a o, s.heap.get? a = some o → ((∃ es n, o.data = .dict es n) ∨ ∃ v, o.data = .cell v) → a ∉ V := fun a o e hd q => by
    obtain ⟨⟨vs, h⟩, _⟩ := hV a q o e
    rcases hd with ⟨_, _, h'⟩ | ⟨_, h'⟩ <;> rw [h] at h' <;> cases h'
  exact { x with
    ns := by
      obtain ⟨m, ⟨o, es, n, e, d, r⟩, hm⟩ := x.ns
      obtain ⟨o', e', hs⟩ := p.keep _ o e x.loc.1 (nd _ o e (.inl ⟨es, n, d⟩))
      refine ⟨m, ⟨o', es, n, e', hs.data.trans d, r⟩, fun i y v ht hv => ?_⟩
      obtain ⟨u, h1, h2⟩ := hm i y v ht hv
      exact ⟨u, h1, h2.monoS I hO p⟩
    loc := by
      obtain ⟨m, ⟨o, es, n, e, d, r⟩, hm⟩ := x.ns
      exact ⟨p.notIn x.loc.1 e, x.loc.2⟩
    cell := fun i y k ht hk => by
      obtain ⟨c, u, h1, h2, h3, ⟨o, e, d⟩, h5⟩ := x.cell i y k ht hk
      obtain ⟨o', e', hs⟩ := p.keep c o e h2 (nd _ o e (.inr ⟨_, d⟩))
      refine ⟨c, u, h1, p.notIn h2 e, h3, ⟨o', e', hs.data.trans d⟩, fun v hv => ?_⟩
      obtain ⟨z, e1, e2⟩ := h5 v hv
      exact ⟨z, e1, e2.monoS I hO p⟩
    fr := by
      obtain ⟨fe, outer, h1, h2, h3⟩ := x.fr
      refine ⟨fe, outer, h1, h2, fun e he => ?_⟩
      obtain ⟨k, L, o, g1, g2, g3, g4, es, n, g5⟩ := h3 e he
      obtain ⟨o', e', hs⟩ := p.keep L o g4 g2 (nd _ o g4 (.inl ⟨es, n, g5⟩))
      exact ⟨k, L, o', g1, p.notIn g2 g4, g3, e', es, n, hs.data.trans g5⟩
    own := fun a ha => by
      obtain ⟨h1, h2, o, h3, h4⟩ := x.own a ha
      obtain ⟨o', e', hs⟩ := p.keep a o h3 h1 (nd _ o h3 h4)
      exact ⟨p.notIn h1 h3, h2, o', e', by rw [hs.data]; exact h4⟩ }

/-- iterators changed -/
theorem postV {P : Pl} {β : Bk} {μ : Mem} {s : Shared} {h' : Heap} {V : List Addr} (tk : Nat) (I : Inv P β μ s.heap) (hVb : ∀ a ∈ V, a ∉ β ∧ P.h₀.get? a = none) (hV : ∀ a ∈ V, ∀ o, s.heap.get? a = some o → (∃ vs, o.data = .fields vs) ∧ ∃ T, o.cls = .type T)
    (hk : ∀ a o, s.heap.get? a = some o → a ∉ V → h'.get? a = some o) : PostS P V β β μ s { s with heap := h', toks := tk } := by
  have key : ∀ a o, s.heap.get? a = some o → (∀ vs, o.data ≠ .fields vs) → h'.get? a = some o := fun a o e n => hk a o e fun q => by
    obtain ⟨⟨vs, h⟩, _⟩ := hV a q o e
    exact n vs h
  have rel : ∀ {v : Mine.V} {x : Value}, Rel P β s.heap v x → Rel P β h' v x := fun r => r.keepBut fun a o e n => hk a o e fun q => by
    obtain ⟨⟨vs, h⟩, T, h'⟩ := hV a q o e
    rcases n with n | ⟨C, n⟩
    · exact n vs h
    · rw [n] at h'; cases h'
  have rels : ∀ {v : List Mine.V} {x : List Value}, RelL P β s.heap v x → RelL P β h' v x := fun r => r.keepBut fun a o e n => hk a o e fun q => by
    obtain ⟨⟨vs, h⟩, T, h'⟩ := hV a q o e
    rcases n with n | ⟨C, n⟩
    · exact n vs h
    · rw [n] at h'; cases h'
  refine ⟨⟨h', tk, rfl⟩, ⟨I.len, I.nd, fun i o a e1 e2 => ?_, fun a o e => ?_, I.new⟩, List.prefix_refl _, fun a o e _ w => ⟨o, hk a o e w, .refl _⟩, fun _ q n => absurd q n⟩
  · have hb : a ∉ V := fun q => (hVb a q).1 (List.mem_of_getElem? e2)
    have r := I.obj i o a e1 e2
    cases r with
    | list e r l => exact .list (hk _ _ e hb) (rels r) l
    | dict e r l => exact .dict (hk _ _ e hb) (r.keepBut fun a o e n => hk a o e fun q => by
        obtain ⟨⟨vs, h⟩, T, h'⟩ := hV a q o e
        rcases n with n | ⟨C, n⟩
        · exact n vs h
        · rw [n] at h'; cases h') l
    | inst e d => exact .inst (hk _ _ e hb) d
  · exact hk a o (I.base a o e) fun q => by rw [(hVb a q).2] at e; cases e

theorem forS_quiet {chk : Mem → Bool} {bd : Bd} {db : DS} {cx : Cx} {c : Nat} {ρ' : Fr} {μ' : Mem} : ∀ (rest : List V) (ρ : Fr) (μ : Mem), forS chk bd db cx rest ρ μ ≠ .exc c ρ' μ'
  | [], ρ, μ => by
    rw [forS]
    split <;> exact fun q => by cases q
  | v :: r, ρ, μ => by
    rw [forS]
    split
    · split
      · exact fun q => by cases q
      · split
        · exact forS_quiet r _ _
        · exact fun q => by cases q
        · exact fun q => by cases q
        · exact fun q => by cases q
    · exact fun q => by cases q

theorem SimX.for {iter target : Expr} {bd : Bd} {tw : Env → List Addr} {d : DI} {body : List Stmt} {db : DS} {pos : Pos} (hs : ∀ env x, foldedSetIterable iter env x = pure x) (hi : SimI P B B iter target bd tw d) (hb : SimS P B body db) : SimX P B (.For target iter body [] pos) (sFor d bd db) := fun n A env β ρ μ s X hbad => by
  have hnb : d (P.cx n) ρ μ ≠ .bad := fun q => hbad (by simp only [sFor, q]; rfl)
  refine wpAny_For (hi n A env β ρ μ s _ _ X hnb (fun t μ₁ β₁ s₁ I vol St e₁ p₁ T st hv => ?_) fun x s' q => ?_) (hs env)
  · have e : sFor d bd db (P.cx n) ρ μ = forS t.chk bd db (P.cx n) t.items ρ μ₁ := by simp only [sFor, e₁]; rfl
    rw [e] at hbad ⊢
    have X₁ := X.post p₁
    have hvv : ∀ a ∈ vol, a ∉ own env ∧ a ∉ β₁ ∧ P.h₀.get? a = none := fun a ha => by
      obtain ⟨h1, h2⟩ := hv a ha
      refine ⟨fun q => ?_, h2, ?_⟩
      · exact X.env.live a q h1
      · cases e : P.h₀.get? a with
        | none => rfl
        | some o => rw [X.inv.base _ _ e] at h1; cases h1
    refine forTurns T hb t.items 0 β₁ ρ μ₁ s₁ _ (Nat.zero_le _) rfl X₁ hvv st hbad (fun fl s' q => ?_) fun x s' q => ?_
    · rcases q with ⟨ρ', μ', β', q1, q2, q3, q4⟩ | ⟨v, x, μ', β', q1, q2, q3, q4, q5⟩
      · exact .inl ⟨ρ', μ', β', q1, q2, PostS.drop p₁ (fun a ha => (hv a ha).1) X.env.live q3, q4⟩
      · exact .inr ⟨v, x, μ', β', q1, q2, PostS.drop p₁ (fun a ha => (hv a ha).1) X.env.live q3, q4, q5⟩
    · obtain ⟨c, ρ', μ', β', q1, q2, q3, q4⟩ := q
      exact absurd q1 (forS_quiet _ _ _)
  · obtain ⟨c, μ', β', e1, p, f⟩ := q
    exact ⟨c, ρ, μ', β', by simp only [sFor, e1]; rfl, p.own X.env.live, f, X.env.post X.inv p⟩
end
end
end Mine
end
section
set_option autoImplicit false
namespace Mine
noncomputable section
open PySem PyProof.Rows PySem.SeqAt

/-- an iterator, its values not bound yet -/
structure Raw (P : Pg) (A : Around) (I : Addr) (items : List V) (chk : Mem → Bool) (vol : List Addr) (St : Nat → Bk → Heap → Prop) : Prop where
  stay : ∀ i β β' μ μ' s s' W, St i β s.heap → Inv P.toPl β μ s.heap → OwnOk W s.heap → PostS P.toPl W β β' μ' s s' → (∀ a ∈ vol, a ∉ W ∧ a ∉ β) → St i β' s'.heap
  here : ∀ i β h, St i β h → ∀ a ∈ vol, ∃ o, h.get? a = some o ∧ (∃ vs, o.data = .fields vs) ∧ ∃ T, o.cls = .type T
  self : ∀ i β s (Q : Value → Shared → Prop) (E : Value → Shared → Prop), St i β s.heap → Q (.ref I) s → wpAny P.M A (pyIter (.ref I)) Q E s
  item : ∀ i v β μ s (Q : Option Value → Shared → Prop) (E : Value → Shared → Prop), items[i]? = some v → chk μ = true → Inv P.toPl β μ s.heap → (∀ a ∈ vol, a ∉ β) → St i β s.heap →
    (∀ u h' tk, Rel P.toPl β h' v u → St (i + 1) β h' → (∀ a o, s.heap.get? a = some o → a ∉ vol → h'.get? a = some o) → Q (some u) { s with heap := h', toks := tk }) → wpAny P.M A (pyNext (.ref I)) Q E s
  done : ∀ β μ s (Q : Option Value → Shared → Prop) (E : Value → Shared → Prop), chk μ = true → Inv P.toPl β μ s.heap → (∀ a ∈ vol, a ∉ β) → St items.length β s.heap →
    (∀ h' tk, (∀ a o, s.heap.get? a = some o → a ∉ vol → h'.get? a = some o) → Q none { s with heap := h', toks := tk }) → wpAny P.M A (pyNext (.ref I)) Q E s

section
variable {P : Pg} {B : Blk} {A : Around}

theorem own_app {W V : List Addr} {P : Pl} {β β' : Bk} {μ' : Mem} {s s' : Shared} (p : PostS P V β β' μ' s s') (hW : ∀ a ∈ W, s.heap.get? a ≠ none) : PostS P (V ++ W) β β' μ' s s' :=
  p.weaken (fun _ h => List.mem_append_left _ h) fun a ha hn hw => by
    rcases List.mem_append.mp hw with h | h
    · exact (p.fresh a ha hn).2 h
    · exact hW a h (p.fresh a ha hn).1

/-- to one name -/
theorem Raw.one {I : Addr} {items : List V} {chk : Mem → Bool} {vol : List Addr} {St : Nat → Bk → Heap → Prop} (T : Raw P A I items chk vol St) {i : Nat} {x : Str} {k : NameKind} {p : Pos} {bd : Bd} (hbd : ∀ v ρ ρ', bd v ρ = some ρ' → ρ' = ρ.set i v) (ht : B.tab[i]? = some (some (x, k))) (hk : k = .local ∨ k = .cell) :
    Turns P A B (.Name x p) bd (tgt k x) I items chk vol St where
  sub := fun _ => tgt_sub
  stay := T.stay
  here := T.here
  self := T.self
  item := fun j v n env β ρ ρ' μ s Q E hj hc X hv st hρ h => by
    obtain rfl := hbd v ρ ρ' hρ
    have hV : ∀ a ∈ vol, ∀ o, s.heap.get? a = some o → (∃ vs, o.data = .fields vs) ∧ ∃ T, o.cls = .type T := fun a ha o e => by
      obtain ⟨o', e', r⟩ := T.here j β _ st a ha
      rw [e] at e'; cases e'; exact r
    refine T.item j v β μ s _ _ hj hc X.inv (fun a ha => (hv a ha).2.1) st fun u h' tk r st' hkp => ?_
    have pV := postV tk X.inv (fun a ha => (hv a ha).2) hV hkp
    have E₁ := X.env.postV X.inv hV pV
    have X₁ : At P B n A env β ρ μ { s with heap := h', toks := tk } := ⟨X.good, X.call, X.room, E₁, pV.inv⟩
    show wpAny P.M A (pure ()) _ _ _
    refine wpAny_pure (wpAny_assign_Name (store_at X₁ ht hk r fun s' p' he => ?_))
    have lv : ∀ a ∈ tgt k x env, s.heap.get? a ≠ none := fun a ha => X.env.live a (tgt_sub a ha)
    have p1 : PostS P.toPl (vol ++ tgt k x env) β β μ s { s with heap := h', toks := tk } := own_app pV lv
    have p2 : PostS P.toPl (vol ++ tgt k x env) β β μ { s with heap := h', toks := tk } s' := p'.weaken (fun a ha => List.mem_append_right _ ha) fun a ha hn => absurd ha hn
    exact h s' (p1.trans p2) he (T.stay _ β β μ μ _ s' (tgt k x env) st' pV.inv (fun a ha => E₁.ownOk a (tgt_sub a ha)) p' fun a ha => ⟨fun q => (hv a ha).1 (tgt_sub a q), (hv a ha).2.1⟩)
  done := fun n env β ρ μ s Q E hc X hv st h => by
    have hV : ∀ a ∈ vol, ∀ o, s.heap.get? a = some o → (∃ vs, o.data = .fields vs) ∧ ∃ T, o.cls = .type T := fun a ha o e => by
      obtain ⟨o', e', r⟩ := T.here _ β _ st a ha
      rw [e] at e'; cases e'; exact r
    refine T.done β μ s _ _ hc X.inv (fun a ha => (hv a ha).2.1) st fun h' tk hkp => ?_
    have pV := postV tk X.inv (fun a ha => (hv a ha).2) hV hkp
    exact h _ (own_app pV fun a ha => X.env.live a (tgt_sub a ha)) (X.env.postV X.inv hV pV)

/-- a list -/
theorem Raw.list (hh : A.handled = none) {I l : Addr} {a : Nat} {xs : List V} (hIl : I ≠ l) : Raw P A I xs (fun μ => decide (μ[a]? = some (.list xs))) [I] (fun i β h => h.IsListIter I l i ∧ β[a]? = some l) where
  stay := fun i β β' μ μ' s s' W st _ _ p hv => by
    obtain ⟨⟨o, e, r1, r2⟩, hb⟩ := st
    exact ⟨⟨o, keepV p e r2 (hv I (by simp)).1 (hv I (by simp)).2, r1, r2⟩, prefix_get p.pre hb⟩
  here := fun i β h st b hb => by
    obtain ⟨⟨o, e, h1, h2⟩, _⟩ := st
    obtain rfl : b = I := by simpa using hb
    exact ⟨o, e, ⟨_, h2⟩, ⟨_, h1⟩⟩
  self := fun i β s Q E st h => wpAny_pyIter_listiter st.1 h
  item := fun i v β μ s Q E hv hc Iv hn st h => by
    have hc' := of_decide_eq_true hc
    have ro := Iv.obj a _ l hc' st.2
    cases ro with
    | @list _ vs n _ a1 a2 a3 =>
      obtain ⟨u, hu, r⟩ := a2.get hv
      refine wpAny_pyNext_list_item st.1 ⟨_, a1, rfl, n, rfl⟩ (by simpa using hu) fun h' hit hs => ?_
      refine h u h' s.toks ?_ ⟨hit, st.2⟩ fun b o e hb => (hs.2 b (by simpa using hb)).trans e
      refine r.keepBut fun b o e hd => (hs.2 b fun q => ?_).trans e
      obtain ⟨⟨oI, eI, c1, c2⟩, _⟩ := st
      rw [q, eI] at e; cases e
      rcases hd with hd | ⟨C, hd⟩
      · exact hd _ c2
      · rw [c1] at hd; cases hd
  done := fun β μ s Q E hc Iv hn st h => by
    have hc' := of_decide_eq_true hc
    have ro := Iv.obj a _ l hc' st.2
    cases ro with
    | @list _ vs n _ a1 a2 a3 =>
      have hlen := a2.length
      refine wpAny_pyNext_list_end hh st.1 ⟨_, a1, rfl, n, rfl⟩ (by simp at hlen; simp [hlen]) fun h' hs => ?_
      exact h h' s.toks fun b o e hb => hs b o (by simpa using hb) e

/-- a tuple -/
theorem Raw.tuple (hh : A.handled = none) {I l : Addr} {xs : List V} : Raw P A I xs (fun _ => true) [I]
    (fun i β h => h.IsTupleIter I l i ∧ ∃ vs n, h.get? l = some ⟨.type "tuple", none, .seq vs n, #[]⟩ ∧ RelL P.toPl β h xs vs.toList) where
  stay := fun i β β' μ μ' s s' W st Iv hW p hv => by
    obtain ⟨⟨o, e, r1, r2⟩, vs, n, g1, g2⟩ := st
    refine ⟨⟨o, keepV p e r2 (hv I (by simp)).1 (hv I (by simp)).2, r1, r2⟩, vs, n, ?_, g2.monoS Iv hW p⟩
    obtain ⟨o₂, e₂, hs⟩ := p.keep l _ g1 (fun q => by
      obtain ⟨ob, e', n⟩ := Iv.there q
      rw [g1] at e'; cases e'; exact n rfl) fun q => by
      rcases hW l q _ g1 with ⟨_, _, h⟩ | ⟨_, h⟩ | ⟨⟨_, h⟩, _⟩ | ⟨h, _⟩ <;> simp at h
    rw [hs.eq (by simp)] at e₂; exact e₂
  here := fun i β h st b hb => by
    obtain ⟨⟨o, e, h1, h2⟩, _⟩ := st
    obtain rfl : b = I := by simpa using hb
    exact ⟨o, e, ⟨_, h2⟩, ⟨_, h1⟩⟩
  self := fun i β s Q E st h => wpAny_pyIter_tupleiter st.1 h
  item := fun i v β μ s Q E hv hc Iv hn st h => by
    obtain ⟨hit, vs, n, g1, g2⟩ := st
    obtain ⟨u, hu, r⟩ := g2.get hv
    refine wpAny_pyNext_tuple_item hit ⟨_, g1, rfl, n, rfl⟩ (by simpa using hu) fun h' hit' hs => ?_
    have kb : ∀ b o, s.heap.get? b = some o → (∀ vs, o.data ≠ .fields vs) ∨ (∃ C, o.cls = .ref C) → h'.get? b = some o := fun b o e hd => (hs.2 b fun q => by
      obtain ⟨oI, eI, c1, c2⟩ := hit
      rw [q, eI] at e; cases e
      rcases hd with hd | ⟨C, hd⟩
      · exact hd _ c2
      · rw [c1] at hd; cases hd).trans e
    exact h u h' s.toks (r.keepBut kb) ⟨hit', vs, n, kb _ _ g1 (.inl fun _ q => by cases q), g2.keepBut kb⟩ fun b o e hb => (hs.2 b (by simpa using hb)).trans e
  done := fun β μ s Q E hc Iv hn st h => by
    obtain ⟨hit, vs, n, g1, g2⟩ := st
    have hlen := g2.length
    refine wpAny_pyNext_tuple_end hh hit ⟨_, g1, rfl, n, rfl⟩ (by simp at hlen; simp [hlen]) fun h' hs => ?_
    exact h h' s.toks fun b o e hb => hs b o (by simpa using hb) e

/-- what a name, bound by a loop -/
structure Bind (B : Blk) (target : Expr) (bd : Bd) (tw : Env → List Addr) : Prop where
  make : ∀ {P : Pg} {A : Around} {I : Addr} {items : List V} {chk : Mem → Bool} {vol : List Addr} {St : Nat → Bk → Heap → Prop}, Raw P A I items chk vol St → Turns P A B target bd tw I items chk vol St

theorem Bind.one {i : Nat} {x : Str} {k : NameKind} {p : Pos} (ht : B.tab[i]? = some (some (x, k))) (hk : k = .local ∨ k = .cell) : Bind B (.Name x p) (bd1 i) (tgt k x) :=
  ⟨fun T => T.one (fun v ρ ρ' h => by simp only [bd1, Option.some.injEq] at h; exact h.symm) ht hk⟩
theorem Bind.cone {i : Nat} {x : Str} {k : NameKind} {p : Pos} (ht : B.tab[i]? = some (some (x, k))) (hk : k = .local ∨ k = .cell) : Bind B (.Name x p) (cb1 i) (tgt k x) :=
  ⟨fun T => T.one (fun v ρ ρ' h => by
    simp only [cb1] at h
    split at h
    · simp only [Option.some.injEq] at h; exact h.symm
    · cases h) ht hk⟩

theorem Raw.range (hh : A.handled = none) {I : Addr} {a b c : Int} (n : Nat) (hn : n = (Builtin.Range.rangeSize a b c).toNat) : Raw P A I (rangeL a b c) (fun _ => true) [I] (fun i _ h => i ≤ n ∧ IsRangeIter h I (a + (i : Nat) * c) ((n : Int) - (i : Nat)) c) where
  stay := fun i β β' μ μ' s s' W st _ _ p hv => ⟨st.1, keepV p st.2 rfl (hv I (by simp)).1 (hv I (by simp)).2⟩
  here := fun i β h st b hb => by
    obtain rfl : b = I := by simpa using hb
    exact ⟨_, st.2, ⟨_, rfl⟩, ⟨_, rfl⟩⟩
  self := fun i β s Q E st h => wpAny_pyIter_rangeiter st.2 h
  item := fun i v β μ s Q E hv hc Iv hnb st h => by
    have hi : i < n := by
      have := (List.getElem?_eq_some_iff.mp hv).1
      simp [rangeL] at this; omega
    have hv' : v = .int (a + (i : Nat) * c) := by
      simp only [rangeL, List.getElem?_map] at hv
      rw [List.getElem?_range (by rw [← hn]; exact hi)] at hv
      simpa using hv.symm
    refine wpAny_pyNext_range_item st.2 (by omega) fun h' hit hs => ?_
    refine h _ h' _ (by rw [hv']; exact .int _ _) ⟨hi, ?_⟩ fun b o e hb => (hs.2 b (by simpa using hb)).trans e
    have e1 : a + ((i + 1 : Nat) : Int) * c = a + (i : Int) * c + c := by push_cast; rw [Int.add_mul, Int.one_mul, Int.add_assoc]
    have e2 : (n : Int) - ((i + 1 : Nat) : Int) = (n : Int) - (i : Int) - 1 := by push_cast; omega
    rw [e1, e2]; exact hit
  done := fun β μ s Q E hc Iv hnb st h => by
    have hl : (rangeL a b c).length = n := by simp [rangeL, hn]
    refine wpAny_pyNext_range_end hh st.2 (by rw [hl]; omega) fun h' hs => ?_
    exact h h' s.toks fun b o e hb => hs b o (by simpa using hb) e

theorem size_tiny {a b c : Int} (ha : tiny a = true) (hb : tiny b = true) (hc : c = 1 ∨ c = -1) : 0 ≤ Builtin.Range.rangeSize a b c ∧ Builtin.Range.small a b c = true := by
  simp only [tiny, Bool.and_eq_true, decide_eq_true_eq] at ha hb
  unfold Builtin.Range.small Builtin.Range.rangeSize Builtin.Range.rangeFitsLong
  rcases hc with rfl | rfl
  · simp only [show (1 : Int) > 0 by decide, if_true, Int.ediv_one]
    split <;> refine ⟨by omega, ?_⟩ <;> simp only [Bool.and_eq_true, Bool.or_eq_true, decide_eq_true_eq, beq_iff_eq] <;> omega
  · simp only [show ¬ ((-1 : Int) > 0) by decide, if_false, Int.neg_neg, Int.ediv_one]
    split <;> refine ⟨by omega, ?_⟩ <;> simp only [Bool.and_eq_true, Bool.or_eq_true, decide_eq_true_eq, beq_iff_eq] <;> omega

theorem SimI.range {Bt : Blk} {es : List Expr} {target : Expr} {ds : DL} {bd : Bd} {tw : Env → List Addr} {p pos : Pos} (hb : Bind Bt target bd tw) (hx : B.sc.names.lookup (Str.ofString "range") = some .globalImplicit) (hp : plainArgs es = true) (h : SimL P B es ds) :
    SimI P B Bt (.Call (.Name (Str.ofString "range") p) es [] pos) target bd tw (iRange ds) := fun n A env β ρ μ s E Q X hbad ok ex => by
  refine Call_Name rfl (X.blt hx (by decide) (by decide) (v := .type "range") (by decide) ?_)
  refine callWith_plain (fun _ q => by cases q) (plain_trees hp) (useL h X hbad (fun vs μ₁ β₁ xs s₁ e₁ p₁ r₁ hb₁ X₁ => ?_) fun u s₁ q => ex u s₁ q)
  have fin : ∀ (a b c : Int) (t u v : Tok) (tk : Nat), rangeOf μ₁ a b c ≠ .bad → iRange ds (P.cx n) ρ μ = rangeOf μ₁ a b c →
      wpAny P.M A (pyIter (.ref s₁.heap.objs.size)) Q E { s₁ with heap := s₁.heap.push { cls := .type "range", data := .fields #[.int a t, .int b u, .int c v] }, toks := tk } := fun a b c t u v tk hr he => by
    have hcnd : (tiny a && tiny b && (decide (c = 1) || decide (c = -1))) = true := by
      by_cases q : (tiny a && tiny b && (decide (c = 1) || decide (c = -1))) = true
      · exact q
      · simp only [rangeOf, q] at hr; exact absurd rfl hr
    simp only [rangeOf, hcnd, if_true] at he
    simp only [Bool.and_eq_true, Bool.or_eq_true, decide_eq_true_eq] at hcnd
    obtain ⟨hsz, hsm⟩ := size_tiny hcnd.1.1 hcnd.1.2 hcnd.2
    have p₂ : Post P.toPl β₁ β₁ μ₁ s₁ { s₁ with heap := s₁.heap.push { cls := .type "range", data := .fields #[.int a t, .int b u, .int c v] }, toks := tk } := Post.other X₁.inv tk fun a o e => Heap.get?_push_of_some _ e
    refine wpAny_pyIter_range (IsRange.new s₁.heap a b c t u v) hsm ?_
    have p₃ : Post P.toPl β₁ β₁ μ₁ { s₁ with heap := s₁.heap.push { cls := .type "range", data := .fields #[.int a t, .int b u, .int c v] }, toks := tk } { s₁ with heap := (s₁.heap.push { cls := .type "range", data := .fields #[.int a t, .int b u, .int c v] }).push { cls := .type "range_iterator", data := .fields #[rawInt a, rawInt (Builtin.Range.rangeSize a b c), rawInt c] }, toks := tk } := Post.other p₂.inv tk fun a o e => Heap.get?_push_of_some _ e
    have hfr : s₁.heap.get? (s₁.heap.push { cls := .type "range", data := .fields #[.int a t, .int b u, .int c v] }).objs.size = none := p₂.back (get_size _)
    refine ok ⟨rangeL a b c, fun _ => true⟩ μ₁ β₁ _ _ [_] _ he (p₁.trans (p₂.trans p₃)) (hb.make (Raw.range X.room.2.2 (Builtin.Range.rangeSize a b c).toNat rfl)) ⟨Nat.zero_le _, ?_⟩ fun d hd => ?_
    · have := Heap.get?_push_size (s₁.heap.push { cls := .type "range", data := .fields #[.int a t, .int b u, .int c v] }) (o := { cls := .type "range_iterator", data := .fields #[rawInt a, rawInt (Builtin.Range.rangeSize a b c), rawInt c] }) rfl
      have e1 : a + ((0 : Nat) : Int) * c = a := by simp
      have e2 : (((Builtin.Range.rangeSize a b c).toNat : Int) - ((0 : Nat) : Int)) = Builtin.Range.rangeSize a b c := by omega
      show IsRangeIter _ _ _ _ _
      rw [e1, e2]; exact this
    · obtain rfl := List.mem_singleton.mp hd
      refine ⟨p₁.back hfr, fun q => ?_⟩
      obtain ⟨ob, e, _⟩ := X₁.inv.there q
      rw [hfr] at e; cases e
  have e0 : iRange ds (P.cx n) ρ μ = rangeArgs μ₁ vs := by simp only [iRange, e₁]; rfl
  have hb₂ : iRange ds (P.cx n) ρ μ ≠ .bad := hbad
  cases r₁ with
  | nil => rw [e0] at hb₂; exact absurd rfl hb₂
  | cons r r1 =>
    cases r <;> first | (rw [e0] at hb₂; exact absurd rfl hb₂) | skip
    rename_i i t
    cases r1 with
    | nil =>
      exact call_range_1 (fin 0 i 1 _ t _ _ (by rw [e0] at hb₂; exact hb₂) e0)
    | cons r' r2 =>
      cases r' <;> first | (rw [e0] at hb₂; exact absurd rfl hb₂) | skip
      rename_i j u
      cases r2 with
      | nil =>
        exact call_range_2 (fin i j 1 t u _ _ (by rw [e0] at hb₂; exact hb₂) e0)
      | cons r'' r3 =>
        cases r'' <;> first | (rw [e0] at hb₂; exact absurd rfl hb₂) | skip
        rename_i k w
        cases r3 with
        | nil =>
          rw [e0] at hb₂
          have hb₃ : rangeOf μ₁ i j k ≠ .bad := hb₂
          have hk : k = 1 ∨ k = -1 := by
            by_cases q : (tiny i && tiny j && (decide (k = 1) || decide (k = -1))) = true
            · simp only [Bool.and_eq_true, Bool.or_eq_true, decide_eq_true_eq] at q; exact q.2
            · simp only [rangeOf, q] at hb₃; exact absurd rfl hb₃
          exact call_range_3 (by omega) (fin i j k t u w _ hb₂ e0) (.inl (PyProof.noPylong_small (by omega)))
        | cons => rw [e0] at hb₂; exact absurd rfl hb₂

theorem SimI.seq {Bt : Blk} {e target : Expr} {d : DE} {bd : Bd} {tw : Env → List Addr} (hb : Bind Bt target bd tw) (h : SimE P B e d) : SimI P B Bt e target bd tw (iSeq d) := fun n A env β ρ μ s E Q X hbad ok ex => by
  refine useE h X hbad (fun v μ₁ β₁ x s₁ e₁ p₁ r₁ hb₁ X₁ => ?_) fun u s₁ q => ex u s₁ q
  have size_ne : ∀ {a : Addr} {o : Obj}, s₁.heap.get? a = some o → s₁.heap.objs.size ≠ a := fun e q => absurd (Heap.lt_size e) (by rw [← q]; exact Nat.lt_irrefl _)
  have nb : s₁.heap.objs.size ∉ β₁ := fun q => by
    obtain ⟨ob, e, _⟩ := X₁.inv.there q
    exact absurd (Heap.lt_size e) (Nat.lt_irrefl _)
  cases r₁ with
  | @tup l vs n xs g1 g2 g3 =>
    refine wpAny_pyIter_tuple ⟨_, g1, rfl, n, rfl⟩ ?_
    have p₂ : Post P.toPl β₁ β₁ μ₁ s₁ { s₁ with heap := s₁.heap.push { cls := .type "tuple_iterator", data := .fields #[.ref l, .int 0 0] }, toks := s₁.toks } := Post.other X₁.inv s₁.toks fun a o e => Heap.get?_push_of_some _ e
    refine ok ⟨xs, fun _ => true⟩ μ₁ β₁ _ s₁.heap.objs.size [s₁.heap.objs.size] _ (by simp only [iSeq, e₁]; rfl) (p₁.trans p₂) (hb.make (Raw.tuple X.room.2.2 (I := s₁.heap.objs.size) (l := l) (xs := xs)))
      ⟨⟨_, Heap.get?_push_size _ rfl, rfl, rfl⟩, vs, n, Heap.get?_push_of_some _ g1, g2.post X₁.inv p₂⟩ fun a ha => ?_
    obtain rfl : a = s₁.heap.objs.size := by simpa using ha
    exact ⟨p₁.back (get_size _), nb⟩
  | @ref i l e =>
    cases hm : μ₁[i]? with
    | none => simp only [hm] at hb₁; exact absurd rfl hb₁
    | some o =>
      have ro := X₁.inv.obj i _ l hm e
      simp only [hm] at hb₁
      cases ro with
      | dict => exact absurd rfl hb₁
      | inst => exact absurd rfl hb₁
      | @list _ vs n xs a1 a2 a3 =>
        refine wpAny_pyIter_list ⟨_, a1, rfl, n, rfl⟩ ?_
        have p₂ : Post P.toPl β₁ β₁ μ₁ s₁ { s₁ with heap := s₁.heap.push { cls := .type "list_iterator", data := .fields #[.ref l, .int 0 0] }, toks := s₁.toks } := Post.other X₁.inv s₁.toks fun a o e => Heap.get?_push_of_some _ e
        refine ok ⟨xs, fun μ => decide (μ[i]? = some (.list xs))⟩ μ₁ β₁ _ s₁.heap.objs.size [s₁.heap.objs.size] _ (by simp only [iSeq, e₁, R.bind, hm]) (p₁.trans p₂) (hb.make (Raw.list X.room.2.2 (I := s₁.heap.objs.size) (l := l) (a := i) (xs := xs) (size_ne a1)))
          ⟨⟨_, Heap.get?_push_size _ rfl, rfl, rfl⟩, e⟩ fun a ha => ?_
        obtain rfl : a = s₁.heap.objs.size := by simpa using ha
        exact ⟨p₁.back (get_size _), nb⟩
  | _ => exact absurd rfl hb₁
end
end
end Mine
end
section
set_option autoImplicit false
namespace Mine
noncomputable section
open PySem PyProof.Rows PySem.SeqAt

noncomputable def clOf (env : Env) : List (Str × NameKind) → List (Str × Addr) → List (Str × Addr)
  | [], acc => acc
  | (n, k) :: r, acc => clOf env r (if k == .free then (n, (env.cells.lookup n).getD 0) :: acc else acc)
theorem clOf_eq (env : Env) (f : Str × NameKind → List (Str × Addr) → Sem (ForInStep (List (Str × Addr)))) (h1 : ∀ n cs c, env.cells.lookup n = some c → f (n, .free) cs = pure (.yield ((n, c) :: cs))) (h2 : ∀ n k cs, (k == NameKind.free) = false → f (n, k) cs = pure (.yield cs)) :
    ∀ (names : List (Str × NameKind)) (acc : List (Str × Addr)), (∀ x, (x, NameKind.free) ∈ names → ∃ c, env.cells.lookup x = some c) → forIn names acc f = pure (clOf env names acc)
  | [], acc, _ => rfl
  | (n, k) :: r, acc, h => by
    rw [List.forIn_cons]
    cases hk : (k == NameKind.free) with
    | true =>
      have hk' : k = .free := by simpa using hk
      subst hk'
      obtain ⟨c, hc⟩ := h n List.mem_cons_self
      rw [h1 n acc c hc]
      show (forIn r ((n, c) :: acc) f : Sem _) = _
      rw [clOf_eq env f h1 h2 r _ fun x hx => h x (List.mem_cons_of_mem _ hx)]
      simp only [clOf, hk, if_true, hc]; rfl
    | false =>
      rw [h2 n k acc hk]
      show (forIn r acc f : Sem _) = _
      rw [clOf_eq env f h1 h2 r _ fun x hx => h x (List.mem_cons_of_mem _ hx)]
      simp only [clOf, hk]; rfl
theorem closure_of {scope : Scope} {env : Env} (h : ∀ x, (x, NameKind.free) ∈ scope.names → ∃ c, env.cells.lookup x = some c) : closureFor scope env = pure (clOf env scope.names []) := by
  simp only [closureFor]
  rw [clOf_eq env _ ?_ ?_ scope.names [] h]
  · rfl
  · intro n cs c hc
    simp only [cellOf, hc]; rfl
  · intro n k cs hk
    simp only [hk]; rfl
theorem clOf_mem {env : Env} : ∀ (names : List (Str × NameKind)) (acc : List (Str × Addr)), (∀ x, (x, NameKind.free) ∈ names → ∃ c, env.cells.lookup x = some c) → (∀ p ∈ acc, env.cells.lookup p.1 = some p.2) → ∀ p ∈ clOf env names acc, env.cells.lookup p.1 = some p.2
  | [], _, _, ha, p, hp => ha p hp
  | (n, k) :: r, acc, h, ha, p, hp => by
    refine clOf_mem r _ (fun x hx => h x (List.mem_cons_of_mem _ hx)) (fun q hq => ?_) p hp
    split at hq
    · rename_i hk
      have hk' : k = .free := by simpa using hk
      subst hk'
      rcases List.mem_cons.mp hq with rfl | hq
      · obtain ⟨c, hc⟩ := h n List.mem_cons_self
        rw [hc]; rfl
      · exact ha q hq
    · exact ha q hq
theorem clOf_keeps {env : Env} {x : Str} : ∀ (names : List (Str × NameKind)) (acc : List (Str × Addr)), (acc.lookup x).isSome = true ∨ (x, NameKind.free) ∈ names → ((clOf env names acc).lookup x).isSome = true
  | [], _, h => h.elim id fun q => by cases q
  | (n, k) :: r, acc, h => by
    refine clOf_keeps r _ ?_
    rcases h with h | h
    · refine .inl ?_
      split
      · rw [List.lookup_cons]; split
        · rfl
        · exact h
      · exact h
    · rcases List.mem_cons.mp h with q | q
      · cases q
        refine .inl ?_
        rw [if_pos (by decide), List.lookup_cons]; simp
      · exact .inr q
theorem lookup_mem_pair {l : List (Str × Addr)} {x : Str} {c : Addr} (h : l.lookup x = some c) : (x, c) ∈ l := by
  induction l with
  | nil => cases h
  | cons p r ih =>
    obtain ⟨y, d⟩ := p
    rw [List.lookup_cons] at h
    split at h
    · rename_i hy
      cases h
      rw [beq_iff_eq.mp hy]; exact List.mem_cons_self
    · exact List.mem_cons_of_mem _ (ih h)

/-- the names of a comprehension's block, seen from the block around it -/
noncomputable def relabelS (scope outer : Scope) : Scope :=
  { scope with names := scope.names.map fun (n, k) => if (k == .free && outer.kind == .function && outer.names.lookup n == some .cell) then (n, .cell) else (n, k) }
structure CompOk (B Bc : Blk) (scope : Scope) (locs : List Nat) : Prop where
  kind : scope.kind = .function
  names : ∀ x ∈ scope.names, x.2 = .local → scope.names.lookup x.1 = some .local
  nocell : ∀ x ∈ scope.names, x.2 ≠ .cell
  ok : Bc.ok = true
  sc : Bc.sc = relabelS scope B.sc
  free : ∀ x, (x, NameKind.free) ∈ scope.names → ∃ (i : Nat) (k : NameKind), B.tab[i]? = some (some (x, k)) ∧ (k = .cell ∨ k = .free)
  tab : ∀ (i : Nat) (x : Str) (k : NameKind), Bc.tab[i]? = some (some (x, k)) → k = .cell ∨ k = .free → (x, NameKind.free) ∈ scope.names ∧ ∃ k' : NameKind, B.tab[i]? = some (some (x, k')) ∧ (k' = .cell ∨ k' = .free)
  locs : ∀ (i : Nat) (x : Str), Bc.tab[i]? = some (some (x, .local)) → i ∈ locs

section
variable {P : Pg} {B : Blk} {A : Around}

theorem compEnv_ok {Bc : Blk} {scope : Scope} {locs : List Nat} (K : CompOk B Bc scope locs) {env : Env} {β : Bk} {ρ : Fr} {h h' : Heap} {C : Addr} (x : EnvOk P B A env β ρ h) (hl : locs.all (fun i => (ρ i).isNone) = true)
    (hn : h'.Ns C fun _ => none) (hC : h.get? C = none) (hCb : C ∉ β) (hC0 : P.h₀.get? C = none) (hk : ∀ a o, h.get? a = some o → h'.get? a = some o) (rel : ∀ {v : V} {u : Value}, Rel P.toPl β h v u → Rel P.toPl β h' v u) :
    EnvOk P Bc A (compEnvC scope (clOf env scope.names []) C env) β ρ h' := by
  have hfree : ∀ y, (y, NameKind.free) ∈ scope.names → ∃ c, env.cells.lookup y = some c := fun y hy => by
    obtain ⟨i, k, h1, h2⟩ := K.free y hy
    obtain ⟨c, _, h3, _⟩ := x.cell i y k h1 h2
    exact ⟨c, h3⟩
  have cl : ∀ y c, (clOf env scope.names []).lookup y = some c → env.cells.lookup y = some c := fun y c hy => clOf_mem scope.names [] hfree (by simp) (y, c) (lookup_mem_pair hy)
  refine { ok := K.ok, sc := ?_, glob := x.glob, blt := x.blt, ns := ?_, loc := ⟨hCb, hC0⟩, cell := ?_, apart := ?_, fr := ?_, own := ?_ }
  · rw [K.sc]
    show relabel scope env = _
    unfold relabel relabelS Env.kindOf
    rw [x.sc]
  · refine ⟨_, hn, fun i y v ht hv => ?_⟩
    have := List.all_eq_true.mp hl i (K.locs i y ht)
    rw [hv] at this; cases this
  · intro i y k ht hk'
    obtain ⟨hm, k', h1, h2⟩ := K.tab i y k ht hk'
    obtain ⟨c, u, c1, c2, c3, ⟨o, e, d⟩, c5⟩ := x.cell i y k' h1 h2
    obtain ⟨c', hc'⟩ := Option.isSome_iff_exists.mp (clOf_keeps (env := env) scope.names [] (.inr hm))
    have : c' = c := by have := cl y c' hc'; rw [c1] at this; exact (Option.some.inj this).symm
    subst this
    refine ⟨c', u, hc', c2, c3, ⟨o, hk _ _ e, d⟩, fun v hv => ?_⟩
    obtain ⟨z, z1, z2⟩ := c5 v hv
    exact ⟨z, z1, rel z2⟩
  · exact fun y z c hy hz => x.apart y z c (cl y c hy) (cl z c hz)
  · obtain ⟨fe, outer, f1, f2, f3⟩ := x.fr
    refine ⟨fe, outer, f1, f2, fun e he => ?_⟩
    obtain ⟨k, L, o, g1, g2, g3, g4, r⟩ := f3 e he
    exact ⟨k, L, o, g1, g2, g3, hk _ _ g4, r⟩
  · intro a ha
    rcases List.mem_cons.mp ha with rfl | ha
    · obtain ⟨o, es, n, e, d, _⟩ := hn
      exact ⟨hCb, hC0, o, e, .inl ⟨es, n, d⟩⟩
    · obtain ⟨q, hq, rfl⟩ := List.mem_map.mp ha
      have := clOf_mem scope.names [] hfree (by simp) q hq
      obtain ⟨h1, h2, o, h3, h4⟩ := x.own q.2 (List.mem_cons_of_mem _ (lookup_mem_snd this))
      exact ⟨h1, h2, o, hk _ _ h3, h4⟩

/-- append, to the object -/
theorem append_exact {prog : Program} {w : World} {A : Around} {E : Value → Shared → Prop} {s : Shared} {l : Addr} {items : Array Value} {n : Nat} {x : Value} {Q : Value → Shared → Prop} (hl : IsL s.heap l items n)
    (h : Q .none { s with heap := s.heap.update l (Obj.mapSeq fun a => a.push x) }) (hsz : items.size ≤ sizeLine) : wpAny (model prog w) A (call (.builtin "list.append") [.ref l, x]) Q E s := by
  refine wpAny_call_entry slot_list_append ⟨_, hl, rfl⟩ entry_list_append ?_ (args_list_append _ _)
  show wpAny _ _ (updateSeq l (·.push x) >>= fun _ => ret .none) _ _ s
  refine wpAny_bind ?_
  exact wpAny_updateSeq hl rfl (wpAny_pure ⟨.none, rfl, h⟩)

noncomputable def SimIfs (P : Pg) (B : Blk) (ifs : List Expr) (d : DT) : Prop :=
  ∀ n A env β ρ μ s (Q : Bool → Shared → Prop) (E : Value → Shared → Prop), At P B n A env β ρ μ s → (∀ t μ' β' s', d (P.cx n) ρ μ = .ok t μ' → Post P.toPl β β' μ' s s' → Q t s') → (∃ t μ', d (P.cx n) ρ μ = .ok t μ') →
    wpAny P.M A (forIn ifs true fun c r => if r = true then do let ok ← isTrue c env (eval c env); pure (ForInStep.yield ok) else pure (ForInStep.yield r)) Q E s
theorem SimIfs.nil : SimIfs P B [] tTrue := fun n A env β ρ μ s Q E X h _ => wpAny_tests_nil (h true μ β s rfl (.refl X.inv))
/-- the accumulator of a comprehension -/
structure Acc (P : Pg) (D : Addr) (vol : List Addr) (env : Env) (β : Bk) (xs : List V) (h : Heap) : Prop where
  out : D ∉ β ∧ D ∉ vol ∧ D ∉ own env ∧ P.h₀.get? D = none
  obj : ∃ ys n, IsL h D ys n ∧ RelL P.toPl β h xs ys.toList
  len : xs.length ≤ lim

theorem Acc.mono {D : Addr} {vol W : List Addr} {env : Env} {β β' : Bk} {μ μ' : Mem} {xs : List V} {s s' : Shared} (a : Acc P D vol env β xs s.heap) (I : Inv P.toPl β μ s.heap) (hW : OwnOk W s.heap) (p : PostS P.toPl W β β' μ' s s') (hD : D ∉ W) : Acc P D vol env β' xs s'.heap := by
  obtain ⟨⟨o1, o2, o3, o4⟩, ⟨ys, n, h1, h2⟩, h3⟩ := a
  obtain ⟨o₂, e₂, hs⟩ := p.keep D _ h1 o1 hD
  rw [hs.eq (by simp)] at e₂
  exact ⟨⟨p.notIn o1 h1, o2, o3, o4⟩, ⟨ys, n, e₂, h2.monoS I hW p⟩, h3⟩

/-- the accumulator changed -/
theorem postD {D : Addr} {env : Env} {β : Bk} {μ : Mem} {ρ : Fr} {s : Shared} {h' : Heap} {ys : Array Value} {n : Nat} (I : Inv P.toPl β μ s.heap) (x : EnvOk P B A env β ρ s.heap) (hD : IsL s.heap D ys n) (hb : D ∉ β) (h0 : P.h₀.get? D = none) (hs : Heap.SameBut D s.heap h') :
    PostS P.toPl [D] β β μ s { s with heap := h' } ∧ EnvOk P B A env β ρ h' ∧ ∀ {v : List V} {u : List Value}, RelL P.toPl β s.heap v u → RelL P.toPl β h' v u := by
  have nt : ∀ a o, s.heap.get? a = some o → (o.cls ≠ .type "list" ∨ ∀ vs n, o.data ≠ .seq vs n) → a ≠ D := fun a o e h q => by
    rw [q, hD] at e; cases e
    rcases h with h | h
    · exact h rfl
    · exact h _ _ rfl
  have kr : ∀ {v : V} {u : Value}, Rel P.toPl β s.heap v u → Rel P.toPl β h' v u := fun r => Rel.keepF (fun a o e hd => (hs.2 a (nt a o e (hd.imp (fun h => by rw [h]; simp) fun ⟨vs, h⟩ _ _ => by rw [h]; simp))).trans e) r
  have krs : ∀ {v : List V} {u : List Value}, RelL P.toPl β s.heap v u → RelL P.toPl β h' v u := fun r => RelL.keepF (fun a o e hd => (hs.2 a (nt a o e (hd.imp (fun h => by rw [h]; simp) fun ⟨vs, h⟩ _ _ => by rw [h]; simp))).trans e) r
  have kb : ∀ a ∈ β, h'.get? a = s.heap.get? a := fun a ha => hs.2 a fun q => hb (q ▸ ha)
  have keepD : ∀ a o, s.heap.get? a = some o → (∀ vs n, o.data ≠ .seq vs n) → h'.get? a = some o := fun a o e hd => (hs.2 a (nt a o e (.inr hd))).trans e
  refine ⟨⟨⟨h', s.toks, rfl⟩, ⟨I.len, I.nd, fun i o a e1 e2 => ?_, fun a o e => ?_, I.new⟩, List.prefix_refl _, fun a o e _ w => ⟨o, (hs.2 a fun q => w (by rw [q]; exact List.mem_singleton.mpr rfl)).trans e, .refl _⟩, fun _ q n => absurd q n⟩, ?_, krs⟩
  · have ha := kb a (List.mem_of_getElem? e2)
    have r := I.obj i o a e1 e2
    cases r with
    | list e r l => exact .list (ha.trans e) (krs r) l
    | dict e r l => exact .dict (ha.trans e) (EntRel.keepF (fun a o e hd => (hs.2 a (nt a o e (hd.imp (fun h => by rw [h]; simp) fun ⟨vs, h⟩ _ _ => by rw [h]; simp))).trans e) r) l
    | inst e d => exact .inst (ha.trans e) d
  · exact (hs.2 a fun q => by rw [q, h0] at e; cases e).trans (I.base a o e)
  · exact { x with
      ns := by
        obtain ⟨m, ⟨o, es, n', e, d, r⟩, hm⟩ := x.ns
        exact ⟨m, ⟨o, es, n', keepD _ o e (by rw [d]; simp), d, r⟩, fun i y v ht hv => let ⟨u, h1, h2⟩ := hm i y v ht hv; ⟨u, h1, kr h2⟩⟩
      cell := fun i y k ht hk => by
        obtain ⟨c, u, h1, h2, h3, ⟨o, e, d⟩, h5⟩ := x.cell i y k ht hk
        exact ⟨c, u, h1, h2, h3, ⟨o, keepD _ o e (by rw [d]; simp), d⟩, fun v hv => let ⟨z, e1, e2⟩ := h5 v hv; ⟨z, e1, kr e2⟩⟩
      fr := by
        obtain ⟨fe, outer, h1, h2, h3⟩ := x.fr
        refine ⟨fe, outer, h1, h2, fun e he => ?_⟩
        obtain ⟨k, L, o, g1, g2, g3, g4, es, n', g5⟩ := h3 e he
        exact ⟨k, L, o, g1, g2, g3, keepD _ o g4 (by rw [g5]; simp), es, n', g5⟩
      own := fun a ha => by
        obtain ⟨h1, h2, o, h3, h4⟩ := x.own a ha
        exact ⟨h1, h2, o, keepD _ o h3 (by rcases h4 with ⟨_, _, h⟩ | ⟨_, h⟩ <;> rw [h] <;> simp), h4⟩ }

theorem EnvOk.less {env : Env} {β : Bk} {ρ ρ' : Fr} {h : Heap} (x : EnvOk P B A env β ρ' h) (hs : ∀ i w, ρ i = some w → ρ' i = some w) : EnvOk P B A env β ρ h :=
  { x with
    ns := let ⟨m, a, b⟩ := x.ns; ⟨m, a, fun i y v ht hv => b i y v ht (hs i v hv)⟩
    cell := fun i y k ht hk => let ⟨c, u, h1, h2, h3, h4, h5⟩ := x.cell i y k ht hk; ⟨c, u, h1, h2, h3, h4, fun v hv => h5 v (hs i v hv)⟩ }

theorem compTurns {Bc : Blk} {target iter elt : Expr} {ifs : List Expr} {bd : Bd} {tw : Env → List Addr} {I D : Addr} {items : List V} {chk : Mem → Bool} {vol : List Addr} {St : Nat → Bk → Heap → Prop} {dc : DT} {de : DE} {cenv : Env} {n : Nat} {ρ : Fr} {scope : Scope} {pos : Pos}
    (T : Turns P A Bc target bd tw I items chk vol St) (W : List Addr) (htw : ∀ a ∈ tw cenv, a ∈ W) (hWo : ∀ a ∈ W, a ∈ own cenv) (hc : SimIfs P Bc ifs dc) (hel : SimE P Bc elt de) (hρ : ∀ v ρ', bd v ρ = some ρ' → ∀ i w, ρ i = some w → ρ' i = some w) :
    ∀ (rest : List V) (i : Nat) (β : Bk) (μ : Mem) (s : Shared) (acc : List V) (R : Result → Shared → Prop), i ≤ items.length → items.drop i = rest → At P Bc n A cenv β ρ μ s → (∀ a ∈ vol, a ∉ own cenv ∧ a ∉ β ∧ P.h₀.get? a = none) → St i β s.heap → Acc P D vol cenv β acc s.heap →
      compS chk bd dc de (P.cx n) ρ rest μ acc ≠ .bad →
      (∀ s' xs μ' β', compS chk bd dc de (P.cx n) ρ rest μ acc = .ok xs μ' → PostS P.toPl ([D] ++ (vol ++ W)) β β' μ' s s' → Acc P D vol cenv β' xs s'.heap → (∃ m, s'.heap.Ns cenv.locals m) → R (.ok .next) s') →
      codeAny P.M A (.compLoop (.ListComp elt [⟨target, iter, ifs, 0⟩] scope pos) 0 (.ref I) (.ref D) cenv) R s := by
  intro rest
  induction rest with
  | nil =>
    intro i β μ s acc R hle hd X hv st ac hb hok
    have hchk : chk μ = true := by
      by_cases q : chk μ = true
      · exact q
      · simp only [compS, q] at hb; exact absurd rfl hb
    obtain rfl : i = items.length := Nat.le_antisymm hle (List.drop_eq_nil_iff.mp hd)
    refine codeAny_of_tree ?_
    show wpAny P.M A ((compTurn (.ListComp elt [⟨target, iter, ifs, 0⟩] scope pos) 0 (.ref I) (.ref D) cenv).onRaise (fun x => do noteFrame x cenv; theTreesLotGoes x)) _ _ s
    refine wpAny_noted ?_
    rw [compTurn_list]
    refine wpAny_bind (wpAny_standAt (wpAny_bind (wpAny_mono (T.done n cenv β ρ μ s (fun s' => R (.ok .next) s') (notedBy P.M A cenv fun e s' => R (.error e) s') hchk X hv st fun s' p he => ?_) (fun r s₁ h₁ => ?_) fun _ _ h' => h')))
    · replace p : PostS P.toPl (vol ++ W) β β μ s s' := p.weaken (fun a ha => (List.mem_append.mp ha).elim (List.mem_append_left _) fun h => List.mem_append_right _ (htw a h)) fun a ha hn => absurd ha hn
      have hW : OwnOk (vol ++ W) s.heap := fun a ha o e => by
        rcases List.mem_append.mp ha with h | h
        · obtain ⟨o', e', r⟩ := T.here _ _ _ st a h
          rw [e] at e'; cases e'; exact .inr (.inr (.inl r))
        · exact X.env.ownOk a (hWo a h) o e
      have hD : D ∉ vol ++ W := fun h => by
        rcases List.mem_append.mp h with h | h
        · exact ac.out.2.1 h
        · exact ac.out.2.2.1 (hWo _ h)
      obtain ⟨m, hn, _⟩ := he.ns
      exact hok s' acc μ β (by simp only [compS, hchk, if_true]) (p.weaken (fun a h => List.mem_append_right _ h) fun a ha hn => absurd ha hn) (ac.mono X.inv hW p hD) ⟨m, hn⟩
    · cases r with
      | none => exact wpAny_pure h₁
      | some u => exact h₁.elim
  | cons v rest ih =>
    intro i β μ s acc R hle hd X hv st ac hb hok
    have hchk : chk μ = true := by
      by_cases q : chk μ = true
      · exact q
      · simp only [compS, q] at hb; exact absurd rfl hb
    have hiv : items[i]? = some v := by
      have := congrArg List.head? hd
      rw [List.head?_drop] at this; simpa using this
    have hi : i < items.length := (List.getElem?_eq_some_iff.mp hiv).1
    have hd' : items.drop (i + 1) = rest := by
      have := congrArg List.tail hd
      rw [List.tail_drop] at this; simpa using this
    cases hρ' : bd v ρ with
    | none => simp only [compS, hchk, if_true, hρ'] at hb; exact absurd rfl hb
    | some ρ' =>
      have e1 : compS chk bd dc de (P.cx n) ρ (v :: rest) μ acc = ((dc (P.cx n) ρ' μ).quiet fun t μ => if t then (de (P.cx n) ρ' μ).quiet fun x μ => if acc.length < lim then compS chk bd dc de (P.cx n) ρ rest μ (acc ++ [x]) else .bad
          else compS chk bd dc de (P.cx n) ρ rest μ acc) := by rw [compS, if_pos hchk, hρ']
      rw [e1] at hb hok
      have memC : ∀ a, a ∈ vol ++ W → a ∈ [D] ++ (vol ++ W) := fun a h => List.mem_append_right _ h
      refine codeAny_of_tree ?_
      show wpAny P.M A ((compTurn (.ListComp elt [⟨target, iter, ifs, 0⟩] scope pos) 0 (.ref I) (.ref D) cenv).onRaise (fun x => do noteFrame x cenv; theTreesLotGoes x)) _ _ s
      refine wpAny_noted ?_
      rw [compTurn_list]
      refine wpAny_bind (wpAny_standAt (wpAny_bind (wpAny_mono (T.item i v n cenv β ρ ρ' μ s (fun s₃ => wpAny P.M A (forIn ifs true fun c r => if r = true then do let ok ← isTrue c cenv (eval c cenv); pure (ForInStep.yield ok) else pure (ForInStep.yield r)) (fun ok s₄ =>
            if ok = true then wpAny P.M A (eval elt cenv) (fun x s₅ => wpAny P.M A (call (.builtin "list.append") [.ref D, x]) (fun _ s₆ => codeAny P.M A (.compLoop (.ListComp elt [⟨target, iter, ifs, 0⟩] scope pos) 0 (.ref I) (.ref D) cenv) R s₆) (notedBy P.M A cenv fun e s' => R (.error e) s') s₅) (notedBy P.M A cenv fun e s' => R (.error e) s') s₄
            else codeAny P.M A (.compLoop (.ListComp elt [⟨target, iter, ifs, 0⟩] scope pos) 0 (.ref I) (.ref D) cenv) R s₄) (notedBy P.M A cenv fun e s' => R (.error e) s') s₃)
          (notedBy P.M A cenv fun e s' => R (.error e) s') hiv hchk X hv st hρ' fun s₃ p₃ he₃ st₃ => ?_) (fun r s₁ h₁ => ?_) fun _ _ h' => h')))
      · replace p₃ : PostS P.toPl (vol ++ W) β β μ s s₃ := p₃.weaken (fun a ha => (List.mem_append.mp ha).elim (List.mem_append_left _) fun h => List.mem_append_right _ (htw a h)) fun a ha hn => absurd ha hn
        have X₃ : At P Bc n A cenv β ρ' μ s₃ := ⟨X.good, X.call, X.room, he₃, p₃.inv⟩
        have hW : OwnOk (vol ++ W) s.heap := fun a ha o e => by
          rcases List.mem_append.mp ha with h | h
          · obtain ⟨o', e', r⟩ := T.here _ _ _ st a h
            rw [e] at e'; cases e'; exact .inr (.inr (.inl r))
          · exact X.env.ownOk a (hWo a h) o e
        have hD : D ∉ vol ++ W := fun h => by
          rcases List.mem_append.mp h with h | h
          · exact ac.out.2.1 h
          · exact ac.out.2.2.1 (hWo _ h)
        have ac₃ := ac.mono X.inv hW p₃ hD
        have live₃ : ∀ a ∈ [D] ++ (vol ++ W), s₃.heap.get? a ≠ none := fun a ha q => by
          rcases List.mem_append.mp ha with h | h
          · obtain ⟨ys, k, h1, _⟩ := ac₃.obj
            rw [List.mem_singleton.mp h, h1] at q; cases q
          · rcases List.mem_append.mp h with h | h
            · obtain ⟨o, e, _⟩ := T.here _ _ _ st₃ a h
              rw [q] at e; cases e
            · exact he₃.live a (hWo a h) q
        cases hcd : dc (P.cx n) ρ' μ with
        | bad => rw [hcd] at hb; exact absurd rfl hb
        | exc c μ₁ => rw [hcd] at hb; exact absurd rfl hb
        | ok t μ₄ =>
          rw [hcd] at hb hok
          refine hc n A cenv β ρ' μ s₃ _ _ X₃ (fun t' μ₄' β₄ s₄ e₄ p₄ => ?_) ⟨t, μ₄, hcd⟩
          rw [hcd] at e₄; cases e₄
          have X₄ := X₃.post p₄
          have ac₄ := ac₃.mono X₃.inv (W := []) (fun a ha => by cases ha) (p₄.own (fun a ha => by cases ha)) (by simp)
          have st₄ : St (i + 1) β₄ s₄.heap := T.stay _ β β₄ μ μ₄ s₃ s₄ [] st₃ X₃.inv (fun a ha => by cases ha) (p₄.own (fun a ha => by cases ha)) fun a ha => ⟨by simp, (hv a ha).2.1⟩
          have nb₄ : ∀ a ∈ vol, a ∉ β₄ := fun a ha => by
            obtain ⟨o, e, _⟩ := T.here _ _ _ st₃ a ha
            exact p₄.notIn (hv a ha).2.1 e
          have p04 : PostS P.toPl ([D] ++ (vol ++ W)) β β₄ μ₄ s s₄ := (p₃.weaken memC fun a ha hn => absurd ha hn).trans (p₄.own live₃)
          cases t with
          | false =>
            rw [if_neg (by simp)]
            simp only [Mine.R.quiet] at hb hok
            rw [if_neg (by simp)] at hb
            refine ih (i + 1) β₄ μ₄ s₄ acc R hi hd' ⟨X.good, X.call, X.room, X₄.env.less (hρ v ρ' hρ'), p₄.inv⟩ (fun a ha => ⟨(hv a ha).1, nb₄ a ha, (hv a ha).2.2⟩) st₄ ac₄ hb fun s' xs μ' β' q1 q2 q3 q4 => ?_
            exact hok s' xs μ' β' (by rw [if_neg (by simp)]; exact q1) (p04.trans q2) q3 q4
          | true =>
            rw [if_pos rfl]
            simp only [Mine.R.quiet, if_true] at hb hok
            cases hed : de (P.cx n) ρ' μ₄ with
            | bad => rw [hed] at hb; exact absurd rfl hb
            | exc c μ₁ => rw [hed] at hb; exact absurd rfl hb
            | ok x μ₅ =>
              rw [hed] at hb hok
              simp only at hb hok
              have hlen : acc.length < lim := by
                by_cases q : acc.length < lim
                · exact q
                · rw [if_neg q] at hb; exact absurd rfl hb
              rw [if_pos hlen] at hb hok
              refine wpAny_mono (hel n A cenv β₄ ρ' μ₄ s₄ X₄ (by rw [hed]; exact fun q => by cases q)) (fun u s₅ q => ?_) fun u s₅ q => ?_
              · obtain ⟨x', μ₅', β₅, e₅, p₅, r₅⟩ := q
                rw [hed] at e₅; cases e₅
                have X₅ := X₄.post p₅
                have ac₅ := ac₄.mono X₄.inv (W := []) (fun a ha => by cases ha) (p₅.own (fun a ha => by cases ha)) (by simp)
                have st₅ : St (i + 1) β₅ s₅.heap := T.stay _ β₄ β₅ μ₄ μ₅ s₄ s₅ [] st₄ X₄.inv (fun a ha => by cases ha) (p₅.own (fun a ha => by cases ha)) fun a ha => ⟨by simp, nb₄ a ha⟩
                have nb₅ : ∀ a ∈ vol, a ∉ β₅ := fun a ha => by
                  obtain ⟨o, e, _⟩ := T.here _ _ _ st₄ a ha
                  exact p₅.notIn (nb₄ a ha) e
                obtain ⟨ys, k, g1, g2⟩ := ac₅.obj
                have hys : ys.size = acc.length := by have := g2.length; simp at this; exact this.symm
                refine append_exact g1 ?_ (lim_line (by omega))
                obtain ⟨p₆, he₆, kr⟩ := postD (P := P) (B := Bc) (A := A) X₅.inv X₅.env g1 ac₅.out.1 ac₅.out.2.2.2 (Heap.SameBut.update s₅.heap D (Obj.mapSeq fun a => a.push u))
                have g1' := IsL.update g1 (fun a => a.push u)
                have ac₆ : Acc P D vol cenv β₅ (acc ++ [x]) (s₅.heap.update D (Obj.mapSeq fun a => a.push u)) := ⟨ac₅.out, ⟨_, _, g1', by
                  rw [Array.toList_push]
                  exact kr (g2.append (.cons r₅ .nil))⟩, by simp; omega⟩
                have hWD : OwnOk [D] s₅.heap := fun a ha o e => by
                  rw [List.mem_singleton.mp ha, g1] at e; cases e
                  exact .inr (.inr (.inr ⟨rfl, _, _, rfl⟩))
                have st₆ : St (i + 1) β₅ (s₅.heap.update D (Obj.mapSeq fun a => a.push u)) := T.stay _ β₅ β₅ μ₅ μ₅ s₅ _ [D] st₅ X₅.inv hWD p₆ fun a ha => ⟨fun q => ac₅.out.2.1 (List.mem_singleton.mp q ▸ ha), nb₅ a ha⟩
                refine ih (i + 1) β₅ μ₅ _ (acc ++ [x]) R hi hd' ⟨X.good, X.call, X.room, he₆.less (hρ v ρ' hρ'), p₆.inv⟩ (fun a ha => ⟨(hv a ha).1, nb₅ a ha, (hv a ha).2.2⟩) st₆ ac₆ hb fun s' xs μ' β' q1 q2 q3 q4 => ?_
                have live₄ : ∀ a ∈ [D] ++ (vol ++ W), s₄.heap.get? a ≠ none := fun a ha q => live₃ a ha (p₄.back q)
                have p05 := p04.trans (p₅.own live₄)
                exact hok s' xs μ' β' q1 ((p05.trans (p₆.weaken (fun a h => List.mem_append_left _ h) fun a ha hn => absurd ha hn)).trans q2) q3 q4
              · obtain ⟨c, μ', β', e', _⟩ := q
                rw [hed] at e'; cases e'
      · cases r with
        | none => exact h₁.elim
        | some u =>
          refine wpAny_bind (wpAny_mono h₁ (fun _ s₂ h₂ => wpAny_bind (wpAny_mono h₂ (fun _ s₃ h₃ => wpAny_bind (wpAny_mono h₃ (fun ok s₄ h₄ => ?_) fun _ _ h' => h')) fun _ _ h' => h')) fun _ _ h' => h')
          cases ok with
          | false => exact wpAny_pure ⟨rfl, h₄⟩
          | true =>
            rw [if_pos rfl] at h₄ ⊢
            exact wpAny_bind (wpAny_bind (wpAny_mono h₄ (fun x s₅ h₅ => wpAny_bind (wpAny_mono h₅ (fun _ s₆ h₆ => wpAny_pure (wpAny_pure ⟨rfl, h₆⟩)) fun _ _ h' => h')) fun _ _ h' => h'))
end
end
end Mine
end
section
set_option autoImplicit false
namespace Mine
noncomputable section
open PySem PyProof.Rows PySem.SeqAt

theorem EntRel.monoS {P : Pl} {W : List Addr} {β β' : Bk} {μ μ' : Mem} {s s' : Shared} (I : Inv P β μ s.heap) (hW : OwnOk W s.heap) (p : PostS P W β β' μ' s s') : ∀ {r : List (V × V)} {es : List DictEntry}, EntRel P β s.heap r es → EntRel P β' s'.heap r es
  | _, _, .nil => .nil
  | _, _, .cons a b c r => .cons (a.monoS I hW p) (b.monoS I hW p) c (r.monoS I hW p)

mutual
theorem Rel.grow {P : Pl} {β β' : Bk} {h : Heap} (p : β <+: β') (hn : ∀ a o c vs, h.get? a = some o → o.cls = .ref (P.cls c) → o.data = .fields vs → a ∉ β → a ∉ β') : ∀ {v : V} {x : Value}, Rel P β h v x → Rel P β' h v x
  | _, _, .none => .none
  | _, _, .bool b => .bool b
  | _, _, .int i t => .int i t
  | _, _, .str a b => .str a b
  | _, _, .tup e r l => .tup e (RelL.grow p hn r) l
  | _, _, .ref e => .ref (prefix_get p e)
  | _, _, .scr a b r => .scr a b (RelL.grow p hn r)
  | _, _, .exc e c d n => .exc e c d (hn _ _ _ _ e c d n)
theorem RelL.grow {P : Pl} {β β' : Bk} {h : Heap} (p : β <+: β') (hn : ∀ a o c vs, h.get? a = some o → o.cls = .ref (P.cls c) → o.data = .fields vs → a ∉ β → a ∉ β') : ∀ {v : List V} {x : List Value}, RelL P β h v x → RelL P β' h v x
  | _, _, .nil => .nil
  | _, _, .cons a b => .cons (Rel.grow p hn a) (RelL.grow p hn b)
end
theorem EntRel.grow {P : Pl} {β β' : Bk} {h : Heap} (p : β <+: β') (hn : ∀ a o c vs, h.get? a = some o → o.cls = .ref (P.cls c) → o.data = .fields vs → a ∉ β → a ∉ β') : ∀ {r : List (V × V)} {es : List DictEntry}, EntRel P β h r es → EntRel P β' h r es
  | _, _, .nil => .nil
  | _, _, .cons a b c r => .cons (a.grow p hn) (b.grow p hn) c (r.grow p hn)

/-- an object that is there is taken into the book -/
theorem Inv.adopt {P : Pl} {β : Bk} {μ : Mem} {h : Heap} {D : Addr} {o : O} {ob : Obj} (I : Inv P β μ h) (hD : D ∉ β) (h0 : P.h₀.get? D = none) (hob : h.get? D = some ob) (hnf : ∀ vs, ob.data ≠ .fields vs) (hr : ObjRel P (β ++ [D]) h o D) : Inv P (β ++ [D]) (μ ++ [o]) h := by
  have hn : ∀ a o c vs, h.get? a = some o → o.cls = .ref (P.cls c) → o.data = .fields vs → a ∉ β → a ∉ β ++ [D] := fun a o c vs e _ d n q => by
    rcases List.mem_append.mp q with q | q
    · exact n q
    · rw [List.mem_singleton.mp q, hob] at e; cases e; exact hnf vs d
  refine ⟨by simp [I.len], ?_, fun i o' a h1 h2 => ?_, I.base, fun a ha => ?_⟩
  · rw [List.nodup_append]
    refine ⟨I.nd, by simp, fun a ha b hb e => ?_⟩
    rw [List.mem_singleton.mp hb] at e
    exact hD (e ▸ ha)
  · by_cases hi : i < μ.length
    · rw [List.getElem?_append_left hi] at h1
      rw [List.getElem?_append_left (by rw [I.len]; exact hi)] at h2
      have r := I.obj i o' a h1 h2
      cases r with
      | list e r l => exact .list e (r.grow (List.prefix_append _ _) hn) l
      | dict e r l => exact .dict e (r.grow (List.prefix_append _ _) hn) l
      | inst e d => exact .inst e (prefix_get (List.prefix_append _ _) d)
    · have hi' : i = μ.length := by
        have := (List.getElem?_eq_some_iff.mp h1).1
        simp at this; omega
      subst hi'
      rw [List.getElem?_append_right (Nat.le_refl _)] at h1
      rw [← I.len, List.getElem?_append_right (Nat.le_refl _)] at h2
      simp at h1 h2
      rw [← h1, ← h2]; exact hr
  · rcases List.mem_append.mp ha with q | q
    · exact I.new a q
    · rw [List.mem_singleton.mp q]; exact h0
/-- a list that was made meanwhile is taken into the book -/
theorem Post.adopt {P : Pl} {β β' : Bk} {μ' : Mem} {s s' : Shared} {D : Addr} {xs : List V} {ys : Array Value} {k : Nat} (p : Post P β β' μ' s s') (hD : D ∉ β') (hDs : s.heap.get? D = none) (h0 : P.h₀.get? D = none) (hl : IsL s'.heap D ys k) (hr : RelL P β' s'.heap xs ys.toList) (hx : xs.length ≤ lim) :
    Post P β (β' ++ [D]) (μ' ++ [.list xs]) s s' := by
  have hn : ∀ a o c vs, s'.heap.get? a = some o → o.cls = .ref (P.cls c) → o.data = .fields vs → a ∉ β' → a ∉ β' ++ [D] := fun a o c vs e _ d n q => by
    rcases List.mem_append.mp q with q | q
    · exact n q
    · rw [List.mem_singleton.mp q, hl] at e; cases e; cases d
  refine ⟨p.st, p.inv.adopt hD h0 hl (by simp) (.list hl (hr.grow (List.prefix_append _ _) hn) hx), p.pre.trans (List.prefix_append _ _), p.keep, fun a ha hn => ?_⟩
  rcases List.mem_append.mp ha with q | q
  · exact p.fresh a q hn
  · rw [List.mem_singleton.mp q]; exact hDs

/-- names of a block that is gone are cleared -/
theorem PostS.scrap {P : Pl} {W : List Addr} {β β' : Bk} {μ' : Mem} {s s' : Shared} {C : Addr} {m : Str → Option Value} {h' : Heap} (p : PostS P W β β' μ' s s') (h0 : P.h₀.get? C = none) (hCs : s.heap.get? C = none) (hC : C ∉ β') (hn : s'.heap.Ns C m) (hs : Heap.SameBut C s'.heap h') :
    PostS P W β β' μ' s { s' with heap := h' } := by
  have k : ∀ a o, s'.heap.get? a = some o → a ≠ C → h'.get? a = some o := fun a o e q => (hs.2 a q).trans e
  have hW : ∀ o, s'.heap.get? C = some o → (∃ es n, o.data = .dict es n) ∨ ∃ v, o.data = .cell v := fun o e => by
    obtain ⟨o', es, n, e', d, _⟩ := hn
    rw [e] at e'; cases e'; exact .inl ⟨es, n, d⟩
  refine ⟨?_, ⟨p.inv.len, p.inv.nd, fun i o a h1 h2 => ?_, fun a o e => k a o (p.inv.base a o e) (fun q => by rw [q, h0] at e; cases e), p.inv.new⟩, p.pre, fun a o e n w => ?_, p.fresh⟩
  · obtain ⟨h1, t1, e1⟩ := p.st
    exact ⟨h', t1, by rw [e1]⟩
  · exact (p.inv.obj i o a h1 h2).but p.inv k hC hW fun q => hC (q ▸ List.mem_of_getElem? h2)
  · obtain ⟨o', e', ss⟩ := p.keep a o e n w
    exact ⟨o', k a o' e' (fun q => by rw [q, hCs] at e; cases e), ss⟩
theorem Post.toS {P : Pl} {β β' : Bk} {μ' : Mem} {s s' : Shared} (p : Post P β β' μ' s s') : PostS P [] β β' μ' s s' := p.own fun _ h => by cases h
theorem PostS.toP {P : Pl} {β β' : Bk} {μ' : Mem} {s s' : Shared} (p : PostS P [] β β' μ' s s') : Post P β β' μ' s s' :=
  ⟨p.st, p.inv, p.pre, fun a o e n => p.keep a o e n (by simp), fun a h n => (p.fresh a h n).1⟩
theorem IsL.scrap {h h' : Heap} {D C : Addr} {ys : Array Value} {k : Nat} (hl : IsL h D ys k) (hs : Heap.SameBut C h h') (hDC : D ≠ C) : IsL h' D ys k := (hs.2 D hDC).trans hl

section
variable {P : Pg} {B : Blk}

theorem envScrap {A : Around} {env : Env} {β : Bk} {ρ : Fr} {μ : Mem} {h h' : Heap} {C : Addr} {m : Str → Option Value} (x : EnvOk P B A env β ρ h) (I : Inv P.toPl β μ h) (hC : C ∉ β) (hCo : C ∉ own env) (hCf : ∀ l, A.frames = some l → ∀ e ∈ l, e.frame ≠ some C) (hCc : ∀ (i : Nat) (y : Str) (k : NameKind), B.tab[i]? = some (some (y, k)) → env.cells.lookup y ≠ some C) (hn : h.Ns C m) (hs : Heap.SameBut C h h') : EnvOk P B A env β ρ h' := by
  have k : ∀ a o, h.get? a = some o → a ≠ C → h'.get? a = some o := fun a o e q => (hs.2 a q).trans e
  have hW : ∀ o, h.get? C = some o → (∃ es n, o.data = .dict es n) ∨ ∃ v, o.data = .cell v := fun o e => by
    obtain ⟨o', es, n, e', d, _⟩ := hn
    rw [e] at e'; cases e'; exact .inl ⟨es, n, d⟩
  have kr : ∀ {v : V} {u : Value}, Rel P.toPl β h v u → Rel P.toPl β h' v u := fun r => r.but I k hC hW
  exact { x with
    ns := by
      obtain ⟨m, ⟨o, es, n', e, d, r⟩, hm⟩ := x.ns
      exact ⟨m, ⟨o, es, n', k _ o e fun q => hCo (q ▸ List.mem_cons_self), d, r⟩, fun i y v ht hv => let ⟨u, h1, h2⟩ := hm i y v ht hv; ⟨u, h1, kr h2⟩⟩
    cell := fun i y kk ht hk => by
      obtain ⟨c, u, h1, h2, h3, ⟨o, e, d⟩, h5⟩ := x.cell i y kk ht hk
      exact ⟨c, u, h1, h2, h3, ⟨o, k _ o e fun q => hCc i y kk ht (by rw [h1, q]), d⟩, fun v hv => let ⟨z, e1, e2⟩ := h5 v hv; ⟨z, e1, kr e2⟩⟩
    fr := by
      obtain ⟨fe, outer, h1, h2, h3⟩ := x.fr
      refine ⟨fe, outer, h1, h2, fun e he => ?_⟩
      obtain ⟨kk, L, o, g1, g2, g3, g4, es, n', g5⟩ := h3 e he
      exact ⟨kk, L, o, g1, g2, g3, k _ o g4 fun q => hCf _ h1 e he (by rw [g1, q]), es, n', g5⟩
    own := fun a ha => by
      obtain ⟨h1, h2, o, h3, h4⟩ := x.own a ha
      exact ⟨h1, h2, o, k _ o h3 fun q => hCo (q ▸ ha), h4⟩ }

theorem compCore {Bc : Blk} {scope : Scope} {locs : List Nat} {elt target iter : Expr} {ifs : List Expr} {pos pos' : Pos} {dI : DI} {bd : Bd} {dc : DT} {de : DE} (K : CompOk B Bc scope locs) (hI : SimI P B Bc iter target bd (fun env => [env.locals]) dI) (hc : SimIfs P Bc ifs dc) (he : SimE P Bc elt de)
    (hρ : ∀ v ρ ρ', bd v ρ = some ρ' → ∀ i w, ρ i = some w → ρ' i = some w) (hs : ∀ env x, foldedSetIterable iter env x = pure x)
    {n : Nat} {A : Around} {env : Env} {β : Bk} {ρ : Fr} {μ : Mem} {s : Shared} {use : Option (Value → Sem Unit)} {Q : Value → Shared → Prop} {E : Value → Shared → Prop} (X : At P B n A env β ρ μ s) (hb : dComp locs dI bd dc de (P.cx n) ρ μ ≠ .bad)
    (ok : ∀ D C s' xs μ' β' ys k m, dComp locs dI bd dc de (P.cx n) ρ μ = newL μ' xs → Post P.toPl β β' μ' s s' → IsL s'.heap D ys k → RelL P.toPl β' s'.heap xs ys.toList → xs.length ≤ lim → D ∉ β' → s.heap.get? D = none → P.h₀.get? D = none →
      s.heap.get? C = none → P.h₀.get? C = none → C ∉ β' → D ≠ C → s'.heap.Ns C m → compPost P.M A E use Q (.ref D) C (.ok .next) s')
    (ex : ∀ x s', ExE P.toPl env.frame β s (dComp locs dI bd dc de (P.cx n) ρ μ) x s' → E x s') :
    wpAny P.M A (comprehension (.ListComp elt [⟨target, iter, ifs, 0⟩] scope pos) scope env pos' (newList []) false (eval iter env) use) Q E s := by
  have hnb : dI (P.cx n) ρ μ ≠ .bad := fun q => hb (by simp only [dComp, q]; rfl)
  have hfree : ∀ y, (y, NameKind.free) ∈ scope.names → ∃ c, env.cells.lookup y = some c := fun y hy => by
    obtain ⟨i, k, h1, h2⟩ := K.free y hy
    obtain ⟨c, _, h3, _⟩ := X.env.cell i y k h1 h2
    exact ⟨c, h3⟩
  have noh0 : ∀ a, s.heap.get? a = none → P.h₀.get? a = none := fun a h => by
    cases e : P.h₀.get? a with
    | none => rfl
    | some o => rw [X.inv.base _ _ e] at h; cases h
  refine wpAny_comprehension_free (use := use) rfl (hs env) (closure_of hfree) K.kind K.names ?_
  refine hI n A env β ρ μ s _ _ X hnb (fun t μ₁ β₁ s₁ I vol St e₁ p₁ T st hv => ?_) fun x s' q => ?_
  · have e : dComp locs dI bd dc de (P.cx n) ρ μ = (if locs.all (fun i => (ρ i).isNone) then (compS t.chk bd dc de (P.cx n) ρ t.items μ₁ []).bind fun xs μ => newL μ xs else .bad) := by simp only [dComp, e₁]; rfl
    have hl : locs.all (fun i => (ρ i).isNone) = true := by
      by_cases q : locs.all (fun i => (ρ i).isNone) = true
      · exact q
      · rw [e, if_neg q] at hb; exact absurd rfl hb
    rw [e, if_pos hl] at hb ok
    have X₁ := X.post p₁
    refine wpAny_newList ?_
    have p₂ : Post P.toPl β₁ β₁ μ₁ s₁ { s₁ with heap := s₁.heap.push { cls := .type "list", data := .seq ([] : List Value).toArray }, toks := s₁.toks } := Post.other X₁.inv s₁.toks fun a o e => Heap.get?_push_of_some _ e
    have hD₂ := Heap.get?_push_size s₁.heap (o := { cls := .type "list", data := .seq ([] : List Value).toArray }) rfl
    have hDn : s₁.heap.get? s₁.heap.objs.size = none := get_size _
    generalize hDe : s₁.heap.objs.size = D at *
    have X₂ := X₁.post p₂
    generalize hH2 : s₁.heap.push { cls := .type "list", data := .seq ([] : List Value).toArray } = H2 at p₂ X₂ hD₂ ⊢
    refine wpAny_newFunctionEnv K.nocell (by intro y hy; simp at hy) (fun h₃ hn₃ hsb₃ => ?_) K.kind
    dsimp only at hn₃ hsb₃ X₂ p₂ ⊢
    have hCn : H2.get? H2.objs.size = none := get_size _
    have k₃ : ∀ a o, H2.get? a = some o → h₃.get? a = some o := fun a o e => (hsb₃.2 a fun q => by rw [q, hCn] at e; cases e).trans (Heap.get?_push_of_some _ e)
    have p₃ : Post P.toPl β₁ β₁ μ₁ { s₁ with heap := H2, toks := s₁.toks } { s₁ with heap := h₃, toks := s₁.toks + ([] : List (Str × Value)).length } := Post.other (s := { s₁ with heap := H2, toks := s₁.toks }) X₂.inv _ k₃
    generalize hCe : H2.objs.size = C at *
    have hCn₁ : s₁.heap.get? C = none := p₂.back hCn
    have nb : ∀ {a : Addr}, s₁.heap.get? a = none → a ∉ β₁ := fun h q => by
      obtain ⟨ob, e, _⟩ := X₁.inv.there q
      rw [h] at e; cases e
    have hDC : D ≠ C := fun q => by rw [← q, hD₂] at hCn; cases hCn
    have envc := compEnv_ok (P := P) (A := A) K X₂.env hl hn₃ hCn (nb hCn₁) (noh0 _ (p₁.back hCn₁)) k₃ (fun {v u} r => (Rel.post X₂.inv p₃ r : Rel P.toPl β₁ h₃ v u))
    have X₃ : At P Bc n A (compEnvC scope (clOf env scope.names []) C env) β₁ ρ μ₁ { s₁ with heap := h₃, toks := s₁.toks + ([] : List (Str × Value)).length } := ⟨X.good, X.call, X.room, envc, p₃.inv⟩
    have hvv : ∀ a ∈ vol, ∃ o, s₁.heap.get? a = some o := fun a ha => let ⟨o, e, _⟩ := T.here _ _ _ st a ha; ⟨o, e⟩
    have hownc : ∀ a ∈ own (compEnvC scope (clOf env scope.names []) C env), a = C ∨ a ∈ own env := fun a ha => by
      rcases List.mem_cons.mp ha with h | h
      · exact .inl h
      · obtain ⟨q, hq, rfl⟩ := List.mem_map.mp h
        exact .inr (List.mem_cons_of_mem _ (lookup_mem_snd (clOf_mem scope.names [] hfree (by simp) q hq)))
    have hvol : ∀ a ∈ vol, a ∉ own (compEnvC scope (clOf env scope.names []) C env) ∧ a ∉ β₁ ∧ P.h₀.get? a = none := fun a ha => by
      refine ⟨fun q => ?_, (hv a ha).2, noh0 _ (hv a ha).1⟩
      rcases hownc a q with rfl | q
      · obtain ⟨o, e⟩ := hvv a ha
        rw [hCn₁] at e; cases e
      · exact X.env.live a q (hv a ha).1
    have p13 := p₂.trans p₃
    have st₃ : St 0 β₁ h₃ := T.stay 0 β₁ β₁ μ₁ μ₁ s₁ _ [] st X₁.inv (fun a ha => by cases ha) p13.toS fun a ha => ⟨by simp, (hv a ha).2⟩
    have hDl : D ∉ own (compEnvC scope (clOf env scope.names []) C env) := fun q => by
      rcases hownc D q with q | q
      · exact hDC q
      · exact X₁.env.live D q hDn
    have acc₃ : Acc P D vol (compEnvC scope (clOf env scope.names []) C env) β₁ [] h₃ := ⟨⟨nb hDn, (fun q => by
      obtain ⟨o, e⟩ := hvv D q
      rw [hDn] at e; cases e), hDl, noh0 _ (p₁.back hDn)⟩, ⟨_, _, k₃ _ _ hD₂, .nil⟩, by simp⟩
    have loop : codeAny P.M A (.compLoop (.ListComp elt [⟨target, iter, ifs, 0⟩] scope pos) 0 (.ref I) (.ref D) (compEnvC scope (clOf env scope.names []) C env)) (compPost P.M A E use Q (.ref D) C) { s₁ with heap := h₃, toks := s₁.toks + ([] : List (Str × Value)).length } := by
      refine compTurns (R := compPost P.M A E use Q (.ref D) C) T [C] (fun a h => h) (fun a h => List.mem_cons.mpr (.inl (List.mem_singleton.mp h))) hc he (fun v ρ' h => hρ v ρ ρ' h) t.items 0 β₁ μ₁ _ [] (Nat.zero_le _) rfl X₃ hvol st₃ acc₃ (fun q => hb (by rw [q]; rfl)) fun s' xs μ' β' q1 q2 q3 ⟨m, q4⟩ => ?_
      obtain ⟨ys, k, g1, g2⟩ := q3.obj
      rw [q1] at ok
      have pA : Post P.toPl β β₁ μ₁ s { s₁ with heap := h₃, toks := s₁.toks + ([] : List (Str × Value)).length } := p₁.trans p13
      have pB : PostS P.toPl [] β β' μ' s s' := PostS.drop (V := [D] ++ (vol ++ [C])) pA (fun a ha => by
        rcases List.mem_append.mp ha with h | h
        · rw [List.mem_singleton.mp h]; exact p₁.back hDn
        · rcases List.mem_append.mp h with h | h
          · exact (hv a h).1
          · rw [List.mem_singleton.mp h]; exact p₁.back hCn₁) (fun a ha => by cases ha) (by rw [List.append_nil]; exact q2)
      have hCb : C ∉ β' := fun q => by
        by_cases q' : C ∈ β₁
        · exact nb hCn₁ q'
        · exact (q2.fresh C q q').2 (by simp [compEnvC])
      exact ok D C s' xs μ' β' ys k m rfl pB.toP g1 g2 q3.len q3.out.1 (p₁.back hDn) (noh0 _ (p₁.back hDn)) (p₁.back hCn₁) (noh0 _ (p₁.back hCn₁)) hCb hDC q4
    exact codeAny_compStart_list loop (T.self 0 β₁ _ _ _ st₃ loop)
  · obtain ⟨c, μ', β', q1, q2, q3⟩ := q
    exact ex x s' ⟨c, μ', β', by simp only [dComp, q1]; rfl, q2, q3⟩

theorem SimE.comp {Bc : Blk} {scope : Scope} {locs : List Nat} {elt target iter : Expr} {ifs : List Expr} {pos : Pos} {dI : DI} {bd : Bd} {dc : DT} {de : DE} (K : CompOk B Bc scope locs) (hI : SimI P B Bc iter target bd (fun env => [env.locals]) dI) (hc : SimIfs P Bc ifs dc) (he : SimE P Bc elt de)
    (hρ : ∀ v ρ ρ', bd v ρ = some ρ' → ∀ i w, ρ i = some w → ρ' i = some w) (hs : ∀ env x, foldedSetIterable iter env x = pure x) :
    SimE P B (.ListComp elt [⟨target, iter, ifs, 0⟩] scope pos) (dComp locs dI bd dc de) := fun n A env β ρ μ s X hb => by
  rw [eval_ListComp]
  refine compCore K hI hc he hρ hs X hb (fun D C s' xs μ' β' ys k m e p hl hr hx hDb hDs hD0 hCs hC0 hCb hDC hn => ?_) fun x s' q => q
  refine ⟨m, hn, fun h' hsb => ?_⟩
  have p' := (p.toS.scrap hC0 hCs hCb hn hsb).toP
  have hr' : RelL P.toPl β' h' xs ys.toList := hr.but p.inv (fun a o e q => (hsb.2 a q).trans e) hCb fun o e => by
    obtain ⟨o', es, n, e', d, _⟩ := hn
    rw [e] at e'; cases e'; exact .inl ⟨es, n, d⟩
  have hl' : IsL h' D ys k := IsL.scrap hl hsb hDC
  rw [e]
  refine ⟨.ref μ'.length, μ' ++ [.list xs], β' ++ [D], by simp only [newL, hx, if_true], Post.adopt (s' := { s' with heap := h' }) p' hDb hDs hD0 hl' hr' hx, .ref ?_⟩
  rw [← p.inv.len, List.getElem?_append_right (Nat.le_refl _)]; simp
end
end
end Mine
end
section
set_option autoImplicit false
namespace Mine
noncomputable section
open PySem PyProof.Rows PySem.SeqAt

/-- whether a comprehension's value is stored ahead of its names' end -/
noncomputable def swB (e : Expr) (x : Str) (p : Pos) (l : Nat) (sc : Scope) : Bool := match e with
  | .ListComp _ _ s _ | .SetComp _ _ s _ | .DictComp _ _ _ s _ => (if sc.kind.isAnnotationScope then ScopeKind.function else sc.kind) == .function && sc.names.lookup x == some .local && p.line == e.pos.line
      && !(s.names.any fun (n, k) => n == x && (k == .local || k == .cell))
  | _ => false
theorem swB_eq {e : Expr} {x : Str} {p : Pos} {l : Nat} {env : Env} {sc : Scope} (h : env.scope = sc) : swapsWith e (some (.Name x p)) l env = pure (swB e x p l sc) := by
  subst h
  cases e <;> first | rfl

section
variable {P : Pg} {B : Blk}
theorem SimX.setG {i : Nat} {x : Str} {k : NameKind} {e : Expr} {d : DE} {p pos : Pos} (ht : B.tab[i]? = some (some (x, k))) (hk : k = .local ∨ k = .cell) (hw : swB e x p pos.line B.sc = false) (h : SimE P B e d) :
    SimX P B (.Assign [.Name x p] e pos) (sSet i d) := fun n A env β ρ μ s X hb => by
  refine wpAny_Assign_Name (useES h X hb (fun v μ₁ β₁ u s₁ e₁ p₁ r₁ hb₁ X₁ => ?_) fun u s₁ q => q) (by rw [swB_eq X.env.sc, hw])
  refine store_ok X₁ ht hk r₁ fun s' p' he => .inl ⟨ρ.set i v, μ₁, β₁, by simp only [sSet, e₁]; rfl, rfl, (p₁.own X.env.live).trans p', he⟩

theorem lookup_own {env : Env} {y : Str} {c : Addr} (h : env.cells.lookup y = some c) : c ∈ own env := List.mem_cons_of_mem _ (lookup_mem_snd h)

theorem SimX.setComp {i : Nat} {x : Str} {px spos : Pos} {Bc : Blk} {scope : Scope} {locs : List Nat} {elt target iter : Expr} {ifs : List Expr} {pos : Pos} {dI : DI} {bd : Bd} {dc : DT} {de : DE} (ht : B.tab[i]? = some (some (x, .local))) (hw : swB (.ListComp elt [⟨target, iter, ifs, 0⟩] scope pos) x px spos.line B.sc = true)
    (K : CompOk B Bc scope locs) (hI : SimI P B Bc iter target bd (fun env => [env.locals]) dI) (hc : SimIfs P Bc ifs dc) (he : SimE P Bc elt de)
    (hρ : ∀ v ρ ρ', bd v ρ = some ρ' → ∀ i w, ρ i = some w → ρ' i = some w) (hs : ∀ env x, foldedSetIterable iter env x = pure x) :
    SimX P B (.Assign [.Name x px] (.ListComp elt [⟨target, iter, ifs, 0⟩] scope pos) spos) (sSet i (dComp locs dI bd dc de)) := fun n A env β ρ μ s X hb => by
  have hnb : dComp locs dI bd dc de (P.cx n) ρ μ ≠ .bad := fun q => hb (by simp only [sSet, q]; rfl)
  rw [exec_Assign_Name_used _ _ _ _ (by rw [swB_eq X.env.sc, hw])]
  refine wpAny_bind (wpAny_standAt (wpAny_bind ?_))
  show wpAny _ A (do let _ ← comprehension (.ListComp elt [⟨target, iter, ifs, 0⟩] scope pos) scope env _ (newList []) false (eval iter env) (some (assign (.Name x px) env))) _ _ s
  refine wpAny_bind (wpAny_mono (compCore (Q := fun _ s' => OkS P B A env β s (sSet i (dComp locs dI bd dc de) (P.cx n) ρ μ) .next s') (E := ExS P B A env β s (sSet i (dComp locs dI bd dc de) (P.cx n) ρ μ)) (use := some (assign (.Name x px) env)) K hI hc he hρ hs X hnb (fun D C s' xs μ' β' ys k m e p hl hr hx hDb hDs hD0 hCs hC0 hCb hDC hn => ?_) fun x s' q => ?_) (fun _ s' hq => wpAny_pure (wpAny_pure hq)) fun _ _ e => e)
  · have pA := p.adopt hDb hDs hD0 hl hr hx
    have XA := X.post pA
    have hCo : C ∉ own env := fun q => X.env.live C q hCs
    show wpAny _ A (assign (.Name x px) env (.ref D)) _ _ s'
    refine wpAny_assign_Name (store_at XA ht (.inl rfl) (v := .ref μ'.length) (.ref (by rw [← p.inv.len, List.getElem?_append_right (Nat.le_refl _)]; simp)) fun s₂ p₂ he₂ => ?_)
    have hCA : C ∉ β' ++ [D] := fun q => by
      rcases List.mem_append.mp q with q | q
      · exact hCb q
      · exact hDC (List.mem_singleton.mp q).symm
    obtain ⟨oC, esC, nC, eC, dC, rC⟩ := id hn
    obtain ⟨o₂, e₂, ss⟩ := p₂.keep C oC eC hCA fun q => hCo (tgt_sub C q)
    have hn₂ : s₂.heap.Ns C m := ⟨o₂, esC, nC, e₂, ss.data.trans dC, rC⟩
    refine ⟨m, hn₂, fun h' hsb => .inl ⟨ρ.set i (.ref μ'.length), μ' ++ [.list xs], β' ++ [D], ?_, rfl, ?_, ?_⟩⟩
    · simp only [sSet, e, newL, hx, if_true]; rfl
    · have pW : PostS P.toPl (own env) β (β' ++ [D]) (μ' ++ [.list xs]) s s₂ := (pA.own X.env.live).trans (p₂.weaken tgt_sub fun a ha hn => absurd ha hn)
      exact pW.scrap hC0 hCs hCA hn₂ hsb
    · refine envScrap he₂ p₂.inv hCA hCo (fun l hl e he q => ?_) (fun j y k ht' q => ?_) hn₂ hsb
      · obtain ⟨fe, outer, f1, f2, f3⟩ := X.env.fr
        rw [hl] at f1; cases f1
        obtain ⟨_, L, o, g1, _, _, g4, _⟩ := f3 e he
        rw [g1] at q; cases q
        rw [hCs] at g4; cases g4
      · exact hCo (lookup_own q)
  · obtain ⟨c, μ', β', q1, q2, q3⟩ := q
    exact ⟨c, ρ, μ', β', by simp only [sSet, q1]; rfl, q2.own X.env.live, q3, X.env.post X.inv q2⟩
end
end
end Mine
end
section
set_option autoImplicit false
namespace Mine
noncomputable section
open PySem PyProof.Rows PySem.SeqAt

/-- the built-in classes that isinstance is asked about -/
inductive BT where
  | list | bool | int | str | tuple
noncomputable def BT.id : BT → String
  | .list => "list" | .bool => "bool" | .int => "int" | .str => "str" | .tuple => "tuple"
noncomputable def BT.nm (T : BT) : Str := Str.ofString T.id
noncomputable def isT (T : BT) (μ : Mem) : V → Option Bool
  | .none => some false
  | .bool _ => some (match T with | .bool | .int => true | _ => false)
  | .int _ => some (match T with | .int => true | _ => false)
  | .str _ => some (match T with | .str => true | _ => false)
  | .tup _ => some (match T with | .tuple => true | _ => false)
  | .scr _ => some (match T with | .list => true | _ => false)
  | .ref a => match μ[a]? with
    | some (.list _) => some (match T with | .list => true | _ => false)
    | some (.dict _) => some false
    | _ => Option.none
  | .exc _ => Option.none
noncomputable def bIsi (T : BT) (μ : Mem) (v : V) : R V := (R.opt μ (isT T μ v)).bind fun b μ => .ok (.bool b) μ
noncomputable def bList (μ : Mem) : V → R V
  | .tup xs => newL μ xs
  | .ref a => match μ[a]? with
    | some (.list xs) => newL μ xs
    | _ => .bad
  | .scr ns => newL μ (ns.map V.int)
  | _ => .bad
noncomputable def bTuple (μ : Mem) : V → R V
  | .tup xs => newT μ xs
  | .ref a => match μ[a]? with
    | some (.list xs) => newT μ xs
    | _ => .bad
  | _ => .bad
noncomputable def truths (μ : Mem) : List V → Option (List Bool)
  | [] => some []
  | v :: r => match truth μ v, truths μ r with
    | some b, some bs => some (b :: bs)
    | _, _ => Option.none
noncomputable def bAny (μ : Mem) : V → R V
  | .ref a => match μ[a]? with
    | some (.list xs) => (R.opt μ (truths μ xs)).bind fun bs μ => .ok (.bool (bs.any _root_.id)) μ
    | _ => .bad
  | _ => .bad
noncomputable def bAll (μ : Mem) : V → R V
  | .ref a => match μ[a]? with
    | some (.list xs) => (R.opt μ (truths μ xs)).bind fun bs μ => .ok (.bool (bs.all _root_.id)) μ
    | _ => .bad
  | _ => .bad

section
variable {P : Pg} {B : Blk}

theorem OkE.toks {β : Bk} {μ : Mem} {s : Shared} {v : V} {x : Value} (I : Inv P.toPl β μ s.heap) (tk : Nat) (r : Rel P.toPl β s.heap v x) : OkE P.toPl β s (.ok v μ) x { s with toks := tk } :=
  ⟨v, μ, β, rfl, Post.toks I tk, r⟩
theorem lim63 {k : Nat} (h : k ≤ lim) : (k : Int) < 2 ^ 63 := by
  have : lim = 1000000 := rfl
  omega

theorem RelL.size {β : Bk} {h : Heap} {xs : List V} {vs : Array Value} (r : RelL P.toPl β h xs vs.toList) : vs.size = xs.length := by
  have := r.length; simp at this; exact this.symm

theorem len_ok : B1Ok P (.builtin "len") bLen := fun A β μ s a x L hu hh I r hb => by
  cases r with
  | none => exact absurd rfl hb
  | bool => exact absurd rfl hb
  | int => exact absurd rfl hb
  | exc => exact absurd rfl hb
  | @str x t h1 h2 => exact PySem.P.len_str (by have := lim63 h2; omega) (OkE.toks I _ (.int _ _))
  | @tup a vs n xs e r l =>
    have hz := RelL.size r
    refine PySem.P.len_tuple e (by have := lim63 (hz ▸ l); omega) ?_
    have h := OkE.toks (x := .int vs.size (s.toks + 1)) I (s.toks + 1 + 1) (.int (vs.size : Int) (s.toks + 1))
    simp only [bLen]; rw [← hz]; exact h
  | @scr a items ns h1 h2 h3 =>
    have hz := RelL.size h3
    obtain ⟨o, e, c⟩ := h1
    refine Calls.call_len_list ⟨o, I.base _ _ e, c⟩ (lim63 h2) ?_
    have h := OkE.toks (x := .int items.size (s.toks + 1)) I (s.toks + 1 + 1) (.int (items.size : Int) (s.toks + 1))
    simp only [bLen]
    rw [hz] at h ⊢; simpa using h
  | @ref i l e =>
    simp only [bLen] at hb ⊢
    cases hm : μ[i]? with
    | none => rw [hm] at hb; exact absurd rfl hb
    | some o =>
      have ro := I.obj i _ l hm e
      rw [hm] at hb
      cases ro with
      | dict => exact absurd rfl hb
      | inst => exact absurd rfl hb
      | @list _ vs n xs a1 a2 a3 =>
        have hz := RelL.size a2
        refine Calls.call_len_list ⟨_, a1, rfl, n, rfl⟩ (lim63 (hz ▸ a3)) ?_
        have h := OkE.toks (x := .int vs.size (s.toks + 1)) I (s.toks + 1 + 1) (.int (vs.size : Int) (s.toks + 1))
        simp only []
        rw [← hz]; exact h

theorem isi_list {A : Around} {s : Shared} {E : Value → Shared → Prop} {a : Addr} {o : Obj} (T : BT) {Q : Value → Shared → Prop} (e : s.heap.get? a = some o) (hc : o.cls = .type "list") (h : ∀ tk, Q (.bool (match T with | .list => true | _ => false)) { s with toks := tk }) : wpAny P.M A (PySem.call (.builtin "isinstance") [.ref a, .type T.id]) Q E s := by
  cases T with
  | list => exact IsiPair.list_list e hc (h s.toks)
  | bool => exact IsiPair.list_bool e hc (h _)
  | int => exact IsiPair.list_int e hc (h _)
  | str => exact IsiPair.list_str e hc (h _)
  | tuple => exact IsiPair.list_tuple e hc (h _)
theorem isi_ok {A : Around} {β : Bk} {μ : Mem} {s : Shared} {E : Value → Shared → Prop} {v : V} {x : Value} {b : Bool} (T : BT) {Q : Value → Shared → Prop} (I : Inv P.toPl β μ s.heap) (r : Rel P.toPl β s.heap v x) (hb : isT T μ v = some b) (h : ∀ tk, Q (.bool b) { s with toks := tk }) : wpAny P.M A (PySem.call (.builtin "isinstance") [x, .type T.id]) Q E s := by
  cases r with
  | exc => cases hb
  | none =>
    cases T <;> cases hb
    · exact IsiPair.NoneType_list (h _)
    · exact IsiPair.NoneType_bool (h _)
    · exact IsiPair.NoneType_int (h _)
    · exact IsiPair.NoneType_str (h _)
    · exact IsiPair.NoneType_tuple (h _)
  | bool =>
    cases T <;> cases hb
    · exact IsiPair.bool_list (h _)
    · exact IsiPair.bool_bool (h s.toks)
    · exact IsiPair.bool_int (h s.toks)
    · exact IsiPair.bool_str (h _)
    · exact IsiPair.bool_tuple (h _)
  | int =>
    cases T <;> cases hb
    · exact IsiPair.int_list (h _)
    · exact IsiPair.int_bool (h _)
    · exact IsiPair.int_int (h s.toks)
    · exact IsiPair.int_str (h _)
    · exact IsiPair.int_tuple (h _)
  | str =>
    cases T <;> cases hb
    · exact IsiPair.str_list (h _)
    · exact IsiPair.str_bool (h _)
    · exact IsiPair.str_int (h _)
    · exact IsiPair.str_str (h s.toks)
    · exact IsiPair.str_tuple (h _)
  | tup e =>
    cases T <;> cases hb
    · exact IsiPair.tuple_list e rfl (h _)
    · exact IsiPair.tuple_bool e rfl (h _)
    · exact IsiPair.tuple_int e rfl (h _)
    · exact IsiPair.tuple_str e rfl (h _)
    · exact IsiPair.tuple_tuple e rfl (h s.toks)
  | scr h1 =>
    obtain ⟨o, e, c, _⟩ := h1
    simp only [isT, Option.some.injEq] at hb
    subst hb
    exact isi_list T (I.base _ _ e) c h
  | @ref i l e =>
    simp only [isT] at hb
    cases hm : μ[i]? with
    | none => rw [hm] at hb; cases hb
    | some o =>
      have ro := I.obj i _ l hm e
      rw [hm] at hb
      cases ro with
      | inst => cases hb
      | list a1 _ _ =>
        simp only [Option.some.injEq] at hb
        subst hb
        exact isi_list T a1 rfl h
      | dict a1 _ _ =>
        cases T <;> cases hb
        · exact IsiPair.dict_list a1 rfl (h _)
        · exact IsiPair.dict_bool a1 rfl (h _)
        · exact IsiPair.dict_int a1 rfl (h _)
        · exact IsiPair.dict_str a1 rfl (h _)
        · exact IsiPair.dict_tuple a1 rfl (h _)

theorem BT.mem (T : BT) : T.nm ∈ bnames ∧ bootBuiltins T.nm = some (.type T.id) ∧ (T.nm == ("__debug__" : Str)) = false := by cases T <;> refine ⟨by decide, by decide, by decide⟩

theorem SimE.isi {e : Expr} {d : DE} (T : BT) {p q pos : Pos} (hx : B.sc.names.lookup (Str.ofString "isinstance") = some .globalImplicit) (hT : B.sc.names.lookup T.nm = some .globalImplicit) (hp : plainArgs [e, .Name T.nm q] = true)
    (hn : ∀ env, starEach [e, .Name T.nm q] env = [(false, eval e env), (false, eval (.Name T.nm q) env)]) (h : SimE P B e d) : SimE P B (.Call (.Name (Str.ofString "isinstance") p) [e, .Name T.nm q] [] pos) (dB1 (bIsi T) d) := fun n A env β ρ μ s X hb => by
  obtain ⟨m1, m2, m3⟩ := T.mem
  refine Call_Name rfl (X.blt hx (by decide) (by decide) (v := .builtin "isinstance") (by decide) ?_)
  refine callWith_plain (fun _ q => by cases q) (plain_trees hp) ?_
  refine wpAny_items_cons (useE h X hb (fun a μ₁ β₁ u s₁ e₁ p₁ r₁ hb₁ X₁ => ?_) fun u s₁ q => q) (hn env)
  refine wpAny_items_cons (X₁.blt hT m3 m1 m2 ?_) rfl
  refine wpAny_items_nil ?_
  have e : dB1 (bIsi T) d (P.cx n) ρ μ = bIsi T μ₁ a := by simp only [dB1, e₁]; rfl
  rw [e]
  cases hi : isT T μ₁ a with
  | none => simp only [bIsi, hi] at hb₁; exact absurd rfl hb₁
  | some b =>
    refine isi_ok T X₁.inv r₁ hi fun tk => ?_
    simp only [bIsi, hi]
    exact OkE.after p₁ (OkE.toks X₁.inv tk (.bool b))

theorem list_new_ok {A : Around} {β : Bk} {μ : Mem} {s : Shared} {E : Value → Shared → Prop} {it : Addr} {o : Obj} {T : String} {items : Array Value} {n : Nat} {xs : List V} (hT : T = "list" ∨ T = "tuple") (I : Inv P.toPl β μ s.heap) (e : s.heap.get? it = some o) (hc : o.cls = .type T) (hd : o.data = .seq items n) (r : RelL P.toPl β s.heap xs items.toList) (hx : xs.length ≤ lim) :
    wpAny P.M A (PySem.call (.type "list") [.ref it]) (OkE P.toPl β s (newL μ xs)) E s := by
  have hz := RelL.size r
  refine call_list_seq it hT e hc hd (fun h' c' hk hn => ?_) (lim_line (hz ▸ hx))
  have p : Post P.toPl β β μ s { s with heap := h', toks := s.toks } := Post.other I s.toks hk
  have nb : s.heap.objs.size ∉ β := fun q => by
    obtain ⟨ob, e, _⟩ := I.there q
    rw [get_size] at e; cases e
  have h0 : P.h₀.get? s.heap.objs.size = none := by
    cases e : P.h₀.get? s.heap.objs.size with
    | none => rfl
    | some o => exact absurd (I.base _ _ e) (by rw [get_size]; simp)
  refine ⟨.ref μ.length, μ ++ [.list xs], β ++ [s.heap.objs.size], by simp only [newL, hx, if_true], Post.adopt p nb (get_size _) h0 hn (r.post I p) hx, .ref ?_⟩
  rw [← I.len, List.getElem?_append_right (Nat.le_refl _)]; simp

theorem list_ok : B1Ok P (.type "list") bList := fun A β μ s a x L hu hh I r hb => by
  cases r with
  | none => exact absurd rfl hb
  | bool => exact absurd rfl hb
  | int => exact absurd rfl hb
  | exc => exact absurd rfl hb
  | str => exact absurd rfl hb
  | tup e r l => exact list_new_ok (.inr rfl) I e rfl rfl r l
  | @scr a items ns h1 h2 h3 =>
    have hz := RelL.size h3
    obtain ⟨o, e, c, n, hd⟩ := h1
    exact list_new_ok (.inl rfl) I (I.base _ _ e) c hd h3 (hz ▸ h2)
  | @ref i l e =>
    simp only [bList] at hb ⊢
    cases hm : μ[i]? with
    | none => rw [hm] at hb; exact absurd rfl hb
    | some o =>
      have ro := I.obj i _ l hm e
      rw [hm] at hb
      cases ro with
      | dict => exact absurd rfl hb
      | inst => exact absurd rfl hb
      | list a1 a2 a3 => exact list_new_ok (.inl rfl) I a1 rfl rfl a2 a3

theorem truth_any {A : Around} {β : Bk} {μ : Mem} {h : Heap} {s : Shared} {v : V} {x : Value} {t : Bool} {Q : Bool → Shared → Prop} {E : Value → Shared → Prop} (r : Rel P.toPl β h v x) (ht : truth μ v = some t)
    (k : Q t s) : wpAny P.M A (truthy x) Q E s := by
  cases r with
  | none => exact truth_ok (β := β) .none ht k
  | bool b => exact truth_ok (β := β) (.bool b) ht k
  | int i t => exact truth_ok (β := β) (.int i t) ht k
  | str => cases ht
  | tup => cases ht
  | ref => cases ht
  | scr => cases ht
  | exc => cases ht

theorem truths_get {μ : Mem} : ∀ {xs : List V} {bs : List Bool}, truths μ xs = some bs → xs.length = bs.length ∧ ∀ (i : Nat) (v : V), xs[i]? = some v → ∃ b, bs[i]? = some b ∧ truth μ v = some b
  | [], bs, h => by cases h; exact ⟨rfl, fun i v e => by cases e⟩
  | v :: r, bs, h => by
    simp only [truths] at h
    split at h
    · rename_i b bs' h1 h2
      cases h
      obtain ⟨i1, i2⟩ := truths_get h2
      refine ⟨by simp [i1], fun i u e => ?_⟩
      cases i with
      | zero => simp at e; subst e; exact ⟨b, rfl, h1⟩
      | succ i => simp at e; obtain ⟨c, c1, c2⟩ := i2 i u e; exact ⟨c, by simpa using c1, c2⟩
    · cases h

theorem range_getD (bs : List Bool) : (List.range bs.length).map (fun i => bs[i]?.getD false) = bs := by
  apply List.ext_getElem
  · simp
  · intro i h1 h2
    simp [List.getElem?_eq_getElem h2]
theorem range_any (bs : List Bool) : (List.range bs.length).any (fun i => bs[i]?.getD false) = bs.any _root_.id := by
  conv => rhs; rw [← range_getD bs]
  rw [List.any_map]; rfl
theorem any_ok : B1Ok P (.builtin "any") bAny := fun A β μ s a x L hu hh I r hb => by
  cases r <;> first | exact absurd rfl hb | skip
  rename_i i l e
  simp only [bAny] at hb ⊢
  cases hm : μ[i]? with
  | none => rw [hm] at hb; exact absurd rfl hb
  | some o =>
    have ro := I.obj i _ l hm e
    rw [hm] at hb
    cases ro with
    | dict => exact absurd rfl hb
    | inst => exact absurd rfl hb
    | @list _ vs n xs a1 a2 a3 =>
      simp only at hb ⊢
      cases ht : truths μ xs with
      | none => rw [ht] at hb; exact absurd rfl hb
      | some bs =>
        have hz := RelL.size a2
        obtain ⟨t1, t2⟩ := truths_get ht
        refine call_any_walk (wpAny_pyIter_list ⟨_, a1, rfl, n, rfl⟩ ?_)
        have hne : l ≠ s.heap.objs.size := fun q => by rw [q, get_size] at a1; cases a1
        refine ⟨_, _, _, _, _, _, fun i => bs[i]?.getD false, rfl, Walks.list (A := A.in1) hh s.heap.objs.size l hne vs, ⟨⟨_, Heap.get?_push_size _ rfl, rfl, rfl⟩, ⟨_, Heap.get?_push_of_some _ a1, rfl, n, rfl⟩⟩, fun i v s' Q E hv hq => ?_, fun h' tk hk => ?_⟩
        · have hi : i < xs.length := by
            have := (Array.getElem?_eq_some_iff.mp hv).1
            omega
          obtain ⟨b, b1, b2⟩ := t2 i xs[i] (List.getElem?_eq_getElem hi)
          obtain ⟨u, u1, u2⟩ := a2.get (List.getElem?_eq_getElem hi)
          have : v = u := by
            rw [Array.getElem?_toList] at u1
            rw [hv] at u1; cases u1; rfl
          subst this
          simp only [b1, Option.getD_some] at hq
          exact truth_any u2 b2 hq
        · have : (List.range vs.size).any (fun i => bs[i]?.getD false) = bs.any _root_.id := by rw [hz, t1]; exact range_any bs
          rw [this]
          refine ⟨.bool (bs.any _root_.id), μ, β, rfl, ?_, .bool _⟩
          exact Post.other I tk fun a o e => hk a o (fun q => by rw [List.mem_singleton.mp q, get_size] at e; cases e) (Heap.get?_push_of_some _ e)


end
end
end Mine
end
section
set_option autoImplicit false
namespace Mine
noncomputable section
open PySem PyProof.Rows PySem.SeqAt

/-- the built-in classes whose methods are called -/
inductive MK where
  | list | str | tuple | dict
noncomputable def MK.id : MK → String
  | .list => "list" | .str => "str" | .tuple => "tuple" | .dict => "dict"
noncomputable def hasK (μ : Mem) (v : V) : MK → Bool
  | .list => match v with
    | .ref a => match μ[a]? with | some (.list _) => true | _ => false
    | _ => false
  | .dict => match v with
    | .ref a => match μ[a]? with | some (.dict _) => true | _ => false
    | _ => false
  | .str => match v with | .str _ => true | _ => false
  | .tuple => match v with | .tup _ => true | _ => false
/-- a method of one argument -/
noncomputable def dM1 (K : MK) (f : Mem → V → V → R V) (o e : DE) : DE := fun c ρ μ => (o c ρ μ).bind fun v μ => if hasK μ v K then (e c ρ μ).bind fun u μ => f μ v u else .bad
noncomputable def dM0 (K : MK) (f : Mem → V → R V) (o : DE) : DE := fun c ρ μ => (o c ρ μ).bind fun v μ => if hasK μ v K then f μ v else .bad

noncomputable def bAppend (μ : Mem) (a v : V) : R V := match a with
  | .ref i => match μ[i]? with
    | some (.list xs) => if xs.length < lim then .ok .none (μ.set i (.list (xs ++ [v]))) else .bad
    | _ => .bad
  | _ => .bad
noncomputable def strsOf : List V → Option (List Str)
  | [] => some []
  | .str x :: r => (strsOf r).map (x :: ·)
  | _ :: _ => Option.none
noncomputable def bJoin (μ : Mem) (a v : V) : R V := match a, v with
  | .str sep, .ref i => match μ[i]? with
    | some (.list xs) => match strsOf xs with
      | some ts => if JoinOk sep ts && PyData.strOk (Txt.join sep ts) && decide ((Txt.join sep ts).length ≤ lim) then .ok (.str (Txt.join sep ts)) μ else .bad
      | Option.none => .bad
    | _ => .bad
  | _, _ => .bad
noncomputable def bSplit (μ : Mem) (a v : V) : R V := match a, v with
  | .str x, .str y => if !(y.length == 0) && decide ((Txt.split x y).length ≤ lim) && (Txt.split x y).all (fun t => PyData.strOk t && decide (t.length ≤ lim)) then newL μ ((Txt.split x y).map V.str) else .bad
  | _, _ => .bad

noncomputable def B2Ok (P : Pg) (id : Value) (f : Mem → V → V → R V) : Prop :=
  ∀ A β μ s a x b y L, A.units + 200 < cLine → A.handled = none → Inv P.toPl β μ s.heap → Rel P.toPl β s.heap a x → Rel P.toPl β s.heap b y → f μ a b ≠ .bad →
    wpAny P.M A (PySem.call id [x, y]) (OkE P.toPl β s (f μ a b)) (ExE P.toPl L β s (f μ a b)) s

/-- a method of a built-in class -/
structure MId (K : MK) (name : Str) (id : String) : Prop where
  slot : Slot K.id name id
  ty : typeOf (.builtin id) = pure (.type "method_descriptor")

theorem MK.plain (K : MK) : PlainAttrs K.id := by
  cases K
  · exact F.plainAttrs_list
  · exact F.plainAttrs_str
  · exact F.plainAttrs_tuple
  · exact F.plainAttrs_dict

section
variable {P : Pg} {B : Blk}

theorem hasK_type {β : Bk} {μ : Mem} {s : Shared} {v : V} {x : Value} (I : Inv P.toPl β μ s.heap) (r : Rel P.toPl β s.heap v x) (K : MK) (h : hasK μ v K = true) : s.TypeIs x K.id ∧ ∀ a, x = .ref a → ∃ o, s.heap.get? a = some o ∧ o.dict = none := by
  cases K with
  | list =>
    cases r <;> simp only [hasK] at h <;> first | exact absurd h (by decide) | skip
    rename_i i l e
    cases hm : μ[i]? with
    | none => rw [hm] at h; cases h
    | some o =>
      have ro := I.obj i _ l hm e
      rw [hm] at h
      cases ro with
      | dict => cases h
      | inst => cases h
      | list a1 => exact ⟨⟨_, a1, rfl⟩, fun a q => by cases q; exact ⟨_, a1, rfl⟩⟩
  | dict =>
    cases r <;> simp only [hasK] at h <;> first | exact absurd h (by decide) | skip
    rename_i i l e
    cases hm : μ[i]? with
    | none => rw [hm] at h; cases h
    | some o =>
      have ro := I.obj i _ l hm e
      rw [hm] at h
      cases ro with
      | list => cases h
      | inst => cases h
      | dict a1 => exact ⟨⟨_, a1, rfl⟩, fun a q => by cases q; exact ⟨_, a1, rfl⟩⟩
  | str =>
    cases r <;> simp only [hasK] at h <;> first | exact absurd h (by decide) | skip
    exact ⟨rfl, fun a q => by cases q⟩
  | tuple =>
    cases r <;> simp only [hasK] at h <;> first | exact absurd h (by decide) | skip
    rename_i e _ _
    exact ⟨⟨_, e, rfl⟩, fun a q => by cases q; exact ⟨_, e, rfl⟩⟩

theorem SimE.m1 {o e : Expr} {name : Str} {apos pos : Pos} {do' de : DE} {id : String} {f : Mem → V → V → R V} (K : MK) (i : MId K name id) (k : B2Ok P (.builtin id) f) (hbase : ∀ env, attributeBase o name env (eval o env) = eval o env) (hline : (apos.endLine == pos.line) = true)
    (htrees : ∀ env, backTo pos (starEach [e] env) = [(false, eval e env)]) (h1 : SimE P B o do') (h2 : SimE P B e de) : SimE P B (.Call (.Attribute o name apos) [e] [] pos) (dM1 K f do' de) := fun n A env β ρ μ s X hb => by
  refine wpAny_Call_method1_late (hbase env) hline (htrees env) (useE h1 X hb (fun v μ₁ β₁ x s₁ e₁ p₁ r₁ hb₁ X₁ => ?_) fun u s₁ q => q)
  have hk : hasK μ₁ v K = true := by
    by_cases q : hasK μ₁ v K = true
    · exact q
    · rw [if_neg q] at hb₁; exact absurd rfl hb₁
  rw [if_pos hk] at hb₁
  obtain ⟨t1, t2⟩ := hasK_type X₁.inv r₁ K hk
  refine ⟨K.id, id, K.plain, i.slot, i.ty, t1, t2, ?_⟩
  refine callWith_plain (fun _ q => by cases q) (fun p hp => by rw [List.mem_singleton.mp hp]) ?_
  have e0 : dM1 K f do' de (P.cx n) ρ μ = (de (P.cx n) ρ μ₁).bind fun u μ => f μ v u := by simp only [dM1, e₁, R.bind, hk, if_true]
  refine Calls.spliced_cons (useE h2 X₁ hb₁ (fun u μ₂ β₂ y s₂ e₂ p₂ r₂ hb₂ X₂ => ?_) fun y s₂ q => ?_)
  · refine Calls.spliced_nil ?_
    have e3 : dM1 K f do' de (P.cx n) ρ μ = f μ₂ v u := by rw [e0, e₂]; rfl
    rw [e3]
    exact wpAny_mono (k A β₂ μ₂ s₂ v x u y env.frame X₂.units X₂.room.2.2 X₂.inv (r₁.post X₁.inv p₂) r₂ hb₂) (fun _ _ q => q.after (p₁.trans p₂)) fun _ _ q => q.after (p₁.trans p₂)
  · rw [e0]; exact q.after p₁

theorem append_ok : B2Ok P (.builtin "list.append") bAppend := fun A β μ s a x b y L hu hh I r r' hb => by
  cases r <;> first | exact absurd rfl hb | skip
  rename_i i l e
  simp only [bAppend] at hb ⊢
  cases hm : μ[i]? with
  | none => rw [hm] at hb; exact absurd rfl hb
  | some o =>
    have ro := I.obj i _ l hm e
    rw [hm] at hb
    cases ro with
    | dict => exact absurd rfl hb
    | inst => exact absurd rfl hb
    | @list _ vs n xs a1 a2 a3 =>
      simp only at hb ⊢
      have hl : xs.length < lim := by
        by_cases q : xs.length < lim
        · exact q
        · rw [if_neg q] at hb; exact absurd rfl hb
      rw [if_pos hl]
      have hz := RelL.size a2
      refine append_exact a1 ?_ (lim_line (by omega))
      have hs : Heap.SameBut l s.heap (s.heap.update l (Obj.mapSeq fun a => a.push y)) := Heap.SameBut.update ..
      have hk : Keep β s.heap (s.heap.update l (Obj.mapSeq fun a => a.push y)) := fun b ob e' hb => ⟨ob, (hs.2 b fun q => hb (q ▸ List.mem_of_getElem? e)).trans e', .refl _⟩
      have a2' : RelL P.toPl β (s.heap.update l (Obj.mapSeq fun a => a.push y)) (xs ++ [b]) (vs.push y).toList := by
        rw [Array.toList_push]
        exact (a2.append (.cons r' .nil)).mono I (List.prefix_refl _) hk fun _ h n => absurd h n
      exact ⟨.none, _, β, rfl, Post.upd I s.toks e hs (.list (IsL.update a1 (fun a => a.push y)) a2' (by simp; omega)), .none⟩

theorem strs_vals {β : Bk} {h : Heap} : ∀ {xs : List V} {vs : List Value} {ts : List Str}, RelL P.toPl β h xs vs → strsOf xs = some ts → ∃ l : List (Str × Tok), vs = strValues l ∧ l.map (·.1) = ts
  | _, _, _, .nil, hs => by cases hs; exact ⟨[], rfl, rfl⟩
  | _, _, ts, .cons (v := v) (vs := r) a b, hs => by
    cases a <;> first | (simp only [strsOf] at hs; exact absurd hs (fun q => by cases q)) | skip
    rename_i x t h1 h2
    simp only [strsOf] at hs
    cases hr : strsOf r with
    | none => rw [hr] at hs; cases hs
    | some us =>
      rw [hr] at hs; cases hs
      obtain ⟨l, e1, e2⟩ := strs_vals b hr
      exact ⟨(x, t) :: l, by rw [e1]; rfl, by rw [← e2]; rfl⟩

theorem join_ok : B2Ok P (.builtin "str.join") bJoin := fun A β μ s a x b y L hu hh I r r' hb => by
  cases r <;> first | exact absurd rfl hb | skip
  cases r' <;> first | exact absurd rfl hb | skip
  rename_i sep t h1 h2 i l e
  simp only [bJoin] at hb ⊢
  cases hm : μ[i]? with
  | none => rw [hm] at hb; exact absurd rfl hb
  | some o =>
    have ro := I.obj i _ l hm e
    rw [hm] at hb
    cases ro with
    | dict => exact absurd rfl hb
    | inst => exact absurd rfl hb
    | @list _ vs n xs a1 a2 a3 =>
      simp only at hb ⊢
      cases hs : strsOf xs with
      | none => rw [hs] at hb; exact absurd rfl hb
      | some ts =>
        rw [hs] at hb
        simp only at hb ⊢
        have hc : (JoinOk sep ts && PyData.strOk (Txt.join sep ts) && decide ((Txt.join sep ts).length ≤ lim)) = true := by
          by_cases q : (JoinOk sep ts && PyData.strOk (Txt.join sep ts) && decide ((Txt.join sep ts).length ≤ lim)) = true
          · exact q
          · rw [if_neg q] at hb; exact absurd rfl hb
        rw [if_pos hc]
        simp only [Bool.and_eq_true, decide_eq_true_eq] at hc
        obtain ⟨⟨c1, c2⟩, c3⟩ := hc
        obtain ⟨lt, q1, q2⟩ := strs_vals a2 hs
        subst q2
        have hv : vs = (strValues lt).toArray := by rw [← q1]
        have c1' : Builtin.Str.tooLong ((lt.map (·.1)).toArray.foldl (· + ·.length + sep.length) 0) = false := by
          unfold JoinOk at c1
          rw [Bool.not_eq_true'] at c1; exact c1
        refine call_meets F.slot_str_join (typeIs_str _ _ _) F.entry_str_join (F.args_str_join_2 _ _) (meets_str_join_list sep t l lt c1') ⟨⟨_, a1, rfl, n, by rw [hv]⟩, post_join lt ⟨joinFit_length c1', fun t' k => ?_⟩⟩
        exact OkE.toks I k (.str c2 c3)

theorem strs_rel {β : Bk} {h : Heap} : ∀ (l : List (Str × Tok)), (∀ p ∈ l, PyData.strOk p.1 = true ∧ p.1.length ≤ lim) → RelL P.toPl β h ((l.map (·.1)).map V.str) (strValues l)
  | [], _ => .nil
  | (x, t) :: r, hl => .cons (.str (hl (x, t) List.mem_cons_self).1 (hl (x, t) List.mem_cons_self).2) (strs_rel r fun p hp => hl p (List.mem_cons_of_mem _ hp))

/-- a new list -/
theorem listPush {β : Bk} {μ : Mem} {s : Shared} {vs : List V} {xs : Array Value} (tk : Nat) (I : Inv P.toPl β μ s.heap) (r : RelL P.toPl β s.heap vs xs.toList) (hl : vs.length ≤ lim) :
    OkE P.toPl β s (newL μ vs) (.ref s.heap.objs.size) { s with heap := s.heap.push { cls := .type "list", data := .seq xs }, toks := tk } := by
  refine ⟨.ref μ.length, μ ++ [.list vs], β ++ [s.heap.objs.size], by simp only [newL, hl, if_true], Post.push I _ _ tk (.list (Heap.get?_push_size _ rfl) (r.pushed I _) hl), .ref ?_⟩
  rw [← I.len, List.getElem?_append_right (Nat.le_refl _)]; simp

theorem split_ok : B2Ok P (.builtin "str.split") bSplit := fun A β μ s a v b w L hu hh I r r' hb => by
  cases r <;> first | exact absurd rfl hb | skip
  cases r' <;> first | exact absurd rfl hb | skip
  rename_i x t h1 h2 y u g1 g2
  simp only [bSplit] at hb ⊢
  have hc : (!(y.length == 0) && decide ((Txt.split x y).length ≤ lim) && (Txt.split x y).all (fun t => PyData.strOk t && decide (t.length ≤ lim))) = true := by
    by_cases q : (!(y.length == 0) && decide ((Txt.split x y).length ≤ lim) && (Txt.split x y).all (fun t => PyData.strOk t && decide (t.length ≤ lim))) = true
    · exact q
    · rw [if_neg q] at hb; exact absurd rfl hb
  rw [if_pos hc]
  simp only [Bool.and_eq_true, decide_eq_true_eq, Bool.not_eq_true', List.all_eq_true] at hc
  obtain ⟨⟨c1, c2⟩, c3⟩ := hc
  have fin : ∀ (lt : List (Str × Tok)) (tk : Nat), lt.map (·.1) = Txt.split x y → OkE P.toPl β s (newL μ ((Txt.split x y).map V.str)) (.ref s.heap.objs.size) { s with heap := s.heap.push { cls := .type "list", data := .seq (strValues lt).toArray }, toks := tk } := fun lt tk hlt => by
    rw [← hlt] at c2 c3 ⊢
    refine listPush tk I ?_ (by simpa using c2)
    exact strs_rel lt fun p hp => by
      have := c3 p.1 (List.mem_map_of_mem hp)
      exact this
  have hx : x.length ≤ sizeLine := lim_line h2
  cases q1 : (decide (x.length < y.length) || decide (Builtin.Str.strKind x < Builtin.Str.strKind y))
  · cases hf : (Builtin.Str.occurrences x y 0 x.length (x.length + 1)).isEmpty
    · have hsp : Txt.split x y = Builtin.Str.partsBetween x (Builtin.Str.occurrences x y 0 x.length (x.length + 1)) y.length := (if_neg (ne_true_of_eq_false q1)).trans (if_neg (ne_true_of_eq_false hf))
      refine call_meets F.slot_str_split (typeIs_str _ _ _) F.entry_str_split (F.args_str_split_2 _ _) (meets_str_split_sep x y t u q1 c1 hf hx (by rw [← hsp]; exact lim_line c2)) ?_
      show wants _ _ _ { s with toks := _, heap := s.heap.push { cls := .type "list", data := .seq (strsFrom s.toks (Builtin.Str.partsBetween x (Builtin.Str.occurrences x y 0 x.length (x.length + 1)) y.length)).toArray } }
      rw [strsFrom_eq]
      exact fin _ _ ((numbered_texts _ _).trans hsp.symm)
    · exact call_meets F.slot_str_split (typeIs_str _ _ _) F.entry_str_split (F.args_str_split_2 _ _) (meets_str_split_not_found x y t u q1 c1 hf) (fin [(x, t)] s.toks ((if_neg (ne_true_of_eq_false q1)).trans (if_pos hf)).symm)
  · exact call_meets F.slot_str_split (typeIs_str _ _ _) F.entry_str_split (F.args_str_split_2 _ _) (meets_str_split_cannot_occur x y t u q1) (fin [(x, t)] s.toks (if_pos q1).symm)
end
end
end Mine
end
section
set_option autoImplicit false
namespace Mine
noncomputable section
open PySem PyProof.Rows PySem.SeqAt

noncomputable def putItem (μ : Mem) (a k v : V) : Option Mem := match a, k with
  | .ref l, .int i => match μ[l]? with
    | some (.list xs) => if 0 ≤ i ∧ i < xs.length then some (μ.set l (.list (xs.set i.toNat v))) else Option.none
    | _ => Option.none
  | _, _ => Option.none
noncomputable def sPut (o i e : DE) : DS := fun c ρ μ => (e c ρ μ).thenS ρ fun v μ => (o c ρ μ).thenS ρ fun a μ => (i c ρ μ).thenS ρ fun k μ => match putItem μ a k v with
  | some μ => .next ρ μ
  | Option.none => .bad

section
variable {P : Pg} {B : Blk}

theorem setItem_exact {prog : Program} {w : World} {A : Around} {E : Value → Shared → Prop} {s : Shared} {l : Addr} {items : Array Value} {n : Nat} {k : Int} {t : Tok} {v : Value} {Q : Unit → Shared → Prop} (hl : IsL s.heap l items n) (h0 : 0 ≤ k) (hj : k < items.size) (hfit : k < 2 ^ 63)
    (hQ : Q () { s with heap := s.heap.update l (Obj.mapSeq (·.setIfInBounds k.toNat v)) }) : wpAny (model prog w) A (setItem (.ref l) (.int k t) v) Q E s := by
  have hT : s.TypeIs (.ref l) "list" := ⟨_, hl, rfl⟩
  unfold setItem
  try with_reducible refine wpAny_holding ?_
  first | refine wpAny_bind (wpAny_pure ?_) | skip
  refine wpAny_bind (wpAny_sequenceKey hT (by decide) ?_)
  refine wpAny_bind (wpAny_callSpecial?_slot (name := Str.ofString "__setitem__") hT slot_list_setitem (wpAny_call_entry slot_list_setitem hT entry_list_setitem ?_ (args_list_setitem _ _ _)))
  show wpAny _ _ (Builtin.List.listSubscript? (.int k t) >>= _) _ _ s
  refine wpAny_bind (wpAny_listSubscript_int (fitsIndex_of h0 hfit) ?_)
  clear hfit
  obtain ⟨j, rfl⟩ := Int.eq_ofNat_of_zero_le h0
  have hj : j < items.size := by omega
  show wpAny _ _ ((seqItemAt l j >>= fun r => pure (r.map (j, ·))) >>= _) _ _ s
  refine wpAny_bind (wpAny_bind (wpAny_seqItemAt hl rfl (wpAny_pure ?_)))
  rw [Array.getElem?_eq_getElem hj]
  show wpAny _ _ (setSeqItemAt l j v >>= _) _ _ s
  refine wpAny_bind (wpAny_setSeqItemAt hl rfl ?_)
  first
    | exact wpAny_bind (wpAny_pure (wpAny_pure ⟨.none, rfl, wpAny_pure hQ⟩))
    | exact wpAny_pure ⟨.none, rfl, wpAny_pure hQ⟩

theorem put_ok {A : Around} {β : Bk} {μ μ' : Mem} {s : Shared} {E : Value → Shared → Prop} {a k v : V} {x y z : Value} {Q : Unit → Shared → Prop} (I : Inv P.toPl β μ s.heap) (ra : Rel P.toPl β s.heap a x) (rk : Rel P.toPl β s.heap k y) (rv : Rel P.toPl β s.heap v z) (h : putItem μ a k v = some μ')
    (hQ : ∀ s', Post P.toPl β β μ' s s' → Q () s') : wpAny P.M A (setItem x y z) Q E s := by
  cases ra <;> first | (simp only [putItem] at h; exact absurd h (fun q => by cases q)) | skip
  rename_i i l e
  cases rk <;> first | (simp only [putItem] at h; exact absurd h (fun q => by cases q)) | skip
  rename_i n t
  simp only [putItem] at h
  cases hm : μ[i]? with
  | none => rw [hm] at h; cases h
  | some o =>
    have ro := I.obj i _ l hm e
    rw [hm] at h
    cases ro with
    | dict => cases h
    | inst => cases h
    | @list _ vs m xs a1 a2 a3 =>
      simp only at h
      split at h
      · rename_i hn
        cases h
        have hz := RelL.size a2
        obtain ⟨j, rfl⟩ := Int.eq_ofNat_of_zero_le hn.1
        have hj : j < vs.size := by omega
        refine setItem_exact a1 hn.1 (by omega) (by have := lim63 (k := j) (by omega); exact this) (hQ _ ?_)
        have hs : Heap.SameBut l s.heap (s.heap.update l (Obj.mapSeq (·.setIfInBounds j z))) := Heap.SameBut.update ..
        have hk : Keep β s.heap (s.heap.update l (Obj.mapSeq (·.setIfInBounds j z))) := fun b ob e' hb => ⟨ob, (hs.2 b fun q => hb (q ▸ List.mem_of_getElem? e)).trans e', .refl _⟩
        refine Post.upd I s.toks e hs (.list (IsL.update a1 (·.setIfInBounds j z)) ?_ (by simpa using a3))
        rw [Array.toList_setIfInBounds]
        exact (a2.set rv j).mono I (List.prefix_refl _) hk fun _ h n => absurd h n
      · cases h

theorem SimX.put {o i e : Expr} {do' di de : DE} {p pos : Pos} (hw : ∀ env, swapsWith e (some (.Subscript o i p)) pos.line env = pure false) (h1 : SimE P B o do') (h2 : SimE P B i di) (h3 : SimE P B e de) : SimX P B (.Assign [.Subscript o i p] e pos) (sPut do' di de) := fun n A env β ρ μ s X hb => by
  refine wpAny_Assign_Subscript (useES h3 X hb (fun v μ₁ β₁ z s₁ e₁ p₁ r₁ hb₁ X₁ => ?_) fun u s₁ q => q) (hw env)
  have q₁ : sPut do' di de (P.cx n) ρ μ = (do' (P.cx n) ρ μ₁).thenS ρ fun a μ => (di (P.cx n) ρ μ).thenS ρ fun k μ => match putItem μ a k v with
    | some μ => .next ρ μ
    | Option.none => .bad := by simp only [sPut, e₁]; rfl
  rw [q₁]
  refine useES h1 X₁ hb₁ (fun a μ₂ β₂ x s₂ e₂ p₂ r₂ hb₂ X₂ => ?_) fun u s₁ q => q.after (p₁.own X.env.live) X₁.env.live
  have q₂ : ((do' (P.cx n) ρ μ₁).thenS ρ fun a μ => (di (P.cx n) ρ μ).thenS ρ fun k μ => match putItem μ a k v with
    | some μ => .next ρ μ
    | Option.none => .bad) = (di (P.cx n) ρ μ₂).thenS ρ fun k μ => match putItem μ a k v with
    | some μ => .next ρ μ
    | Option.none => .bad := by rw [e₂]; rfl
  rw [q₂]
  have p12 := p₁.trans p₂
  refine useES h2 X₂ hb₂ (fun k μ₃ β₃ y s₃ e₃ p₃ r₃ hb₃ X₃ => ?_) fun u s₁ q => q.after (p12.own X.env.live) X₂.env.live
  have q₃ : ((di (P.cx n) ρ μ₂).thenS ρ fun k μ => match putItem μ a k v with
    | some μ => .next ρ μ
    | Option.none => .bad) = match putItem μ₃ a k v with
    | some μ => .next ρ μ
    | Option.none => .bad := by rw [e₃]; rfl
  rw [q₃]
  cases hp : putItem μ₃ a k v with
  | none => rw [hp] at hb₃; exact absurd rfl hb₃
  | some μ₄ =>
    refine put_ok X₃.inv (r₂.post X₂.inv p₃) r₃ ((r₁.post X₁.inv p₂).post X₂.inv p₃) hp fun s₄ p₄ => ?_
    exact .inl ⟨ρ, μ₄, β₃, rfl, rfl, ((p12.trans p₃).trans p₄).own X.env.live, X₃.env.post X₃.inv p₄⟩
end
end
end Mine
end
section
set_option autoImplicit false
namespace Mine
noncomputable section
open PySem PyProof.Rows PySem.SeqAt

noncomputable def boolsOf : List V → Option (List Bool)
  | [] => some []
  | .bool b :: r => (boolsOf r).map (b :: ·)
  | _ :: _ => Option.none
noncomputable def bZip (f : Bool → Bool → Bool) (μ : Mem) (a b : V) : R V := match a, b with
  | .ref i, .ref j => match μ[i]?, μ[j]? with
    | some (.list xs), some (.list ys) => match boolsOf xs, boolsOf ys with
      | some bs, some cs => newL μ ((List.zipWith f bs cs).map V.bool)
      | _, _ => .bad
    | _, _ => .bad
  | _, _ => .bad

section
variable {P : Pg} {B : Blk} {A : Around}

theorem zipLoop {z C D : Addr} {fp wr : List Addr} {n : Nat} {bs cs : Nat → Bool} {Pt : Nat → Array Value → Prop} {St : Nat → Heap → Prop} {Mid : Nat → Addr → Heap → Prop} {cenv : Env} {x1 x2 : Str} {p1 p2 pt : Pos} {kt : Nat} {iter elt : Expr} {scope : Scope} {pos : Pos} {f : Bool → Bool → Bool}
    (W : WalksT P.prog P.w A z fp wr n Pt St Mid) (hPt : ∀ i v, Pt i v → v = #[.bool (bs i), .bool (cs i)]) (hh : A.handled = none) (hC : cenv.locals = C) (hkd : cenv.scope.kind = .function) (hk1 : cenv.kindOf x1 = some .local) (hk2 : cenv.kindOf x2 = some .local) (hx : x1 ≠ x2)
    (hCf : C ∉ fp) (hDf : D ∉ fp) (hDC : D ≠ C) (hn : n ≤ lim)
    (helt : ∀ s m b c (Q : Value → Shared → Prop) (E : Value → Shared → Prop), s.heap.Ns C m → m x1 = some (.bool b) → m x2 = some (.bool c) → Q (.bool (f b c)) s → wpAny P.M A (eval elt cenv) Q E s) :
    ∀ (k i : Nat) (s : Shared) (acc : Array Value) (cnt : Nat) (m : Str → Option Value) (R : Result → Shared → Prop), n - i = k → i ≤ n → St i s.heap → s.heap.Ns C m → IsL s.heap D acc cnt → acc.size = i →
      (∀ h' tk acc' cnt' m', (∀ b o, b ∉ wr → b ≠ C → b ≠ D → s.heap.get? b = some o → h'.get? b = some o) → h'.Ns C m' → IsL h' D acc' cnt' → acc'.toList = acc.toList ++ (List.range' i (n - i)).map (fun j => Value.bool (f (bs j) (cs j))) → R (.ok .next) { s with heap := h', toks := tk }) →
      codeAny P.M A (.compLoop (.ListComp elt [⟨.Tuple [.Name x1 p1, .Name x2 p2] kt pt, iter, [], 0⟩] scope pos) 0 (.ref z) (.ref D) cenv) R s := by
  have hp : (cenv.scope.kind == .class || (cenv.scope.kind == .module && cenv.locals != cenv.globals)) = false := by rw [hkd]; rfl
  have hCw : C ∉ wr := fun q => hCf (W.sub C q)
  have hDw : D ∉ wr := fun q => hDf (W.sub D q)
  intro k
  induction k with
  | zero =>
    intro i s acc cnt m R hk hi hst hns hD hacc hR
    obtain rfl : i = n := by omega
    refine codeAny_of_tree ?_
    show wpAny P.M A ((compTurn (.ListComp elt [⟨.Tuple [.Name x1 p1, .Name x2 p2] kt pt, iter, [], 0⟩] scope pos) 0 (.ref z) (.ref D) cenv).onRaise (fun x => do noteFrame x cenv; theTreesLotGoes x)) _ _ s
    refine wpAny_noted ?_
    rw [compTurn_list]
    refine wpAny_bind (wpAny_standAt (wpAny_bind (W.done s _ _ hst fun h' tk hkp => wpAny_pure ?_)))
    refine hR h' tk acc cnt m (fun b o hb _ _ e => hkp b o hb e) (hns.at' fun o e => hkp C o hCw e) (hkp D _ hDw hD) (by simp)
  | succ k ih =>
    intro i s acc cnt m R hk hi hst hns hD hacc hR
    have hlt : i < n := by omega
    refine codeAny_of_tree ?_
    show wpAny P.M A ((compTurn (.ListComp elt [⟨.Tuple [.Name x1 p1, .Name x2 p2] kt pt, iter, [], 0⟩] scope pos) 0 (.ref z) (.ref D) cenv).onRaise (fun x => do noteFrame x cenv; theTreesLotGoes x)) _ _ s
    refine wpAny_noted ?_
    rw [compTurn_list]
    refine wpAny_bind (wpAny_standAt (wpAny_bind (W.item i s _ _ hlt hst fun T vals h₁ tk₁ hP hT hTup hM k₁ => ?_)))
    obtain rfl := hPt i vals hP
    refine wpAny_bind (W.go _ _ _ i T _ _ _ hM fun h₂ hst₂ k₂ => ?_)
    have hTw : T ∉ wr := W.apart _ _ _ hM
    have hTup₂ : h₂.IsTuple T #[.bool (bs i), .bool (cs i)] := hTup.at fun o e => k₂ T o hTw e
    refine wpAny_bind (wpAny_assign_Tuple hh hTup₂ rfl rfl fun h₃ k₃ => ?_)
    have k₃' : ∀ b o, h₂.get? b = some o → h₃.get? b = some o := fun b o e => k₃ b o (fun q => by rw [q] at e; exact absurd (Heap.lt_size e) (Nat.lt_irrefl _)) e
    have hn₃ : h₃.Ns C m := hns.at' fun o e => k₃' C o (k₂ C o hCw (k₁ C o hCw e))
    show wpAny P.M A (holding _ (assign (.Name x1 p1) cenv (.bool (bs i))) >>= fun _ => holding _ (assign (.Name x2 p2) cenv (.bool (cs i))) >>= fun _ => pure ()) _ _ _
    subst hC
    refine wpAny_bind (wpAny_holding (wpAny_assign_Name (wpAny_storeName_local hk1 hn₃ (fun h₄ hn₄ hs₄ => ?_) hp)))
    refine wpAny_bind (wpAny_holding (wpAny_assign_Name (wpAny_storeName_local hk2 hn₄ (fun h₅ hn₅ hs₅ => ?_) hp)))
    have kk : ∀ b o, b ∉ wr → b ≠ cenv.locals → s.heap.get? b = some o → h₅.get? b = some o := fun b o hb hbC e => (hs₅.2 b hbC).trans ((hs₄.2 b hbC).trans (k₃' b o (k₂ b o hb (k₁ b o hb e))))
    have hD₅ : IsL h₅ D acc cnt := kk D _ hDw hDC hD
    have hst₅ : St (i + 1) h₅ := W.frame _ _ _ hst₂ fun b hb o e => by
      have hbC : b ≠ cenv.locals := fun q => hCf (q ▸ hb)
      exact (hs₅.2 b hbC).trans ((hs₄.2 b hbC).trans (k₃' b o e))
    refine wpAny_pure (wpAny_bind (wpAny_tests_nil ?_))
    rw [if_pos rfl]
    refine wpAny_bind (wpAny_bind (helt _ _ (bs i) (cs i) _ _ hn₅ (by simp [hx]) (by simp) ?_))
    refine wpAny_bind (append_exact hD₅ (wpAny_pure (wpAny_pure ⟨rfl, ?_⟩)) (lim_line (by omega)))
    have hs₆ : Heap.SameBut D h₅ (h₅.update D (Obj.mapSeq fun a => a.push (.bool (f (bs i) (cs i))))) := Heap.SameBut.update ..
    refine ih (i + 1) _ _ _ _ R (by omega) hlt (W.frame _ _ _ hst₅ fun b hb o e => (hs₆.2 b fun q => hDf (q ▸ hb)).trans e) (hn₅.sameBut hs₆ (Ne.symm hDC)) (IsL.update hD₅ _) (by simp [hacc]) fun h' tk acc' cnt' m' kf hn' hD' hacc' => ?_
    refine hR h' tk acc' cnt' m' (fun b o hb hbC hbD e => kf b o hb hbC hbD ((hs₆.2 b hbD).trans (kk b o hb hbC e))) hn' hD' ?_
    rw [hacc', Array.toList_push, List.append_assoc]
    congr 1
    have : n - i = (n - (i + 1)) + 1 := by omega
    rw [this, List.range'_succ]; rfl
end
end
end Mine
end
section
set_option autoImplicit false
namespace Mine
noncomputable section
open PySem PyProof.Rows PySem.SeqAt

section
variable {P : Pg} {B : Blk}

theorem bools_vals {β : Bk} {h : Heap} : ∀ {xs : List V} {vs : List Value} {bs : List Bool}, RelL P.toPl β h xs vs → boolsOf xs = some bs → vs = bs.map Value.bool
  | _, _, _, .nil, hs => by cases hs; rfl
  | _, _, ts, .cons (v := v) (vs := r) a b, hs => by
    cases a <;> first | (simp only [boolsOf] at hs; exact absurd hs (fun q => by cases q)) | skip
    simp only [boolsOf] at hs
    cases hr : boolsOf r with
    | none => rw [hr] at hs; cases hs
    | some us =>
      rw [hr] at hs; cases hs
      rw [bools_vals b hr]; rfl
theorem bools_rel {β : Bk} {h : Heap} : ∀ (bs : List Bool), RelL P.toPl β h (bs.map V.bool) (bs.map Value.bool)
  | [] => .nil
  | b :: r => .cons (.bool b) (bools_rel r)

theorem zip_range (f : Bool → Bool → Bool) (bs cs : List Bool) : (List.range' 0 (min bs.length cs.length)).map (fun j => Value.bool (f (bs[j]?.getD false) (cs[j]?.getD false))) = (List.zipWith f bs cs).map Value.bool := by
  apply List.ext_getElem
  · simp
  · intro i h1 h2
    simp at h1 h2
    have l1 : i < bs.length := by omega
    have l2 : i < cs.length := by omega
    simp [List.getElem?_eq_getElem l1, List.getElem?_eq_getElem l2]

theorem ObjRel.list' {β : Bk} {h : Heap} {xs : List V} {a : Addr} (r : ObjRel P.toPl β h (.list xs) a) : ∃ vs n, h.get? a = some ⟨.type "list", none, .seq vs n, #[]⟩ ∧ RelL P.toPl β h xs vs.toList ∧ xs.length ≤ lim := by
  cases r with
  | list e r l => exact ⟨_, _, e, r, l⟩
/-- what an element computes from two names -/
noncomputable def EltOk (P : Pg) (scope : Scope) (x1 x2 : Str) (elt : Expr) (f : Bool → Bool → Bool) : Prop :=
  ∀ (A : Around) (env : Env) s m b c (Q : Value → Shared → Prop) (E : Value → Shared → Prop), env.scope.kind = .function → env.kindOf x1 = some .local → env.kindOf x2 = some .local → s.heap.Ns env.locals m → m x1 = some (.bool b) → m x2 = some (.bool c) → Q (.bool (f b c)) s → wpAny P.M A (eval elt env) Q E s
theorem EltOk.and {scope : Scope} {x1 x2 : Str} {p q r : Pos} (h1 : (x1 == ("__debug__" : Str)) = false) (h2 : (x2 == ("__debug__" : Str)) = false) : EltOk P scope x1 x2 (.BoolOp .And [.Name x1 p, .Name x2 q] r) (· && ·) := fun A env s m b c Q E hk k1 k2 hn e1 e2 h => by
  refine wpAny_And2 (wpAny_Name (wpAny_loadName_local hk k1 hn e1 (wpAny_truthy_bool ?_)) h1)
  cases b with
  | true => exact wpAny_Name (wpAny_loadName_local hk k2 hn e2 h) h2
  | false => exact h
theorem EltOk.or {scope : Scope} {x1 x2 : Str} {p q r : Pos} (h1 : (x1 == ("__debug__" : Str)) = false) (h2 : (x2 == ("__debug__" : Str)) = false) : EltOk P scope x1 x2 (.BoolOp .Or [.Name x1 p, .Name x2 q] r) (· || ·) := fun A env s m b c Q E hk k1 k2 hn e1 e2 h => by
  refine wpAny_Or2 (wpAny_Name (wpAny_loadName_local hk k1 hn e1 (wpAny_truthy_bool ?_)) h1)
  cases b with
  | true => exact h
  | false => exact wpAny_Name (wpAny_loadName_local hk k2 hn e2 h) h2

theorem SimE.zip {e1 e2 elt : Expr} {d1 d2 : DE} {x1 x2 : Str} {p1 p2 pt p cp : Pos} {kt : Nat} {scope : Scope} {pos : Pos} {f : Bool → Bool → Bool} (hel : EltOk P scope x1 x2 elt f) (hkind : scope.kind = .function) (hnames : ∀ x ∈ scope.names, x.2 = .local → scope.names.lookup x.1 = some .local) (hnocell : ∀ x ∈ scope.names, x.2 ≠ .cell)
    (hnofree : ∀ x ∈ scope.names, x.2 ≠ .free) (hx1 : scope.names.lookup x1 = some .local) (hx2 : scope.names.lookup x2 = some .local) (hx : x1 ≠ x2) (hz : B.sc.names.lookup (Str.ofString "zip") = some .globalImplicit) (hp : plainArgs [e1, e2] = true)
    (hn1 : ∀ env, starEach [e1, e2] env = (false, eval e1 env) :: starEach [e2] env) (hn2 : ∀ env, starEach [e2] env = [(false, eval e2 env)]) (h1 : SimE P B e1 d1) (h2 : SimE P B e2 d2) :
    SimE P B (.ListComp elt [⟨.Tuple [.Name x1 p1, .Name x2 p2] kt pt, .Call (.Name (Str.ofString "zip") p) [e1, e2] [] cp, [], 0⟩] scope pos) (dB2 (bZip f) d1 d2) := fun n A env β ρ μ s X hb => by
  rw [eval_ListComp]
  refine wpAny_comprehension_free (use := Option.none) rfl (fun _ => rfl) (closure_of (env := env) fun y hy => absurd rfl (hnofree _ hy)) hkind hnames ?_
  refine Call_Name rfl (X.blt hz (by decide) (by decide) (v := .type "zip") (by decide) ?_)
  refine callWith_plain (fun _ q => by cases q) (plain_trees hp) ?_
  refine wpAny_items_cons (useE h1 X hb (fun a μ₁ β₁ u s₁ e₁ p₁ r₁ hb₁ X₁ => ?_) fun u s₁ q => q) (hn1 env)
  have q₁ : dB2 (bZip f) d1 d2 (P.cx n) ρ μ = (d2 (P.cx n) ρ μ₁).bind fun u μ => bZip f μ a u := by simp only [dB2, e₁]; rfl
  rw [q₁]
  refine wpAny_items_cons (useE h2 X₁ hb₁ (fun b μ₂ β₂ v s₂ e₂ p₂ r₂ hb₂ X₂ => ?_) fun u s₁ q => q.after p₁) (hn2 env)
  refine wpAny_items_nil ?_
  have q₂ : ((d2 (P.cx n) ρ μ₁).bind fun u μ => bZip f μ a u) = bZip f μ₂ a b := by rw [e₂]; rfl
  rw [q₂]
  have p12 := p₁.trans p₂
  have ra := r₁.post X₁.inv p₂
  cases ra <;> first | exact absurd rfl hb₂ | skip
  rename_i i l1 g1
  cases r₂ <;> first | exact absurd rfl hb₂ | skip
  rename_i j l2 g2
  simp only [bZip] at hb₂ ⊢
  cases hm1 : μ₂[i]? with
  | none => rw [hm1] at hb₂; exact absurd rfl hb₂
  | some o1 =>
  cases hm2 : μ₂[j]? with
  | none => rw [hm1, hm2] at hb₂; cases o1 <;> exact absurd rfl hb₂
  | some o2 =>
  rw [hm1, hm2] at hb₂
  have ro1 := X₂.inv.obj i _ l1 hm1 g1
  have ro2 := X₂.inv.obj j _ l2 hm2 g2
  cases o1 <;> first | exact absurd rfl hb₂ | skip
  rename_i xs
  cases o2 <;> first | exact absurd rfl hb₂ | skip
  rename_i ys
  obtain ⟨vs, nv, a1, a2, a3⟩ := ro1.list'
  obtain ⟨ws, nw, b1, b2, b3⟩ := ro2.list'
  simp only at hb₂ ⊢
  cases hxs : boolsOf xs with
  | none => rw [hxs] at hb₂; exact absurd rfl hb₂
  | some bs =>
  cases hys : boolsOf ys with
  | none => rw [hxs, hys] at hb₂; exact absurd rfl hb₂
  | some cs =>
  simp only
  have hvs : vs = (bs.map Value.bool).toArray := by rw [← bools_vals a2 hxs]
  have hws : ws = (cs.map Value.bool).toArray := by rw [← bools_vals b2 hys]
  have lz1 : bs.length ≤ lim := by
    have := RelL.size a2
    rw [hvs] at this; simp at this; omega
  have lx : vs.size = bs.length := by rw [hvs]; simp
  have ly : ws.size = cs.length := by rw [hws]; simp
  have lt1 := Heap.lt_size a1
  have lt2 := Heap.lt_size b1
  refine call_zip_2 ⟨_, a1, rfl, nv, rfl⟩ ⟨_, b1, rfl, nw, rfl⟩ fun h₃ z1 z2 z3 z4 z5 z6 z7 => ?_
  refine wpAny_pyIter_zip z1 ?_
  refine wpAny_newList ?_
  have fr : ∀ {a : Addr}, s₂.heap.objs.size ≤ a → s₂.heap.get? a = Option.none := fun {a} ha => by
    cases e : s₂.heap.get? a with
    | none => rfl
    | some o => exact absurd (Heap.lt_size e) (Nat.not_lt.mpr ha)
  have hD₄ := Heap.get?_push_size h₃ (o := { cls := .type "list", data := .seq ([] : List Value).toArray }) rfl
  refine wpAny_newFunctionEnv hnocell (by intro y hy; simp at hy) (fun h₅ hn₅ hsb₅ => ?_) hkind
  dsimp only at hn₅ hsb₅ ⊢
  generalize hH4 : h₃.push { cls := .type "list", data := .seq ([] : List Value).toArray } = h₄ at hn₅ hsb₅ hD₄ ⊢
  have hDn : s₂.heap.get? h₃.objs.size = Option.none := fr (by rw [z6]; exact Nat.le_add_right _ _)
  have hC4 : h₄.get? h₄.objs.size = Option.none := get_size _
  have k34 : ∀ a o, h₃.get? a = some o → h₄.get? a = some o := fun a o e => by rw [← hH4]; exact Heap.get?_push_of_some _ e
  have k45 : ∀ a o, h₄.get? a = some o → h₅.get? a = some o := fun a o e => (hsb₅.2 a fun q => by rw [q, hC4] at e; cases e).trans (Heap.get?_push_of_some _ e)
  have hCn : s₂.heap.get? h₄.objs.size = Option.none := by
    cases e : s₂.heap.get? h₄.objs.size with
    | none => rfl
    | some o => rw [k34 _ _ (z7 _ _ e)] at hC4; cases hC4
  have hDC : h₃.objs.size ≠ h₄.objs.size := fun q => by rw [q] at hD₄; rw [hC4] at hD₄; cases hD₄
  have Wk := WalksT.zip2 (prog := P.prog) (w := P.w) (A := A) X.room.2.2 _ _ _ _ _ l1 l2 (zipApart_new lt1 lt2) vs ws
  have st₃ : _ ∧ _ := (⟨z1, z2, ⟨_, _, z3⟩, z4, z5, ⟨_, z7 _ _ a1, rfl, nv, rfl⟩, ⟨_, z7 _ _ b1, rfl, nw, rfl⟩⟩ : IsZip h₃ _ _ _ Value.none ∧ IsPair h₃ _ _ _ ∧ (∃ a b, IsPair h₃ _ a b) ∧ h₃.IsListIter _ l1 0 ∧ h₃.IsListIter _ l2 0 ∧ h₃.IsList l1 vs ∧ h₃.IsList l2 ws)
  have st₅ := Wk.frame 0 h₃ h₅ st₃ fun b _ o e => k45 b o (k34 b o e)
  have live : ∀ b ∈ [s₂.heap.objs.size + 4, s₂.heap.objs.size + 2, s₂.heap.objs.size + 3, s₂.heap.objs.size, s₂.heap.objs.size + 1, l1, l2], ∃ o, h₃.get? b = some o := fun b hb => by
    simp only [List.mem_cons, List.not_mem_nil, or_false] at hb
    rcases hb with rfl | rfl | rfl | rfl | rfl | rfl | rfl
    · exact ⟨_, z1⟩
    · exact ⟨_, z2⟩
    · exact ⟨_, z3⟩
    · exact let ⟨o, e, _⟩ := z4; ⟨o, e⟩
    · exact let ⟨o, e, _⟩ := z5; ⟨o, e⟩
    · exact ⟨_, z7 _ _ a1⟩
    · exact ⟨_, z7 _ _ b1⟩
  have ck1 : (compEnvC scope (clOf env scope.names []) h₄.objs.size env).kindOf x1 = some .local := lookup_relabel_local hx1
  have ck2 : (compEnvC scope (clOf env scope.names []) h₄.objs.size env).kindOf x2 = some .local := lookup_relabel_local hx2
  have loop : codeAny P.M A (.compLoop (.ListComp elt [⟨.Tuple [.Name x1 p1, .Name x2 p2] kt pt, .Call (.Name (Str.ofString "zip") p) [e1, e2] [] cp, [], 0⟩] scope pos) 0 (.ref (s₂.heap.objs.size + 4)) (.ref h₃.objs.size) (compEnvC scope (clOf env scope.names []) h₄.objs.size env))
      (compPost P.M A (ExE P.toPl env.frame β s (newL μ₂ ((List.zipWith f bs cs).map V.bool))) Option.none (OkE P.toPl β s (newL μ₂ ((List.zipWith f bs cs).map V.bool))) (.ref h₃.objs.size) h₄.objs.size) { s₂ with heap := h₅, toks := s₂.toks + ([] : List (Str × Value)).length } := by
    refine zipLoop (f := f) (bs := fun i => bs[i]?.getD false) (cs := fun i => cs[i]?.getD false) Wk (fun i v hv => ?_) X.room.2.2 (C := h₄.objs.size) rfl hkind ck1 ck2 hx (fun q => ?_) (fun q => ?_) hDC (by rw [lx, ly]; omega)
      (fun s m b c Q E hns m1 m2 hq => hel A (compEnvC scope (clOf env scope.names []) h₄.objs.size env) s m b c Q E hkind ck1 ck2 hns m1 m2 hq) _ 0 _ #[] _ _ _ rfl (Nat.zero_le _) st₅ hn₅ (k45 _ _ hD₄) rfl fun h₆ tk acc' cnt' m' kf hn' hD' hacc' => ?_
    · obtain ⟨x, y, ex, ey, rfl⟩ := hv
      rw [hvs] at ex
      rw [hws] at ey
      simp only [List.getElem?_toArray, List.getElem?_map, Option.map_eq_some_iff] at ex ey
      obtain ⟨b, eb, rfl⟩ := ex
      obtain ⟨c, ec, rfl⟩ := ey
      rw [eb, ec]; rfl
    · obtain ⟨o, e⟩ := live _ q
      rw [k34 _ _ e] at hC4; cases hC4
    · obtain ⟨o, e⟩ := live _ q
      rw [get_size] at e; cases e
    · refine ⟨m', hn', fun h₇ hs₇ => ?_⟩
      have hall : ∀ a o, s₂.heap.get? a = some o → h₇.get? a = some o := fun a o e => by
        have hlt := Heap.lt_size e
        have haC : a ≠ h₄.objs.size := fun q => by rw [q, hCn] at e; cases e
        refine (hs₇.2 a haC).trans (kf a o (fun q => ?_) haC (fun q => by rw [q, hDn] at e; cases e) (k45 a o (k34 a o (z7 a o e))))
        simp only [List.mem_cons, List.not_mem_nil, or_false] at q
        rcases q with rfl | rfl | rfl | rfl
        · rw [fr (Nat.le_add_right _ _)] at e; cases e
        · rw [fr (Nat.le_add_right _ _)] at e; cases e
        · rw [fr (Nat.le_refl _)] at e; cases e
        · rw [fr (Nat.le_add_right _ _)] at e; cases e
      have p7 : Post P.toPl β₂ β₂ μ₂ s₂ { s₂ with heap := h₇, toks := tk } := Post.other X₂.inv tk hall
      have hzl : (List.zipWith f bs cs).length ≤ lim := by simp; omega
      have hD₇ : IsL h₇ h₃.objs.size acc' cnt' := (hs₇.2 _ hDC).trans hD'
      have hacc : acc'.toList = (List.zipWith f bs cs).map Value.bool := by
        rw [hacc', lx, ly, Nat.sub_zero]
        exact zip_range f bs cs
      have hDb : h₃.objs.size ∉ β₂ := fun q => by
        obtain ⟨ob, e, _⟩ := X₂.inv.there q
        rw [hDn] at e; cases e
      have hD0 : P.h₀.get? h₃.objs.size = Option.none := by
        cases e : P.h₀.get? h₃.objs.size with
        | none => rfl
        | some o => rw [X₂.inv.base _ _ e] at hDn; cases hDn
      refine OkE.after p12 ⟨.ref μ₂.length, μ₂ ++ [.list ((List.zipWith f bs cs).map V.bool)], β₂ ++ [h₃.objs.size], by simp only [newL, List.length_map, hzl, if_true], Post.adopt p7 hDb hDn hD0 hD₇ (by rw [hacc]; exact bools_rel _) (by simpa using hzl), .ref ?_⟩
      rw [← X₂.inv.len, List.getElem?_append_right (Nat.le_refl _)]; simp
  exact codeAny_compStart_list loop (wpAny_pyIter_zip (k45 _ _ (k34 _ _ z1)) loop)
end
end
end Mine
end
section
set_option autoImplicit false
namespace Mine
noncomputable section
open PySem

noncomputable def compB (B : Blk) (tab : List (Option (Str × NameKind))) (scope : Scope) (locs : List Nat) : Bool :=
  scope.kind == .function && scope.names.all (fun x => !(x.2 == .local) || scope.names.lookup x.1 == some .local) && scope.names.all (fun x => !(x.2 == .cell)) && Blk.ok ⟨relabelS scope B.sc, tab⟩ &&
  scope.names.all (fun x => !(x.2 == .free) || B.tab.any fun e => match e with | some (y, k) => y == x.1 && (k == .cell || k == .free) | none => false) &&
  (List.range tab.length).all (fun i => match tab[i]? with
    | some (some (x, k)) => if k == .cell || k == .free then (scope.names.any fun y => y.1 == x && y.2 == .free) && (match B.tab[i]? with | some (some (y, k')) => y == x && (k' == .cell || k' == .free) | _ => false) else locs.contains i
    | _ => true)

theorem CompOk.of {B : Blk} {tab : List (Option (Str × NameKind))} {scope : Scope} {locs : List Nat} (h : compB B tab scope locs = true) : CompOk B ⟨relabelS scope B.sc, tab⟩ scope locs := by
  simp only [compB, Bool.and_eq_true] at h
  obtain ⟨⟨⟨⟨⟨h1, h2⟩, h3⟩, h4⟩, h5⟩, h6⟩ := h
  refine ⟨by simpa using h1, fun x hx hl => ?_, fun x hx hc => ?_, h4, rfl, fun x hx => ?_, fun i x k ht hk => ?_, fun i x ht => ?_⟩
  · have := List.all_eq_true.mp h2 x hx
    rw [hl] at this
    simpa using this
  · have := List.all_eq_true.mp h3 x hx
    rw [hc] at this; cases this
  · have := List.all_eq_true.mp h5 (x, .free) hx
    simp only [show ((NameKind.free == NameKind.free) = true) from rfl, Bool.not_true, Bool.false_or] at this
    obtain ⟨e, he, hq⟩ := List.any_eq_true.mp this
    cases e with
    | none => cases hq
    | some p =>
      obtain ⟨y, k⟩ := p
      simp only [Bool.and_eq_true, Bool.or_eq_true, beq_iff_eq] at hq
      obtain ⟨rfl, hk⟩ := hq
      obtain ⟨i, hi⟩ := List.getElem?_of_mem he
      exact ⟨i, k, hi, hk⟩
  · have hi : i < tab.length := (List.getElem?_eq_some_iff.mp ht).1
    have := List.all_eq_true.mp h6 i (List.mem_range.mpr hi)
    simp only [show tab[i]? = some (some (x, k)) from ht] at this
    rw [if_pos (by rcases hk with rfl | rfl <;> rfl), Bool.and_eq_true] at this
    obtain ⟨a, b⟩ := this
    obtain ⟨y, hy, hq⟩ := List.any_eq_true.mp a
    simp only [Bool.and_eq_true, beq_iff_eq] at hq
    obtain ⟨yx, yk⟩ := y
    simp only at hq
    obtain ⟨rfl, rfl⟩ := hq
    refine ⟨hy, ?_⟩
    cases hB : B.tab[i]? with
    | none => rw [hB] at b; cases b
    | some e =>
      rw [hB] at b
      cases e with
      | none => cases b
      | some p =>
        obtain ⟨y, k'⟩ := p
        simp only [Bool.and_eq_true, Bool.or_eq_true, beq_iff_eq] at b
        obtain ⟨rfl, hk'⟩ := b
        exact ⟨k', rfl, hk'⟩
  · have hi : i < tab.length := (List.getElem?_eq_some_iff.mp ht).1
    have := List.all_eq_true.mp h6 i (List.mem_range.mpr hi)
    simp only [show tab[i]? = some (some (x, NameKind.local)) from ht] at this
    rw [if_neg (by decide)] at this
    simpa using this

theorem cb1_keeps (i : Nat) : ∀ v ρ ρ', cb1 i v ρ = some ρ' → ∀ j w, ρ j = some w → ρ' j = some w := fun v ρ ρ' h j w hw => by
  simp only [cb1] at h
  split at h
  · rename_i hi
    cases h
    by_cases q : j = i
    · subst q; rw [hi] at hw; cases hw
    · rw [Fr.set_ne _ _ q]; exact hw
  · cases h

/-- what zip's comprehension needs of its block -/
noncomputable def zipB (scope : Scope) (x1 x2 : Str) : Bool :=
  scope.kind == .function && scope.names.all (fun x => !(x.2 == .local) || scope.names.lookup x.1 == some .local) && scope.names.all (fun x => !(x.2 == .cell) && !(x.2 == .free)) && scope.names.lookup x1 == some .local && scope.names.lookup x2 == some .local && !(x1 == x2)
theorem SimE.zipC {P : Pg} {B : Blk} {e1 e2 elt : Expr} {d1 d2 : DE} {x1 x2 : Str} {p1 p2 pt p cp : Pos} {kt : Nat} {scope : Scope} {pos : Pos} {f : Bool → Bool → Bool} (hel : EltOk P scope x1 x2 elt f) (hc : zipB scope x1 x2 = true) (hz : B.sc.names.lookup (Str.ofString "zip") = some .globalImplicit) (hp : plainArgs [e1, e2] = true)
    (hn1 : ∀ env, starEach [e1, e2] env = (false, eval e1 env) :: starEach [e2] env) (hn2 : ∀ env, starEach [e2] env = [(false, eval e2 env)]) (h1 : SimE P B e1 d1) (h2 : SimE P B e2 d2) :
    SimE P B (.ListComp elt [⟨.Tuple [.Name x1 p1, .Name x2 p2] kt pt, .Call (.Name (Str.ofString "zip") p) [e1, e2] [] cp, [], 0⟩] scope pos) (dB2 (bZip f) d1 d2) := by
  simp only [zipB, Bool.and_eq_true, beq_iff_eq, Bool.not_eq_true'] at hc
  obtain ⟨⟨⟨⟨⟨h3, h4⟩, h5⟩, h6⟩, h7⟩, h8⟩ := hc
  refine SimE.zip hel h3 (fun x hx hl => ?_) (fun x hx hq => ?_) (fun x hx hq => ?_) h6 h7 (by simpa using h8) hz hp hn1 hn2 h1 h2
  · have := List.all_eq_true.mp h4 x hx
    rw [hl] at this
    simpa using this
  · have := List.all_eq_true.mp h5 x hx
    rw [hq] at this; cases this
  · have := List.all_eq_true.mp h5 x hx
    rw [hq] at this; cases this

/-- the facts of a function that are read off its text -/
noncomputable def fnB (sc : Scope) (tab : List (Option (Str × NameKind))) (ps : List Str) : Bool :=
  Blk.ok ⟨sc, tab⟩ && (List.range ps.length).all (fun i => match ps[i]?, tab[i]? with
    | some x, some (some (y, k)) => x == y && (k == .local || k == .cell)
    | _, _ => false) && tab.all (fun e => match e with | some (_, k) => !(k == .free) | none => true) && decide (((cellsFrom 0 sc.names []).map (·.1)).Nodup) && !sc.isCoroutine && !sc.isGenerator
theorem FnOk.of {P : Pg} {f : Nat} {F : Fn} {tab : List (Option (Str × NameKind))} {ps : List Str} {bd : List Stmt} {sc : Scope} (hs : (P.fd f).scope = sc) (hb : (P.fd f).body = .stmts bd) (h : fnB sc tab ps = true) (hnp : ps.length = F.np)
    (hbind : ∀ vals : List Value, vals.length = F.np → bindArgs (P.fd f) ⟨vals, []⟩ = pure (ps.zip vals)) (sim : SimS P ⟨sc, tab⟩ bd F.body) : FnOk P f F tab ps bd := by
  subst hs
  simp only [fnB, Bool.and_eq_true, decide_eq_true_eq, Bool.not_eq_true'] at h
  obtain ⟨⟨⟨⟨⟨h1, h2⟩, h3⟩, h4⟩, h5⟩, h6⟩ := h
  refine ⟨hb, h1, hnp, fun i x hx => ?_, fun i x ht => ?_, hbind, h4, h5, h6, sim⟩
  · have := List.all_eq_true.mp h2 i (List.mem_range.mpr (List.getElem?_eq_some_iff.mp hx).1)
    rw [hx] at this
    cases ht : tab[i]? with
    | none => rw [ht] at this; cases this
    | some e =>
      rw [ht] at this
      cases e with
      | none => cases this
      | some p =>
        obtain ⟨y, k⟩ := p
        simp only [Bool.and_eq_true, Bool.or_eq_true, beq_iff_eq] at this
        obtain ⟨rfl, hk⟩ := this
        exact ⟨k, rfl, hk⟩
  · have := List.all_eq_true.mp h3 _ (List.mem_of_getElem? ht)
    cases this

theorem i_append : MId .list (Str.ofString "append") "list.append" := ⟨F.slot_list_append, F.type_list_append⟩
theorem i_join : MId .str (Str.ofString "join") "str.join" := ⟨F.slot_str_join, F.type_str_join⟩
theorem i_split : MId .str (Str.ofString "split") "str.split" := ⟨F.slot_str_split, F.type_str_split⟩
theorem SimE.len {P : Pg} {B : Blk} {e : Expr} {d : DE} {p pos : Pos} (hx : B.sc.names.lookup (Str.ofString "len") = some .globalImplicit) (hp : plainArgs [e] = true) (hn : ∀ env, starEach [e] env = [(false, eval e env)]) (h : SimE P B e d) : SimE P B (.Call (.Name (Str.ofString "len") p) [e] [] pos) (dB1 bLen d) :=
  SimE.b1 len_ok (fun _ q => by cases q) hx (by decide) (by decide) (by decide) hp hn h
theorem SimE.listOf {P : Pg} {B : Blk} {e : Expr} {d : DE} {p pos : Pos} (hx : B.sc.names.lookup (Str.ofString "list") = some .globalImplicit) (hp : plainArgs [e] = true) (hn : ∀ env, starEach [e] env = [(false, eval e env)]) (h : SimE P B e d) : SimE P B (.Call (.Name (Str.ofString "list") p) [e] [] pos) (dB1 bList d) :=
  SimE.b1 list_ok (fun _ q => by cases q) hx (by decide) (by decide) (by decide) hp hn h
theorem SimE.anyOf {P : Pg} {B : Blk} {e : Expr} {d : DE} {p pos : Pos} (hx : B.sc.names.lookup (Str.ofString "any") = some .globalImplicit) (hp : plainArgs [e] = true) (hn : ∀ env, starEach [e] env = [(false, eval e env)]) (h : SimE P B e d) : SimE P B (.Call (.Name (Str.ofString "any") p) [e] [] pos) (dB1 bAny d) :=
  SimE.b1 any_ok (fun _ q => by cases q) hx (by decide) (by decide) (by decide) hp hn h
end
end Mine
end
section
set_option autoImplicit false
namespace Mine
noncomputable section
open PySem PySem.W PyProof.Rows

/-- a function of the program, as it lies in the heap behind the top -/
structure FnIn (h : Heap) (mg : Str → Option Value) (nm : Str) (sc : Scope) (bd : List Stmt) (ps : List Str) (a : Addr) (fd : FuncData) : Prop where
  ns : mg nm = some (.ref a)
  obj : ∃ o, h.get? a = some o ∧ o.data = .func fd
  code : h.CodeRec fd.code fd.qualname
  name : fd.name = nm
  sc : fd.scope = sc
  bd : fd.body = .stmts bd
  cl : fd.closure = []
  gl : fd.globals = mainGlobals
  bt : fd.builtins = builtinsNs
  bind : ∀ vals : List Value, vals.length = ps.length → bindArgs fd ⟨vals, []⟩ = pure (ps.zip vals)
noncomputable def fnRec (q : Program) (nm : Str) : Option (Scope × List Stmt × Arguments) := ((recsOf q).find? fun d => d.name == nm).map fun d => (d.scope, d.body, d.params)
theorem fnIn_of {q : Program} {loose : List Str} {mean : ExcName → Option Value} {mg mb : Str → Option Value} {h : Heap} (T : Top q loose mean mg mb h) {nm : Str} {sc : Scope} {bd : List Stmt} {pa : Arguments} (ps : List Str) (hr : fnRec q nm = some (sc, bd, pa))
    (hb : ∀ (pm cd doc : Value) (vals : List Value), vals.length = ps.length → bindArgs (Calls.docDef nm pa bd sc pm cd doc) ⟨vals, []⟩ = pure (ps.zip vals)) : ∃ a fd, FnIn h mg nm sc bd ps a fd := by
  unfold fnRec at hr
  obtain ⟨d, hd, e⟩ := Option.map_eq_some_iff.mp hr
  have hn : d.name = nm := beq_iff_eq.mp (List.find?_some (p := fun d : DefRec => d.name == nm) hd)
  obtain ⟨a, o, pm, cd, doc, h1, h2, h3, h4⟩ := T.fn d (List.mem_of_find?_eq_some hd)
  simp only [Prod.mk.injEq] at e
  obtain ⟨rfl, rfl, rfl⟩ := e
  subst hn
  exact ⟨a, _, h1, ⟨o, h2, h3⟩, h4, rfl, rfl, rfl, rfl, rfl, rfl, hb pm cd doc⟩

noncomputable def freeB (q : Program) (loose : List Str) (x : Str) : Bool := !startupNames.contains x && !loose.contains x && !((recsOf q).map (·.name)).contains x && !((litsOf q).map (·.1)).contains x && !((clssOf q loose).map (·.name)).contains x
theorem free_of {q : Program} {loose : List Str} {mean : ExcName → Option Value} {mg mb : Str → Option Value} {h : Heap} (T : Top q loose mean mg mb h) {x : Str} (hx : freeB q loose x = true) : mg x = none := by
  simp only [freeB, Bool.and_eq_true, Bool.not_eq_true', List.contains_eq_mem, decide_eq_false_iff_not] at hx
  obtain ⟨⟨⟨⟨h1, h2⟩, h3⟩, h4⟩, h5⟩ := hx
  exact T.free x h1 h2 h3 h4 h5
theorem good_top {q : Program} {loose : List Str} {mean : ExcName → Option Value} {P : Pg} (T : Top q loose mean P.mg P.mb P.h₀) (hn : bnames.all (freeB q loose) = true)
    (hf : ∀ f F, P.Φ f = some F → ∃ nm sc bd ps, FnIn P.h₀ P.mg nm sc bd ps (P.fnA f) (P.fd f)) : Good P where
  g := T.g
  b := T.b
  nolimit := T.nolimit
  fn := fun f F h => by
    obtain ⟨nm, sc, bd, ps, x⟩ := hf f F h
    obtain ⟨o, e, d⟩ := x.obj
    exact ⟨o, e, d, by rw [x.name]; exact x.ns, x.code, x.cl, x.gl, x.bt⟩
  blt := fun x hx => ⟨free_of T (List.all_eq_true.mp hn x hx), T.builtins x fun q => by rw [q] at hx; revert hx; decide⟩
theorem fnOk_in {P : Pg} {f : Nat} {F : Fn} {nm : Str} {sc : Scope} {bd : List Stmt} {ps : List Str} {tab : List (Option (Str × NameKind))} (x : FnIn P.h₀ P.mg nm sc bd ps (P.fnA f) (P.fd f)) (h : fnB sc tab ps = true) (hnp : ps.length = F.np) (sim : SimS P ⟨sc, tab⟩ bd F.body) : FnOk P f F tab ps bd :=
  FnOk.of x.sc x.bd h hnp (fun vals hv => x.bind vals (by rw [hnp]; exact hv)) sim
theorem ints_rel {P : Pl} {β : Bk} {h : Heap} : ∀ {vs : List Value} {ns : List Int}, IntsAre vs ns → RelL P β h (ns.map V.int) vs
  | _, _, .nil => .nil
  | _, _, .cons n t r => .cons (.int n t) (ints_rel r)

/-- the law's call -/
theorem law_call {P : Pg} (G : Good P) (hF : ∀ f F, P.Φ f = some F → ∃ tab ps body, FnOk P f F tab ps body) {A : Around} {n f : Nat} {l : Addr} {vs : List Value} {ns : List Int} {μ' : Mem} {s : Shared} (hs : P.h₀ = s.heap) (room : Room A n) (hfr : A.frames = some []) (hl : s.heap.IsList l vs.toArray) (hi : IntsAre vs ns) (hn : ns.length ≤ 63)
    (hc : P.call n f [.scr ns] [] = .ok (.bool true) μ') :
    wpAny P.M A (PySem.call (.ref (P.fnA f)) [.ref l]) (fun v s' => v = .bool true ∧ ∃ h' tk, s' = { s with heap := h', toks := tk } ∧ ∀ a o, s.heap.get? a = some o → h'.get? a = some o) (fun _ _ => False) s := by
  have I : Inv P.toPl [] [] s.heap := ⟨rfl, List.nodup_nil, fun i o a e => by simp at e, fun a o e => by rw [← hs]; exact e, fun a ha => by cases ha⟩
  have hlen := hi.length
  have r : RelL P.toPl [] s.heap [.scr ns] [.ref l] := .cons (.scr (by rw [hs]; exact hl) (by simp only [List.size_toArray, lim]; omega) (ints_rel hi)) .nil
  refine wpAny_call (codeAny_mono (callOk G hF n n (Nat.le_refl n) f A [.scr ns] [.ref l] [] [] s room ⟨[], hfr, fun e he => by cases he⟩ I r (by rw [hc]; exact fun q => by cases q)) fun res s' q => ?_)
  match res, q with
  | .ok (.ret u), q =>
    obtain ⟨v, μ₁, β₁, e, p, rv⟩ := q
    rw [hc] at e; cases e
    cases rv
    obtain ⟨h', tk, e⟩ := p.st
    refine ⟨rfl, h', tk, e, fun a o ea => ?_⟩
    have := p.inv.base a o (by rw [hs]; exact ea)
    rw [e] at this; exact this
  | .ok .next, q => exact q.elim
  | .ok .brk, q => exact q.elim
  | .ok .cont, q => exact q.elim
  | .error u, q =>
    obtain ⟨c, μ₁, β₁, e, _⟩ := q
    rw [hc] at e; cases e

theorem good_end {c : ClaimW} {cl : Str → Option Addr} {mean : ExcName → Option Value} {args : List WData} {s₁ : Shared} {h : Heap} {tk : Nat} (hr : ∀ cls, c.raises args cls = false) (hp : c.post args (.bool true) args = true) (hb : AllBare s₁.gens)
    (hk : ∀ a o, s₁.heap.get? a = some o → h.get? a = some o) : GoodWG c cl mean args s₁ (.ok (.ret (.bool true))) { s₁ with heap := h, toks := tk } :=
  ⟨.inl ⟨_, _, [], rfl, hr, ReadsW.bool true, hp, fun _ => ⟨List.nodup_nil, fun _ hm => (nomatch hm)⟩⟩, .of_keep hk, rfl, hb⟩
end
end Mine
end
section
set_option autoImplicit false
namespace Mine
noncomputable section
open PySem

noncomputable def ok {α : Type} (r : R α) (Q : α → Mem → Prop) : Prop := match r with
  | .ok a μ => Q a μ
  | _ => False
noncomputable def okS (r : RS) (Q : Fr → Mem → Prop) (T : V → Mem → Prop) : Prop := match r with
  | .next ρ μ => Q ρ μ
  | .ret v μ => T v μ
  | _ => False

section
variable {α β : Type} {c : Cx} {ρ : Fr} {μ : Mem}
theorem ok_ok {a : α} {Q : α → Mem → Prop} : ok (.ok a μ) Q = Q a μ := propext Iff.rfl
theorem ok_bad {Q : α → Mem → Prop} : ok .bad Q = False := propext Iff.rfl
theorem ok_bind {r : R α} {f : α → Mem → R β} {Q : β → Mem → Prop} : ok (r.bind f) Q = ok r fun a μ => ok (f a μ) Q := by cases r <;> rfl
theorem ok_opt_some {a : α} {Q : α → Mem → Prop} : ok (R.opt μ (some a)) Q = Q a μ := propext Iff.rfl
theorem ok_mono {r : R α} {Q Q' : α → Mem → Prop} (h : ok r Q) (k : ∀ a μ, Q a μ → Q' a μ) : ok r Q' := by
  cases r with
  | ok a μ => exact k a μ h
  | exc => exact h
  | bad => exact h
theorem okS_mono {r : RS} {Q Q' : Fr → Mem → Prop} {T T' : V → Mem → Prop} (h : okS r Q T) (k : ∀ ρ μ, Q ρ μ → Q' ρ μ) (k' : ∀ v μ, T v μ → T' v μ) : okS r Q' T' := by
  cases r with
  | next ρ μ => exact k ρ μ h
  | ret v μ => exact k' v μ h
  | exc => exact h
  | bad => exact h
theorem ok_of {r : R α} {Q : α → Mem → Prop} (h : ok r Q) : ∃ a μ', r = .ok a μ' ∧ Q a μ' := by
  cases r with
  | ok a μ => exact ⟨a, μ, rfl, h⟩
  | exc => exact h.elim
  | bad => exact h.elim
theorem okS_then {r : R α} {f : α → Mem → RS} {Q : Fr → Mem → Prop} {T : V → Mem → Prop} : okS (r.thenS ρ f) Q T = ok r fun a μ => okS (f a μ) Q T := by cases r <;> rfl

theorem ok_dV {i : Nat} {Q : V → Mem → Prop} : ok (dV i c ρ μ) Q = match ρ i with | some a => Q a μ | none => False := by unfold dV; cases ρ i <;> rfl
theorem ok_dC {v : V} {Q : V → Mem → Prop} : ok (dC v c ρ μ) Q = Q v μ := propext Iff.rfl
theorem ok_dBin {f : V → V → Mem → R V} {l r : DE} {Q : V → Mem → Prop} : ok (dBin f l r c ρ μ) Q = ok (l c ρ μ) fun a μ => ok (r c ρ μ) fun b μ => ok (f a b μ) Q := by simp only [dBin, ok_bind]
theorem ok_dUn {f : V → Mem → R V} {l : DE} {Q : V → Mem → Prop} : ok (dUn f l c ρ μ) Q = ok (l c ρ μ) fun a μ => ok (f a μ) Q := by simp only [dUn, ok_bind]
theorem ok_dCmp {f : Mem → V → V → Option Bool} {l r : DE} {Q : V → Mem → Prop} : ok (dCmp f l r c ρ μ) Q = ok (l c ρ μ) fun a μ => ok (r c ρ μ) fun b μ => ok (R.opt μ (f μ a b)) fun t μ => Q (.bool t) μ := by simp only [dCmp, ok_bind]; rfl
theorem ok_tCmp {f : Mem → V → V → Option Bool} {l r : DE} {Q : Bool → Mem → Prop} : ok (tCmp f l r c ρ μ) Q = ok (l c ρ μ) fun a μ => ok (r c ρ μ) fun b μ => ok (R.opt μ (f μ a b)) Q := by simp only [tCmp, ok_bind]
theorem ok_dNil {Q : List V → Mem → Prop} : ok (dNil c ρ μ) Q = Q [] μ := propext Iff.rfl
theorem ok_dCons {d : DE} {r : DL} {Q : List V → Mem → Prop} : ok (dCons d r c ρ μ) Q = ok (d c ρ μ) fun v μ => ok (r c ρ μ) fun vs μ => Q (v :: vs) μ := by simp only [dCons, ok_bind]; rfl
theorem ok_dTup {r : DL} {Q : V → Mem → Prop} : ok (dTup r c ρ μ) Q = ok (r c ρ μ) fun vs μ => ok (newT μ vs) Q := by simp only [dTup, ok_bind]
theorem ok_dLst {r : DL} {Q : V → Mem → Prop} : ok (dLst r c ρ μ) Q = ok (r c ρ μ) fun vs μ => ok (newL μ vs) Q := by simp only [dLst, ok_bind]
theorem ok_tE {d : DE} {Q : Bool → Mem → Prop} : ok (tE d c ρ μ) Q = ok (d c ρ μ) fun v μ => ok (R.opt μ (truth μ v)) Q := by simp only [tE, ok_bind]
theorem ok_tNot {t : DT} {Q : Bool → Mem → Prop} : ok (tNot t c ρ μ) Q = ok (t c ρ μ) fun b μ => Q (!b) μ := by simp only [tNot, ok_bind]; rfl
theorem ok_tAnd {t u : DT} {Q : Bool → Mem → Prop} : ok (tAnd t u c ρ μ) Q = ok (t c ρ μ) fun b μ => if b = true then ok (u c ρ μ) Q else Q false μ := by
  simp only [tAnd, ok_bind]; congr 1; funext b μ; cases b <;> rfl
theorem ok_tOr {t u : DT} {Q : Bool → Mem → Prop} : ok (tOr t u c ρ μ) Q = ok (t c ρ μ) fun b μ => if b = true then Q true μ else ok (u c ρ μ) Q := by
  simp only [tOr, ok_bind]; congr 1; funext b μ; cases b <;> rfl
theorem ok_tTrue {Q : Bool → Mem → Prop} : ok (tTrue c ρ μ) Q = Q true μ := propext Iff.rfl
theorem ok_tFalse {Q : Bool → Mem → Prop} : ok (tFalse c ρ μ) Q = Q false μ := propext Iff.rfl
theorem ok_dNot {d : DE} {Q : V → Mem → Prop} : ok (dNot d c ρ μ) Q = ok (d c ρ μ) fun v μ => ok (R.opt μ (truth μ v)) fun b μ => Q (.bool (!b)) μ := by simp only [dNot, ok_bind]; rfl
theorem ok_dAnd {d e : DE} {Q : V → Mem → Prop} : ok (dAnd d e c ρ μ) Q = ok (d c ρ μ) fun v μ => ok (R.opt μ (truth μ v)) fun b μ => if b = true then ok (e c ρ μ) Q else Q v μ := by
  simp only [dAnd, ok_bind]; congr 1; funext v μ; congr 1; funext b μ; cases b <;> rfl
theorem ok_dOr {d e : DE} {Q : V → Mem → Prop} : ok (dOr d e c ρ μ) Q = ok (d c ρ μ) fun v μ => ok (R.opt μ (truth μ v)) fun b μ => if b = true then Q v μ else ok (e c ρ μ) Q := by
  simp only [dOr, ok_bind]; congr 1; funext v μ; congr 1; funext b μ; cases b <;> rfl
theorem ok_dIf {t : DT} {d e : DE} {Q : V → Mem → Prop} : ok (dIf t d e c ρ μ) Q = ok (t c ρ μ) fun b μ => if b = true then ok (d c ρ μ) Q else ok (e c ρ μ) Q := by
  simp only [dIf, ok_bind]; congr 1; funext b μ; cases b <;> rfl
theorem ok_dIdx {a i : DE} {Q : V → Mem → Prop} : ok (dIdx a i c ρ μ) Q = ok (a c ρ μ) fun v μ => ok (i c ρ μ) fun k μ => ok (item μ v k) Q := by simp only [dIdx, ok_bind]
theorem ok_oNone {Q : Option Int → Mem → Prop} : ok (oNone c ρ μ) Q = Q none μ := propext Iff.rfl
theorem ok_oSome {d : DE} {Q : Option Int → Mem → Prop} : ok (oSome d c ρ μ) Q = ok (d c ρ μ) fun v μ => match v with | .int i => Q (some i) μ | _ => False := by
  simp only [oSome, ok_bind]; congr 1; funext v μ; cases v <;> rfl
theorem ok_dSlc {a : DE} {lo hi : DO} {Q : V → Mem → Prop} : ok (dSlc a lo hi c ρ μ) Q = ok (a c ρ μ) fun v μ => ok (lo c ρ μ) fun l μ => ok (hi c ρ μ) fun h μ => ok (slc μ l h v) Q := by simp only [dSlc, ok_bind]
theorem ok_dCall {f : Nat} {args : DL} {Q : V → Mem → Prop} : ok (dCall f args c ρ μ) Q = ok (args c ρ μ) fun vs μ => ok (c.call f vs μ) Q := by simp only [dCall, ok_bind]
theorem ok_dB1 {f : Mem → V → R V} {d : DE} {Q : V → Mem → Prop} : ok (dB1 f d c ρ μ) Q = ok (d c ρ μ) fun v μ => ok (f μ v) Q := by simp only [dB1, ok_bind]
theorem ok_dB2 {f : Mem → V → V → R V} {d e : DE} {Q : V → Mem → Prop} : ok (dB2 f d e c ρ μ) Q = ok (d c ρ μ) fun v μ => ok (e c ρ μ) fun u μ => ok (f μ v u) Q := by simp only [dB2, ok_bind]
theorem ok_dM1 {K : MK} {f : Mem → V → V → R V} {o e : DE} {Q : V → Mem → Prop} : ok (dM1 K f o e c ρ μ) Q = ok (o c ρ μ) fun v μ => hasK μ v K = true ∧ ok (e c ρ μ) fun u μ => ok (f μ v u) Q := by
  simp only [dM1, ok_bind]; congr 1; funext v μ
  by_cases h : hasK μ v K = true
  · rw [if_pos h]; simp only [ok_bind, h, true_and]
  · rw [if_neg h]; simp [h, ok]
theorem ok_newL {xs : List V} {Q : V → Mem → Prop} : ok (newL μ xs) Q = (xs.length ≤ lim ∧ Q (.ref μ.length) (μ ++ [.list xs])) := by
  unfold newL
  split
  · rename_i h; simp [ok, h]
  · rename_i h; simp only [ok, h, false_and]
theorem ok_newT {xs : List V} {Q : V → Mem → Prop} : ok (newT μ xs) Q = (xs.length ≤ lim ∧ Q (.tup xs) μ) := by
  unfold newT
  split
  · rename_i h; simp [ok, h]
  · rename_i h; simp only [ok, h, false_and]
theorem ok_newS {x : Str} {Q : V → Mem → Prop} : ok (newS μ x) Q = (x.length ≤ lim ∧ Q (.str x) μ) := by
  unfold newS
  split
  · rename_i h; simp [ok, h]
  · rename_i h; simp only [ok, h, false_and]

theorem okS_seq {a b : DS} {Q : Fr → Mem → Prop} {T : V → Mem → Prop} : okS (sSeq a b c ρ μ) Q T = okS (a c ρ μ) (fun ρ μ => okS (b c ρ μ) Q T) T := by
  unfold sSeq; cases a c ρ μ <;> rfl
theorem okS_nil {Q : Fr → Mem → Prop} {T : V → Mem → Prop} : okS (sNil c ρ μ) Q T = Q ρ μ := propext Iff.rfl
theorem okS_set {i : Nat} {d : DE} {Q : Fr → Mem → Prop} {T : V → Mem → Prop} : okS (sSet i d c ρ μ) Q T = ok (d c ρ μ) fun v μ => Q (ρ.set i v) μ := by simp only [sSet, okS_then]; rfl
theorem okS_if {t : DT} {a b : DS} {Q : Fr → Mem → Prop} {T : V → Mem → Prop} : okS (sIf t a b c ρ μ) Q T = ok (t c ρ μ) fun q μ => if q = true then okS (a c ρ μ) Q T else okS (b c ρ μ) Q T := by
  simp only [sIf, okS_then]; congr 1; funext b μ; cases b <;> rfl
theorem okS_ret {d : DE} {Q : Fr → Mem → Prop} {T : V → Mem → Prop} : okS (sRet d c ρ μ) Q T = ok (d c ρ μ) T := by simp only [sRet, okS_then]; rfl
theorem okS_expr {d : DE} {Q : Fr → Mem → Prop} {T : V → Mem → Prop} : okS (sExpr d c ρ μ) Q T = ok (d c ρ μ) fun _ μ => Q ρ μ := by simp only [sExpr, okS_then]; rfl
theorem okS_put {o i e : DE} {Q : Fr → Mem → Prop} {T : V → Mem → Prop} : okS (sPut o i e c ρ μ) Q T = ok (e c ρ μ) fun v μ => ok (o c ρ μ) fun a μ => ok (i c ρ μ) fun k μ => match putItem μ a k v with | some μ => Q ρ μ | none => False := by
  simp only [sPut, okS_then]; congr 1; funext v μ; congr 1; funext a μ; congr 1; funext k μ
  cases putItem μ a k v <;> rfl

theorem ok_call {Φ : Nat → Option Fn} {fu n f : Nat} {F : Fn} {args : List V} {Q : V → Mem → Prop} (hf : Φ f = some F) (ha : args.length = F.np) (h : okS (F.body ⟨callF Φ fu n, fu⟩ (fun i => args[i]?) μ) (fun _ μ => Q .none μ) Q) : ok (callF Φ fu (n + 1) f args μ) Q := by
  simp only [callF, hf, ha, if_true]
  cases hb : F.body ⟨callF Φ fu n, fu⟩ (fun i => args[i]?) μ with
  | next ρ μ' => rw [hb] at h; exact h
  | ret v μ' => rw [hb] at h; exact h
  | exc c ρ μ' => rw [hb] at h; exact h
  | bad => rw [hb] at h; exact h

theorem set_apply {i j : Nat} {v : V} : (ρ.set i v) j = if j = i then some v else ρ j := by
  by_cases h : j = i
  · subst h; rw [Fr.set_self, if_pos rfl]
  · rw [Fr.set_ne _ _ h, if_neg h]

theorem okS_for {it : DI} {bd : Bd} {body : DS} {Q : Fr → Mem → Prop} {T : V → Mem → Prop} : okS (sFor it bd body c ρ μ) Q T = ok (it c ρ μ) fun t μ => okS (forS t.chk bd body c t.items ρ μ) Q T := by simp only [sFor, okS_then]

/-- a comprehension without a test, by an invariant over the memory -/
theorem ok_compS {chk : Mem → Bool} {bd : Bd} {elt : DE} (g : V → V) (I : Mem → Prop) {Q : List V → Mem → Prop} :
    ∀ (items acc : List V) (μ : Mem), I μ → acc.length + items.length ≤ lim → (∀ μ, I μ → chk μ = true) → (∀ v ∈ items, ∀ μ, I μ → ∃ ρ', bd v ρ = some ρ' ∧ ok (elt c ρ' μ) fun x μ' => x = g v ∧ I μ') → (∀ μ, I μ → Q (acc ++ items.map g) μ) → ok (compS chk bd tTrue elt c ρ items μ acc) Q
  | [], acc, μ, hi, _, hc, _, hq => by
    rw [compS, if_pos (hc μ hi)]
    have := hq μ hi
    simpa [ok] using this
  | v :: r, acc, μ, hi, hl, hc, he, hq => by
    obtain ⟨ρ', h1, h2⟩ := he v List.mem_cons_self μ hi
    simp only [compS, hc μ hi, if_true, h1, tTrue, R.quiet]
    obtain ⟨x, μ', hx, rfl, hi'⟩ := ok_of h2
    simp only [hx]
    simp only [List.length_cons] at hl
    rw [if_pos (by omega)]
    exact ok_compS g I r (acc ++ [g v]) μ' hi' (by simp; omega) hc (fun u hu => he u (List.mem_cons_of_mem _ hu)) fun μ h => by simpa using hq μ h
theorem ok_dComp {locs : List Nat} {it : DI} {bd : Bd} {cond : DT} {elt : DE} {Q : V → Mem → Prop} : ok (dComp locs it bd cond elt c ρ μ) Q = ok (it c ρ μ) fun t μ => locs.all (fun i => (ρ i).isNone) = true ∧ ok (compS t.chk bd cond elt c ρ t.items μ []) fun xs μ => ok (newL μ xs) Q := by
  simp only [dComp, ok_bind]; congr 1; funext t μ
  by_cases h : locs.all (fun i => (ρ i).isNone) = true
  · rw [if_pos h]; simp only [ok_bind, h, true_and]
  · rw [if_neg h]; simp only [h]; simp [ok]
theorem ok_iRange {ds : DL} {Q : It → Mem → Prop} : ok (iRange ds c ρ μ) Q = ok (ds c ρ μ) fun vs μ => ok (rangeArgs μ vs) Q := by simp only [iRange, ok_bind]
theorem ok_iSeq {d : DE} {Q : It → Mem → Prop} : ok (iSeq d c ρ μ) Q = ok (d c ρ μ) fun v μ => match v with
    | .tup xs => Q ⟨xs, fun _ => true⟩ μ
    | .ref a => match μ[a]? with
      | some (.list xs) => Q ⟨xs, fun μ => decide (μ[a]? = some (.list xs))⟩ μ
      | _ => False
    | _ => False := by
  simp only [iSeq, ok_bind]; congr 1; funext v μ
  cases v <;> simp only [ok]
  rename_i a
  cases μ[a]? with
  | none => rfl
  | some o => cases o <;> rfl
end

theorem pre_get {μ μ' : Mem} (h : μ <+: μ') {a : Nat} {o : O} (e : μ[a]? = some o) : μ'[a]? = some o := by
  obtain ⟨t, rfl⟩ := h
  rw [List.getElem?_append_left (List.getElem?_eq_some_iff.mp e).1]; exact e
theorem pre_len {μ μ' : Mem} (h : μ <+: μ') : μ.length ≤ μ'.length := h.length_le
theorem new_get (μ : Mem) (o : O) : (μ ++ [o])[μ.length]? = some o := by simp
theorem pre_new (μ : Mem) (o : O) : μ <+: μ ++ [o] := List.prefix_append _ _

/- items of the operations -/
theorem seqIndex_nat {i n : Nat} (h : i < n) : seqIndex? (i : Int) n = some i := by
  unfold seqIndex?
  simp only
  split <;> simp_all <;> omega
theorem small_nat {i : Nat} (h : i ≤ lim) : small (i : Int) = true := by
  have : lim = 1000000 := rfl
  simp only [small, Bool.and_eq_true, decide_eq_true_eq]; omega
theorem at_nat {xs : List V} {i : Nat} {v : V} (h : xs[i]? = some v) (hl : xs.length ≤ lim) : at? (i : Int) xs = some v := by
  have hi := (List.getElem?_eq_some_iff.mp h).1
  rw [at?, if_pos (small_nat (by omega)), seqIndex_nat hi]; exact h
theorem item_list {μ : Mem} {a i : Nat} {xs : List V} {v : V} (h : μ[a]? = some (.list xs)) (hv : xs[i]? = some v) (hl : xs.length ≤ lim) : item μ (.ref a) (.int (i : Int)) = .ok v μ := by
  simp only [item, h, at_nat hv hl]; rfl
theorem item_tup {μ : Mem} {i : Nat} {xs : List V} {v : V} (hv : xs[i]? = some v) (hl : xs.length ≤ lim) : item μ (.tup xs) (.int (i : Int)) = .ok v μ := by
  simp only [item, at_nat hv hl]; rfl
theorem len_list {μ : Mem} {a : Nat} {xs : List V} (h : μ[a]? = some (.list xs)) : bLen μ (.ref a) = .ok (.int xs.length) μ := by simp only [bLen, h]
theorem cEq_int {μ : Mem} {a b : Int} : cEq μ (.int a) (.int b) = some (a == b) := rfl
theorem cEq_str {μ : Mem} {a b : Str} : cEq μ (.str a) (.str b) = some (PyData.eqv (.str a) (.str b)) := rfl
theorem range_size_up {a b : Int} (h : a ≤ b) : (Builtin.Range.rangeSize a b 1).toNat = (b - a).toNat := by
  unfold Builtin.Range.rangeSize
  simp only [show (1 : Int) > 0 by decide, if_true, Int.ediv_one]
  split <;> omega
theorem range_size_down {a b : Int} (h : b ≤ a) : (Builtin.Range.rangeSize a b (-1)).toNat = (a - b).toNat := by
  unfold Builtin.Range.rangeSize
  simp only [show ¬ ((-1 : Int) > 0) by decide, if_false, Int.neg_neg, Int.ediv_one]
  split <;> omega
theorem rangeL_up (a n : Nat) : rangeL (a : Int) ((a + n : Nat) : Int) 1 = (List.range' a n).map fun k => V.int (k : Nat) := by
  unfold rangeL
  rw [range_size_up (by omega), show (((a + n : Nat) : Int) - (a : Int)).toNat = n by omega]
  apply List.ext_getElem
  · simp
  · intro i h1 h2
    simp
theorem rangeL_down (n : Nat) : rangeL ((n : Int) - 1) (-1) (-1) = (List.range n).reverse.map fun k => V.int (k : Nat) := by
  unfold rangeL
  rw [range_size_down (by omega), show ((n : Int) - 1 - -1).toNat = n by omega]
  apply List.ext_getElem
  · simp
  · intro i h1 h2
    simp at h1 h2
    simp
    omega
theorem tiny_nat {i : Nat} (h : i ≤ lim) : tiny (i : Int) = true := by
  have : lim = 1000000 := rfl
  simp only [tiny, Bool.and_eq_true, decide_eq_true_eq]; omega
theorem range1 {μ : Mem} {n : Nat} (h : n ≤ lim) : rangeArgs μ [.int (n : Int)] = .ok ⟨(List.range' 0 n).map fun k => V.int (k : Nat), fun _ => true⟩ μ := by
  have := rangeL_up 0 n
  simp only [Nat.zero_add] at this
  simp only [rangeArgs, rangeOf, tiny_nat h, show tiny 0 = true from rfl, Bool.and_self, decide_true, Bool.true_or, if_true]
  rw [← this]; rfl
theorem range2 {μ : Mem} {a n : Nat} (h : a + n ≤ lim) : rangeArgs μ [.int (a : Int), .int ((a + n : Nat) : Int)] = .ok ⟨(List.range' a n).map fun k => V.int (k : Nat), fun _ => true⟩ μ := by
  have := rangeL_up a n
  simp only [rangeArgs, rangeOf, tiny_nat h, tiny_nat (show a ≤ lim by omega), Bool.and_self, decide_true, Bool.true_or, if_true]
  rw [← this]
theorem range3 {μ : Mem} {n : Nat} (h : n ≤ lim) : rangeArgs μ [.int ((n : Int) - 1), .int (-1), .int (-1)] = .ok ⟨(List.range n).reverse.map fun k => V.int (k : Nat), fun _ => true⟩ μ := by
  have h1 : tiny ((n : Int) - 1) = true := by
    have : lim = 1000000 := rfl
    simp only [tiny, Bool.and_eq_true, decide_eq_true_eq]; omega
  simp only [rangeArgs, rangeOf, h1, show tiny (-1) = true from rfl, Bool.and_self, decide_true, Bool.or_true, if_true]
  rw [← rangeL_down n]

section
variable {c : Cx} {ρ : Fr} {μ : Mem}
theorem ok_comp_nil {chk : Mem → Bool} {bd : Bd} {cond : DT} {elt : DE} {acc : List V} {Q : List V → Mem → Prop} (h1 : chk μ = true) (h2 : Q acc μ) : ok (compS chk bd cond elt c ρ [] μ acc) Q := by
  rw [compS, if_pos h1]; exact h2
theorem ok_comp_cons {chk : Mem → Bool} {bd : Bd} {elt : DE} {v : V} {r acc : List V} {ρ' : Fr} {Q : List V → Mem → Prop} (h1 : chk μ = true) (h2 : bd v ρ = some ρ') (h3 : ok (elt c ρ' μ) fun x μ' => acc.length < lim ∧ ok (compS chk bd tTrue elt c ρ r μ' (acc ++ [x])) Q) : ok (compS chk bd tTrue elt c ρ (v :: r) μ acc) Q := by
  simp only [compS, h1, if_true, h2, tTrue, R.quiet]
  obtain ⟨x, μ', hx, hl, h⟩ := ok_of h3
  simp only [hx, hl, if_true]
  exact h
theorem bools_of : ∀ bs : List Bool, boolsOf (bs.map V.bool) = some bs
  | [] => rfl
  | b :: r => by simp only [List.map_cons, boolsOf, bools_of r]; rfl
theorem truths_of : ∀ bs : List Bool, truths μ (bs.map V.bool) = some bs
  | [] => rfl
  | b :: r => by simp only [List.map_cons, truths, truth, truths_of r]
theorem clip_nat {n k : Nat} (h : k ≤ n) : clipAt n (k : Int) = k := by
  unfold clipAt
  rw [if_neg (by omega)]; omega
theorem clip_over {n k : Nat} (h : n ≤ k) : clipAt n (k : Int) = n := by
  unfold clipAt
  rw [if_neg (by omega)]; omega
theorem cut_from {α : Type} {k : Nat} {xs : List α} (h : k ≤ xs.length) : cut (some (k : Int)) none xs = xs.drop k := by
  simp only [cut, Option.elim, clip_nat h]
  rw [List.take_of_length_le (by simp)]
theorem cut_to {α : Type} {k : Nat} {xs : List α} : cut none (some (k : Int)) xs = xs.take k := by
  simp only [cut, Option.elim, List.drop_zero, Nat.sub_zero]
  by_cases h : k ≤ xs.length
  · rw [clip_nat h]
  · rw [clip_over (by omega), List.take_of_length_le (Nat.le_refl _), List.take_of_length_le (by omega)]
theorem slc_list {a : Nat} {xs : List V} {lo hi : Option Int} (h : μ[a]? = some (.list xs)) : slc μ lo hi (.ref a) = newL μ (cut lo hi xs) := by simp only [slc, h]
theorem add_list {a b : Nat} {xs ys : List V} (h1 : μ[a]? = some (.list xs)) (h2 : μ[b]? = some (.list ys)) : opAdd (.ref a) (.ref b) μ = newL μ (xs ++ ys) := by simp only [opAdd, h1, h2]
theorem flat_rep {α : Type} (x : α) : ∀ n : Nat, (List.replicate n [x]).flatten = List.replicate n x
  | 0 => rfl
  | n + 1 => by rw [List.replicate_succ, List.flatten_cons, flat_rep x n, List.replicate_succ]; rfl
theorem mul_one {a n : Nat} {x : V} (h : μ[a]? = some (.list [x])) (hn : n ≤ lim) : opMul (.ref a) (.int (n : Int)) μ = newL μ (List.replicate n x) := by
  simp only [opMul, h, small_nat hn, Int.toNat_natCast, List.length_cons, List.length_nil, Bool.true_and]
  rw [if_pos (by simp; exact hn), flat_rep]
theorem zip_list {f : Bool → Bool → Bool} {a b : Nat} {bs cs : List Bool} (h1 : μ[a]? = some (.list (bs.map V.bool))) (h2 : μ[b]? = some (.list (cs.map V.bool))) : bZip f μ (.ref a) (.ref b) = newL μ ((List.zipWith f bs cs).map V.bool) := by
  simp only [bZip, h1, h2, bools_of]
theorem any_list {a : Nat} {bs : List Bool} (h : μ[a]? = some (.list (bs.map V.bool))) : bAny μ (.ref a) = .ok (.bool (bs.any id)) μ := by
  simp only [bAny, h, truths_of]; rfl
end

section
variable {c : Cx} {ρ : Fr} {μ : Mem}
theorem okS_for_nil {chk : Mem → Bool} {bd : Bd} {body : DS} {Q : Fr → Mem → Prop} {T : V → Mem → Prop} (h : chk μ = true) (hq : Q ρ μ) : okS (forS chk bd body c [] ρ μ) Q T := by
  rw [forS, if_pos h]; exact hq
theorem okS_for_cons {chk : Mem → Bool} {bd : Bd} {body : DS} {v : V} {r : List V} {ρ' : Fr} {Q : Fr → Mem → Prop} {T : V → Mem → Prop} (h1 : chk μ = true) (h2 : bd v ρ = some ρ') (h3 : okS (body c ρ' μ) (fun ρ μ => okS (forS chk bd body c r ρ μ) Q T) T) : okS (forS chk bd body c (v :: r) ρ μ) Q T := by
  rw [forS, if_pos h1, h2]
  simp only
  cases hb : body c ρ' μ with
  | next ρ'' μ' => rw [hb] at h3; exact h3
  | ret u μ' => rw [hb] at h3; exact h3
  | exc x ρ'' μ' => rw [hb] at h3; exact h3.elim
  | bad => rw [hb] at h3; exact h3.elim
/-- a comprehension whose elements have a property -/
theorem ok_compP {chk : Mem → Bool} {bd : Bd} {elt : DE} (p : V → Prop) (I : Mem → Prop) {Q : List V → Mem → Prop} :
    ∀ (items acc : List V) (μ : Mem), I μ → acc.length + items.length ≤ lim → (∀ x ∈ acc, p x) → (∀ μ, I μ → chk μ = true) → (∀ v ∈ items, ∀ μ, I μ → ∃ ρ', bd v ρ = some ρ' ∧ ok (elt c ρ' μ) fun x μ' => p x ∧ I μ') → (∀ xs μ, xs.length = acc.length + items.length → (∀ x ∈ xs, p x) → I μ → Q xs μ) → ok (compS chk bd tTrue elt c ρ items μ acc) Q
  | [], acc, μ, hi, _, ha, hc, _, hq => by
    rw [compS, if_pos (hc μ hi)]
    exact hq acc μ rfl ha hi
  | v :: r, acc, μ, hi, hl, ha, hc, he, hq => by
    obtain ⟨ρ', h1, h2⟩ := he v List.mem_cons_self μ hi
    simp only [List.length_cons] at hl
    refine ok_comp_cons (hc μ hi) h1 (ok_mono h2 fun x μ' h => ⟨by omega, ?_⟩)
    refine ok_compP p I r (acc ++ [x]) μ' h.2 (by simp; omega) (fun y hy => ?_) hc (fun u hu => he u (List.mem_cons_of_mem _ hu)) fun xs μ hx => hq xs μ (by simp at hx ⊢; omega)
    rcases List.mem_append.mp hy with hy | hy
    · exact ha y hy
    · rw [List.mem_singleton.mp hy]; exact h.1
theorem append_last {xs : List V} {v : V} (h : xs.length < lim) : bAppend (μ ++ [.list xs]) (.ref μ.length) v = .ok .none (μ ++ [.list (xs ++ [v])]) := by
  simp only [bAppend, new_get, h, if_true]
  rw [List.set_append_right _ _ (Nat.le_refl _), Nat.sub_self]; rfl
theorem cutS_len {lo hi : Option Int} {x : Str} : (cutS lo hi x).length ≤ x.length := by
  have : (cut lo hi x.cps.toList).length ≤ x.cps.toList.length := by
    simp only [cut, List.length_take, List.length_drop]; omega
  have e : x.length = x.cps.toList.length := by simp [Str.length]
  rw [e]
  show (cut lo hi x.cps.toList).toArray.size ≤ _
  simpa using this
theorem strOk_join : ∀ {ts : List Str} {sep : Str}, PyData.strOk sep = true → (∀ t ∈ ts, PyData.strOk t = true) → PyData.strOk (Str.join sep ts) = true
  | [], _, _, _ => by rw [Str.join]; simp [PyData.strOk, Str.empty]
  | [x], _, _, h => h x List.mem_cons_self
  | x :: y :: r, sep, hs, h => by
    rw [Str.join]
    · exact strOk_append (strOk_append (h x List.mem_cons_self) hs) (strOk_join hs fun t ht => h t (List.mem_cons_of_mem _ ht))
    · exact fun q => by cases q
end
/-- a letter of a text -/
theorem item_str {μ : Mem} {x : Str} {i : Nat} (h : i < x.length) (hl : x.length ≤ lim) : ∃ c, x.cps[i]? = some c ∧ item μ (.str x) (.int (i : Int)) = .ok (.str ⟨#[c]⟩) μ := by
  have hx : i < x.cps.size := h
  refine ⟨x.cps[i], Array.getElem?_eq_getElem hx, ?_⟩
  simp only [item, small_nat (show i ≤ lim by omega), if_true, seqIndex_nat h, Option.bind_some, Array.getElem?_eq_getElem hx, Option.map_some]
  rfl
end
end Mine
end
section
set_option autoImplicit false
namespace Mine
noncomputable section
open PySem

section
variable {α β : Type} {c : Cx} {ρ : Fr} {μ μ' : Mem} {Q : Fr → Mem → Prop} {T : V → Mem → Prop}
theorem ok_run {r : R α} {a : α} {P : α → Mem → Prop} (e : r = .ok a μ') (h : P a μ') : ok r P := by rw [e]; exact h
theorem run_newL {xs : List V} (h : xs.length ≤ lim) : newL μ xs = .ok (.ref μ.length) (μ ++ [.list xs]) := if_pos h
theorem at_call {f : Nat} {as : DL} {vs : List V} {P : V → Mem → Prop} (h : ok (c.call f vs μ') P) (e : as c ρ μ = .ok vs μ') : ok (dCall f as c ρ μ) P := by rw [ok_dCall, e]; exact h
theorem step_run {i : Nat} {d : DE} {rest : DS} {v : V} (e : d c ρ μ = .ok v μ') (h : okS (rest c (ρ.set i v) μ') Q T) : okS (sSeq (sSet i d) rest c ρ μ) Q T := by rw [okS_seq, okS_set, e]; exact h
theorem step_call {i f : Nat} {as : DL} {rest : DS} {vs : List V} {P : V → Mem → Prop} (h : ok (c.call f vs μ') P) (e : as c ρ μ = .ok vs μ') (k : ∀ v ν, P v ν → okS (rest c (ρ.set i v) ν) Q T) : okS (sSeq (sSet i (dCall f as)) rest c ρ μ) Q T := by
  rw [okS_seq, okS_set]; exact ok_mono (at_call h e) k
theorem step_no {t : DT} {a rest : DS} (h : ok (t c ρ μ) fun q ν => q = false ∧ okS (rest c ρ ν) Q T) : okS (sSeq (sIf t a sNil) rest c ρ μ) Q T := by
  rw [okS_seq, okS_if]; exact ok_mono h fun q ν ⟨e, k⟩ => by subst e; exact k
theorem step_yes {t : DT} {a b rest : DS} (h : ok (t c ρ μ) fun q ν => q = true ∧ okS (a c ρ ν) (fun ρ μ => okS (rest c ρ μ) Q T) T) : okS (sSeq (sIf t a b) rest c ρ μ) Q T := by
  rw [okS_seq, okS_if]; exact ok_mono h fun q ν ⟨e, k⟩ => by subst e; exact k
theorem step_expr {d : DE} {rest : DS} (h : ok (d c ρ μ) fun _ ν => okS (rest c ρ ν) Q T) : okS (sSeq (sExpr d) rest c ρ μ) Q T := by
  rw [okS_seq, okS_expr]; exact h
theorem or_no {t u : DT} {P : Bool → Mem → Prop} (h : ok (t c ρ μ) fun q ν => q = false ∧ ok (u c ρ ν) P) : ok (tOr t u c ρ μ) P := by
  rw [ok_tOr]; exact ok_mono h fun q ν ⟨e, k⟩ => by subst e; exact k
theorem not_run {d : DE} {v : V} {b : Bool} {P : Bool → Mem → Prop} (e : d c ρ μ = .ok v μ') (e2 : truth μ' v = some b) (h : P (!b) μ') : ok (tNot (tE d) c ρ μ) P := by
  rw [ok_tNot, ok_tE, e, ok_ok, e2, ok_opt_some]; exact h
theorem cmp_run {f : Mem → V → V → Option Bool} {l r : DE} {a b : V} {μ₁ : Mem} {t : Bool} {P : Bool → Mem → Prop} (e1 : l c ρ μ = .ok a μ₁) (e2 : r c ρ μ₁ = .ok b μ') (e : f μ' a b = some t) (h : P t μ') : ok (tCmp f l r c ρ μ) P := by
  rw [ok_tCmp, e1, ok_ok, e2, ok_ok, e, ok_opt_some]; exact h
theorem run_add {l r : DE} {a b : Nat} {xs ys : List V} {μ₁ : Mem} (e1 : l c ρ μ = .ok (.ref a) μ₁) (e2 : r c ρ μ₁ = .ok (.ref b) μ') (ha : μ'[a]? = some (.list xs)) (hb : μ'[b]? = some (.list ys)) (hl : (xs ++ ys).length ≤ lim) : dBin opAdd l r c ρ μ = .ok (.ref μ'.length) (μ' ++ [.list (xs ++ ys)]) := by
  simp only [dBin, e1, e2, R.bind, add_list ha hb, run_newL hl]
theorem run_slc {d : DE} {lo hi : DO} {l h : Option Int} {a : Nat} {xs ys : List V} (e : d c ρ μ = .ok (.ref a) μ) (el : lo c ρ μ = .ok l μ) (eh : hi c ρ μ = .ok h μ) (ha : μ[a]? = some (.list xs)) (hy : cut l h xs = ys) (hl : ys.length ≤ lim) : dSlc d lo hi c ρ μ = .ok (.ref μ.length) (μ ++ [.list ys]) := by
  simp only [dSlc, e, el, eh, R.bind, slc_list ha, hy, run_newL hl]
theorem run_len {d : DE} {a : Nat} {xs : List V} (e : d c ρ μ = .ok (.ref a) μ) (ha : μ[a]? = some (.list xs)) : dB1 bLen d c ρ μ = .ok (.int xs.length) μ := by
  simp only [dB1, e, R.bind, len_list ha]
theorem run_var {i : Nat} {v : V} (e : ρ i = some v) : dV i c ρ μ = .ok v μ := by rw [dV, e]; rfl
theorem run_cons {d : DE} {r : DL} {v : V} {vs : List V} {μ₁ : Mem} (e1 : d c ρ μ = .ok v μ₁) (e2 : r c ρ μ₁ = .ok vs μ') : dCons d r c ρ μ = .ok (v :: vs) μ' := by
  simp only [dCons, e1, e2, R.bind]
theorem cmp_call {g : Mem → V → V → Option Bool} {f : Nat} {as : DL} {r : DE} {vs : List V} {μ₁ : Mem} {P : V → Mem → Prop} {S : Bool → Mem → Prop} (h : ok (c.call f vs μ₁) P) (e : as c ρ μ = .ok vs μ₁) (k : ∀ v ν, P v ν → ok (r c ρ ν) fun b ν' => ok (R.opt ν' (g ν' v b)) S) : ok (tCmp g (dCall f as) r c ρ μ) S := by
  rw [ok_tCmp]; exact ok_mono (at_call h e) k
theorem ok_some {o : Option α} {a : α} {P : α → Mem → Prop} (e : o = some a) (h : P a μ) : ok (R.opt μ o) P := by rw [e]; exact h
end
end
end Mine
end
section
set_option autoImplicit false
namespace Mine.Ltl
noncomputable section
open PySem

inductive Sy where
  | mark (x : Str)
  | yes
  | not (a : Sy)
  | and (a c : Sy)
  | or (a c : Sy)
  | next (a : Sy)
  | till (a c : Sy)
  | always (a : Sy)
  | again (a : Sy)

noncomputable def nx (n b i : Nat) : Nat := if i + 1 = n then b else i + 1
noncomputable def U (n b : Nat) (p q : Nat → Bool) : Nat → Nat → Bool
  | 0, _ => false
  | k + 1, i => q i || (p i && U n b p q k (nx n b i))

noncomputable def sem (ms : List Str) (b : Nat) : Sy → Nat → Bool
  | .mark x, i => PyData.eqv (.str ((ms[i]?).getD default)) (.str x)
  | .yes, _ => true
  | .not a, i => !sem ms b a i
  | .and a c, i => sem ms b a i && sem ms b c i
  | .or a c, i => sem ms b a i || sem ms b c i
  | .next a, i => sem ms b a (nx ms.length b i)
  | .till a c, i => U ms.length b (sem ms b a) (sem ms b c) ((ms.length - i) + (ms.length - b)) i
  | .always a, i => !U ms.length b (fun _ => true) (fun j => !sem ms b a j) ((ms.length - i) + (ms.length - b)) i
  | .again a, _ => ((List.range ms.length).drop b).any (sem ms b a)
noncomputable def row (ms : List Str) (b : Nat) (s : Sy) : List Bool := (List.range ms.length).map (sem ms b s)

noncomputable def it (n b : Nat) : Nat → Nat → Nat
  | 0, i => i
  | t + 1, i => it n b t (nx n b i)
theorem U_iff {n b : Nat} {p q : Nat → Bool} : ∀ {k i : Nat}, U n b p q k i = true ↔ ∃ t, t < k ∧ q (it n b t i) = true ∧ ∀ u, u < t → p (it n b u i) = true
  | 0, i => by simp [U]
  | k + 1, i => by
    rw [U, Bool.or_eq_true, Bool.and_eq_true, U_iff]
    constructor
    · rintro (h | ⟨h, t, h1, h2, h3⟩)
      · exact ⟨0, by omega, h, fun u hu => by omega⟩
      · refine ⟨t + 1, by omega, h2, fun u hu => ?_⟩
        cases u with
        | zero => exact h
        | succ u => exact h3 u (by omega)
    · rintro ⟨t, h1, h2, h3⟩
      cases t with
      | zero => exact .inl h2
      | succ t => exact .inr ⟨h3 0 (by omega), t, by omega, h2, fun u hu => h3 (u + 1) (by omega)⟩
theorem nx_lt {n b i : Nat} (hb : b < n) (hi : i < n) : nx n b i < n := by
  unfold nx; split <;> omega
theorem it_add {n b : Nat} : ∀ (s t i : Nat), it n b (s + t) i = it n b t (it n b s i)
  | 0, t, i => by simp [it]
  | s + 1, t, i => by rw [show s + 1 + t = (s + t) + 1 by omega, it, it, it_add s t]
theorem it_way {n b : Nat} (hb : b < n) : ∀ (t i : Nat), i + t ≤ b → it n b t i = i + t
  | 0, i, _ => rfl
  | t + 1, i, h => by
    rw [it, show nx n b i = i + 1 by unfold nx; rw [if_neg (by omega)], it_way hb t (i + 1) (by omega)]; omega
theorem it_ring {n b : Nat} (hb : b < n) : ∀ (t r : Nat), r < n - b → it n b t (b + r) = b + (r + t) % (n - b)
  | 0, r, h => by simp [it, Nat.mod_eq_of_lt h]
  | t + 1, r, h => by
    rw [it]
    by_cases e : b + r + 1 = n
    · rw [show nx n b (b + r) = b + 0 by unfold nx; rw [if_pos e]; omega, it_ring hb t 0 (by omega)]
      have : r + (t + 1) = (0 + t) + (n - b) := by omega
      rw [this, Nat.add_mod_right]
    · rw [show nx n b (b + r) = b + (r + 1) by unfold nx; rw [if_neg e]; omega, it_ring hb t (r + 1) (by omega)]
      congr 2; omega
theorem it_period {n b : Nat} (hb : b < n) {i t : Nat} (hi : i < n) (ht : b - i ≤ t) : it n b (t + (n - b)) i = it n b t i := by
  by_cases h : b ≤ i
  · obtain ⟨r, rfl⟩ := Nat.exists_eq_add_of_le h
    rw [it_ring hb _ r (by omega), it_ring hb _ r (by omega), ← Nat.add_assoc, Nat.add_mod_right]
  · have e : it n b (b - i) i = b + 0 := by rw [it_way hb _ _ (by omega)]; omega
    obtain ⟨u, rfl⟩ := Nat.exists_eq_add_of_le ht
    have e1 : it n b (b - i + u) i = it n b u (b + 0) := by rw [it_add, e]
    have e2 : it n b (b - i + u + (n - b)) i = it n b (u + (n - b)) (b + 0) := by rw [show b - i + u + (n - b) = (b - i) + (u + (n - b)) by omega, it_add, e]
    rw [e1, e2, it_ring hb _ 0 (by omega), it_ring hb _ 0 (by omega), ← Nat.add_assoc, Nat.add_mod_right]
theorem U_mono {n b : Nat} {p q : Nat → Bool} {k k' i : Nat} (h : k ≤ k') (hu : U n b p q k i = true) : U n b p q k' i = true := by
  rw [U_iff] at hu ⊢
  obtain ⟨t, h1, h2⟩ := hu
  exact ⟨t, by omega, h2⟩
theorem U_short {n b : Nat} {p q : Nat → Bool} (hb : b < n) {i : Nat} (hi : i < n) : ∀ (t : Nat), q (it n b t i) = true → (∀ u, u < t → p (it n b u i) = true) → U n b p q ((b - i) + (n - b)) i = true := by
  intro t
  induction t using Nat.strongRecOn with
  | ind t ih =>
    intro h1 h2
    by_cases ht : t < (b - i) + (n - b)
    · exact U_iff.mpr ⟨t, ht, h1, h2⟩
    · refine ih (t - (n - b)) (by omega) ?_ fun u hu => h2 u (by omega)
      have := it_period hb (t := t - (n - b)) hi (by omega)
      rw [show t - (n - b) + (n - b) = t by omega] at this
      rw [← this]; exact h1
theorem U_stable {n b : Nat} {p q : Nat → Bool} (hb : b < n) {i k : Nat} (hi : i < n) (hk : (b - i) + (n - b) ≤ k) : U n b p q k i = U n b p q ((b - i) + (n - b)) i := by
  cases h : U n b p q ((b - i) + (n - b)) i with
  | true => exact U_mono hk h
  | false =>
    cases h' : U n b p q k i with
    | false => rfl
    | true =>
      obtain ⟨t, _, h1, h2⟩ := U_iff.mp h'
      rw [U_short hb hi t h1 h2] at h; cases h
theorem U_same {n b : Nat} {p q : Nat → Bool} (hb : b < n) {i k k' : Nat} (hi : i < n) (hk : (b - i) + (n - b) ≤ k) (hk' : (b - i) + (n - b) ≤ k') : U n b p q k i = U n b p q k' i :=
  (U_stable hb hi hk).trans (U_stable hb hi hk').symm
theorem U_hom {n b n' b' : Nat} {p q p' q' : Nat → Bool} {f : Nat → Nat} (hb : b' < n') (hn : ∀ i, i < n' → nx n b (f i) = f (nx n' b' i)) (hp : ∀ i, i < n' → p' i = p (f i)) (hq : ∀ i, i < n' → q' i = q (f i)) : ∀ (k i : Nat), i < n' → U n' b' p' q' k i = U n b p q k (f i)
  | 0, _, _ => rfl
  | k + 1, i, hi => by rw [U, U, hp i hi, hq i hi, hn i hi, U_hom hb hn hp hq k _ (nx_lt hb hi)]

structure Hom (ms : List Str) (b : Nat) (ms' : List Str) (b' : Nat) (f : Nat → Nat) : Prop where
  bl : b < ms.length
  bl' : b' < ms'.length
  lt : ∀ i, i < ms'.length → f i < ms.length
  nx : ∀ i, i < ms'.length → nx ms.length b (f i) = f (nx ms'.length b' i)
  mark : ∀ i, i < ms'.length → ms'[i]? = ms[f i]?
  k : ∀ i, i < ms'.length → (b - f i) + (ms.length - b) ≤ (ms'.length - i) + (ms'.length - b')
  into : ∀ i, b' ≤ i → i < ms'.length → b ≤ f i
  onto : ∀ j, b ≤ j → j < ms.length → ∃ i, b' ≤ i ∧ i < ms'.length ∧ f i = j

theorem mem_drop_range {n b i : Nat} : i ∈ (List.range n).drop b ↔ b ≤ i ∧ i < n := by
  rw [List.mem_drop_iff_getElem]
  constructor
  · rintro ⟨j, hj, rfl⟩
    simp at hj ⊢; omega
  · rintro ⟨h1, h2⟩
    refine ⟨i - b, by simp; omega, by simp; omega⟩

theorem sem_hom {ms : List Str} {b : Nat} {ms' : List Str} {b' : Nat} {f : Nat → Nat} (H : Hom ms b ms' b' f) : ∀ (s : Sy) (i : Nat), i < ms'.length → sem ms' b' s i = sem ms b s (f i)
  | .mark x, i, hi => by simp only [sem, H.mark i hi]
  | .yes, _, _ => rfl
  | .not a, i, hi => by simp only [sem, sem_hom H a i hi]
  | .and a c, i, hi => by simp only [sem, sem_hom H a i hi, sem_hom H c i hi]
  | .or a c, i, hi => by simp only [sem, sem_hom H a i hi, sem_hom H c i hi]
  | .next a, i, hi => by simp only [sem, H.nx i hi]; exact sem_hom H a _ (nx_lt H.bl' hi)
  | .till a c, i, hi => by
    simp only [sem]
    rw [U_hom H.bl' H.nx (fun j hj => sem_hom H a j hj) (fun j hj => sem_hom H c j hj) _ i hi]
    exact U_same H.bl (H.lt i hi) (H.k i hi) (by have := H.lt i hi; have := H.bl; omega)
  | .always a, i, hi => by
    simp only [sem]
    congr 1
    rw [U_hom (p := fun _ => true) (q := fun j => !sem ms b a j) H.bl' H.nx (fun _ _ => rfl) (fun j hj => by simp only [sem_hom H a j hj]) _ i hi]
    exact U_same H.bl (H.lt i hi) (H.k i hi) (by have := H.lt i hi; have := H.bl; omega)
  | .again a, i, hi => by
    simp only [sem]
    rw [Bool.eq_iff_iff, List.any_eq_true, List.any_eq_true]
    constructor
    · rintro ⟨j, hj, h⟩
      rw [mem_drop_range] at hj
      exact ⟨f j, mem_drop_range.mpr ⟨H.into j hj.1 hj.2, H.lt j hj.2⟩, by rw [← sem_hom H a j hj.2]; exact h⟩
    · rintro ⟨j, hj, h⟩
      rw [mem_drop_range] at hj
      obtain ⟨i', h1, h2, rfl⟩ := H.onto j hj.1 hj.2
      exact ⟨i', mem_drop_range.mpr ⟨h1, h2⟩, by rw [sem_hom H a i' h2]; exact h⟩

/-- the ring gone round twice -/
theorem twice (w r : List Str) (hr : 0 < r.length) (s : Sy) : row (w ++ (r ++ r)) w.length s = row (w ++ r) w.length s ++ (row (w ++ r) w.length s).drop w.length := by
  have H : Hom (w ++ r) w.length (w ++ (r ++ r)) w.length (fun i => if i < w.length + r.length then i else i - r.length) := by
    refine ⟨by simp; omega, by simp; omega, fun i hi => ?_, fun i hi => ?_, fun i hi => ?_, fun i hi => ?_, fun i h1 h2 => ?_, fun j h1 h2 => ?_⟩
    · simp at hi ⊢; split <;> omega
    · simp only [List.length_append] at hi ⊢
      unfold nx
      split <;> split <;> split <;> split <;> omega
    · simp only [List.length_append] at hi
      split
      · rename_i h
        by_cases hw : i < w.length
        · rw [List.getElem?_append_left hw, List.getElem?_append_left hw]
        · rw [List.getElem?_append_right (by omega : w.length ≤ i), List.getElem?_append_left (show i - w.length < r.length by omega), List.getElem?_append_right (by omega : w.length ≤ i)]
      · rename_i h
        rw [List.getElem?_append_right (by omega), List.getElem?_append_right (by omega), List.getElem?_append_right (by omega)]
        congr 1; omega
    · simp only [List.length_append] at hi ⊢
      split <;> omega
    · simp only [List.length_append] at h2 ⊢
      split <;> omega
    · simp only [List.length_append] at h2 ⊢
      exact ⟨j, h1, by omega, by rw [if_pos h2]⟩
  apply List.ext_getElem?
  intro i
  by_cases hi : i < w.length + (r.length + r.length)
  · have e1 : (row (w ++ (r ++ r)) w.length s)[i]? = some (sem (w ++ (r ++ r)) w.length s i) := by
      simp only [row, List.getElem?_map, List.length_append]
      rw [List.getElem?_range hi]; rfl
    rw [e1, sem_hom H s i (by simpa using hi)]
    by_cases hn : i < w.length + r.length
    · rw [List.getElem?_append_left (by simp [row]; omega)]
      simp only [row, List.getElem?_map, List.length_append, if_pos hn]
      rw [List.getElem?_range hn]; rfl
    · rw [List.getElem?_append_right (by simp [row]; omega)]
      simp only [row, List.getElem?_drop, List.getElem?_map, List.length_append, List.length_map, List.length_range, if_neg hn]
      rw [List.getElem?_range (by omega)]
      simp only [Option.map_some]
      congr 2; omega
  · rw [List.getElem?_eq_none (by simp [row]; omega), List.getElem?_eq_none (by simp [row]; omega)]
/-- the ring entered one place later -/
theorem later (w r : List Str) (hr : 0 < r.length) (s : Sy) : row ((w ++ r.take 1) ++ (r.drop 1 ++ r.take 1)) (w.length + 1) s = row (w ++ r) w.length s ++ ((row (w ++ r) w.length s).drop w.length).take 1 := by
  have ht : (r.take 1).length = 1 := by simp; omega
  have hd : (r.drop 1).length = r.length - 1 := by simp
  have H : Hom (w ++ r) w.length ((w ++ r.take 1) ++ (r.drop 1 ++ r.take 1)) (w.length + 1) (fun i => if i < w.length + r.length then i else w.length) := by
    refine ⟨by simp; omega, by simp only [List.length_append, ht, hd]; omega, fun i hi => ?_, fun i hi => ?_, fun i hi => ?_, fun i hi => ?_, fun i h1 h2 => ?_, fun j h1 h2 => ?_⟩
    · simp only [List.length_append, ht, hd] at hi ⊢; split <;> omega
    · simp only [List.length_append, ht, hd] at hi ⊢
      unfold nx
      split <;> split <;> split <;> split <;> omega
    · simp only [List.length_append, ht, hd] at hi
      have e : (w ++ r.take 1) ++ (r.drop 1 ++ r.take 1) = (w ++ r) ++ r.take 1 := by
        rw [List.append_assoc, ← List.append_assoc (r.take 1), List.take_append_drop, List.append_assoc]
      rw [e]
      split
      · rename_i h
        rw [List.getElem?_append_left (by simpa using h)]
      · rename_i h
        rw [List.getElem?_append_right (by simp; omega), List.getElem?_append_right (Nat.le_refl _)]
        simp only [List.length_append]
        rw [show i - (w.length + r.length) = 0 by omega, Nat.sub_self]
        cases r with
        | nil => simp at hr
        | cons x r => rfl
    · simp only [List.length_append, ht, hd] at hi ⊢
      split <;> omega
    · simp only [List.length_append, ht, hd] at h2 ⊢
      split <;> omega
    · simp only [List.length_append, ht, hd] at h2 ⊢
      by_cases h : j = w.length
      · exact ⟨w.length + r.length, by omega, by omega, by rw [if_neg (by omega), h]⟩
      · exact ⟨j, by omega, by omega, by rw [if_pos (by omega)]⟩
  have hlen : ((w ++ r.take 1) ++ (r.drop 1 ++ r.take 1)).length = w.length + r.length + 1 := by simp only [List.length_append, ht, hd]; omega
  apply List.ext_getElem?
  intro i
  by_cases hi : i < w.length + r.length + 1
  · have e1 : (row ((w ++ r.take 1) ++ (r.drop 1 ++ r.take 1)) (w.length + 1) s)[i]? = some (sem ((w ++ r.take 1) ++ (r.drop 1 ++ r.take 1)) (w.length + 1) s i) := by
      simp only [row, List.getElem?_map]
      rw [List.getElem?_range (by rw [hlen]; exact hi)]; rfl
    rw [e1, sem_hom H s i (by rw [hlen]; exact hi)]
    by_cases hn : i < w.length + r.length
    · rw [List.getElem?_append_left (by simp [row]; omega)]
      simp only [row, List.getElem?_map, List.length_append, if_pos hn]
      rw [List.getElem?_range hn]; rfl
    · rw [List.getElem?_append_right (by simp [row]; omega)]
      simp only [row, List.getElem?_take, List.getElem?_drop, List.getElem?_map, List.length_append, List.length_map, List.length_range, if_neg hn]
      rw [show i - (w.length + r.length) = 0 by omega, if_pos (by omega), List.getElem?_range (by omega)]
      rfl
  · rw [List.getElem?_eq_none (by simp only [row, List.length_map, List.length_range, hlen]; omega), List.getElem?_eq_none (by simp [row]; omega)]

noncomputable def scan (p q : Nat → Bool) : List Nat → Bool
  | [] => false
  | k :: m => q k || (p k && scan p q m)
theorem scan_ring {n b : Nat} {p q : Nat → Bool} : ∀ (m i : Nat), i + m = n → scan p q (List.range' i m) = U n b p q m i
  | 0, _, _ => rfl
  | m + 1, i, h => by
    rw [List.range'_succ, scan, U]
    by_cases e : i + 1 = n
    · obtain rfl : m = 0 := by omega
      rfl
    · rw [scan_ring (n := n) (b := b) m (i + 1) (by omega)]
      unfold nx; rw [if_neg e]
theorem scan_way {n b : Nat} {p q : Nat → Bool} (hb : b < n) : ∀ (m i : Nat), i + (m + 1) = n → scan p q (List.range' i (m + 1) ++ List.range' b (n - b)) = U n b p q ((m + 1) + (n - b)) i
  | 0, i, h => by
    rw [List.range'_succ, List.range'_zero, List.cons_append, List.nil_append, scan, scan_ring (b := b) (n := n) _ b (by omega), show 0 + 1 + (n - b) = (n - b) + 1 by omega, U]
    unfold nx; rw [if_pos (by omega)]
  | m + 1, i, h => by
    rw [List.range'_succ, List.cons_append, scan, scan_way hb m (i + 1) (by omega), show m + 1 + 1 + (n - b) = (m + 1 + (n - b)) + 1 by omega, U]
    unfold nx; rw [if_neg (by omega)]
/-- the moments from a place on: to the end, then the ring once more -/
theorem scan_all {n b i : Nat} {p q : Nat → Bool} (hb : b < n) (hi : i < n) : scan p q (List.range' i (n - i) ++ List.range' b (n - b)) = U n b p q ((n - i) + (n - b)) i := by
  obtain ⟨m, hm⟩ : ∃ m, n - i = m + 1 := ⟨n - i - 1, by omega⟩
  rw [hm]; exact scan_way hb m i (by omega)
theorem scan_true {q : Nat → Bool} : ∀ m, scan (fun _ => true) (fun j => !q j) m = !m.all q
  | [] => rfl
  | k :: m => by rw [scan, scan_true m, List.all_cons]; cases q k <;> rfl
end
end Mine.Ltl
end
section
set_option autoImplicit false
set_option maxRecDepth 100000
set_option maxHeartbeats 4000000
namespace Mine.L04
noncomputable section
open PySem

noncomputable def stAt (k : Nat) : Stmt := (PySem.Challenge.pw_uf020006_04.main.body[k]?).getD (.Pass default)
noncomputable def bodyAt (k : Nat) : List Stmt := match stAt k with | .FunctionDef _ _ b _ _ _ _ _ _ _ => b | _ => []
noncomputable def scAt (k : Nat) : Scope := match stAt k with | .FunctionDef _ _ _ _ _ _ s _ _ _ => s | _ => default
noncomputable def nmOf : Nat → Str
  | 0 => (Str.ofString "parts_of")
  | 1 => (Str.ofString "till_over")
  | 2 => (Str.ofString "over")
  | 3 => (Str.ofString "row_of")
  | 4 => (Str.ofString "holds")
  | 5 => (Str.ofString "_law_cell_at")
  | 6 => (Str.ofString "_law_draw")
  | 7 => (Str.ofString "_law_names")
  | 8 => (Str.ofString "_law_made")
  | 9 => (Str.ofString "_law_after")
  | 10 => (Str.ofString "_law_till")
  | 11 => (Str.ofString "_law_means")
  | 12 => (Str.ofString "_law_marks")
  | 13 => (Str.ofString "law")
  | _ => Str.ofString ""
noncomputable def tab_parts_of : List (Option (Str × NameKind)) := [some ((Str.ofString "saying"), .local)]
noncomputable def d_parts_of : DS :=
    sSeq (sIf (tCmp cEq (dIdx (dV 0) (dC (.int 0))) (dC (.str (Str.ofString "mark")))) (sSeq (sRet (dLst (dNil)))
    (sNil)) (sNil))
    (sSeq (sRet (dB1 bList (dSlc (dV 0) (oSome (dC (.int 1))) (oNone))))
    (sNil))
noncomputable def tab_till_over : List (Option (Str × NameKind)) := [some ((Str.ofString "ones"), .local), some ((Str.ofString "others"), .local), some ((Str.ofString "begin"), .local), some ((Str.ofString "found"), .local), some ((Str.ofString "turn"), .local), some ((Str.ofString "at"), .local), some ((Str.ofString "behind"), .local)]
noncomputable def d_till_over : DS :=
    sSeq (sSet 3 (dBin opMul (dLst (dCons (dC (.bool false)) (dNil))) (dB1 bLen (dV 0))))
    (sSeq (sFor (iRange (dCons (dC (.int 2)) (dNil))) (bd1 4) (sSeq (sFor (iRange (dCons (dBin opSub (dB1 bLen (dV 0)) (dC (.int 1))) (dCons (dUn opNeg (dC (.int 1))) (dCons (dUn opNeg (dC (.int 1))) (dNil))))) (bd1 5) (sSeq (sSet 6 (dIf (tCmp cEq (dV 5) (dBin opSub (dB1 bLen (dV 0)) (dC (.int 1)))) (dV 2) (dBin opAdd (dV 5) (dC (.int 1)))))
    (sSeq (sPut (dV 3) (dV 5) (dOr (dIdx (dV 1) (dV 5)) (dAnd (dIdx (dV 0) (dV 5)) (dIdx (dV 3) (dV 6)))))
    (sNil))))
    (sNil)))
    (sSeq (sRet (dV 3))
    (sNil)))
noncomputable def tab_over_1 : List (Option (Str × NameKind)) := [some ((Str.ofString "saying"), .cell), none, none, none, none, none, some ((Str.ofString "mark"), .local)]
noncomputable def tab_over_2 : List (Option (Str × NameKind)) := [none, none, none, none, none, none, none, some ((Str.ofString "mark"), .local)]
noncomputable def tab_over_3 : List (Option (Str × NameKind)) := [none, some ((Str.ofString "marks"), .cell), some ((Str.ofString "begin"), .cell), none, none, none, none, none, some ((Str.ofString "part"), .local)]
noncomputable def tab_over_4 : List (Option (Str × NameKind)) := [none, none, none, none, none, none, none, none, none, some ((Str.ofString "one"), .local)]
noncomputable def tab_over_5 : List (Option (Str × NameKind)) := [none, none, none, none, none, none, none, none, none, none, some ((Str.ofString "one"), .local)]
noncomputable def tab_over_6 : List (Option (Str × NameKind)) := [none, none, none, none, none, none, none, none, none, none, none, some ((Str.ofString "one"), .local)]
noncomputable def tab_over : List (Option (Str × NameKind)) := [some ((Str.ofString "saying"), .cell), some ((Str.ofString "marks"), .cell), some ((Str.ofString "begin"), .cell), some ((Str.ofString "word"), .local), some ((Str.ofString "rows"), .local), some ((Str.ofString "never"), .local)]
noncomputable def d_over : DS :=
    sSeq (sSet 3 (dIdx (dV 0) (dC (.int 0))))
    (sSeq (sIf (tCmp cEq (dV 3) (dC (.str (Str.ofString "mark")))) (sSeq (sRet (dComp [6] (iSeq (dV 1)) (cb1 6) (tTrue) (dCmp cEq (dV 6) (dIdx (dV 0) (dC (.int 1))))))
    (sNil)) (sNil))
    (sSeq (sIf (tCmp cEq (dV 3) (dC (.str (Str.ofString "yes")))) (sSeq (sRet (dComp [7] (iSeq (dV 1)) (cb1 7) (tTrue) (dC (.bool true))))
    (sNil)) (sNil))
    (sSeq (sSet 4 (dComp [8] (iSeq (dCall 0 (dCons (dV 0) (dNil)))) (cb1 8) (tTrue) (dCall 2 (dCons (dV 8) (dCons (dV 1) (dCons (dV 2) (dNil)))))))
    (sSeq (sIf (tCmp cEq (dV 3) (dC (.str (Str.ofString "not")))) (sSeq (sRet (dComp [9] (iSeq (dIdx (dV 4) (dC (.int 0)))) (cb1 9) (tTrue) (dNot (dV 9))))
    (sNil)) (sNil))
    (sSeq (sIf (tCmp cEq (dV 3) (dC (.str (Str.ofString "and")))) (sSeq (sRet (dB2 (bZip (· && ·)) (dIdx (dV 4) (dC (.int 0))) (dIdx (dV 4) (dC (.int 1)))))
    (sNil)) (sNil))
    (sSeq (sIf (tCmp cEq (dV 3) (dC (.str (Str.ofString "or")))) (sSeq (sRet (dB2 (bZip (· || ·)) (dIdx (dV 4) (dC (.int 0))) (dIdx (dV 4) (dC (.int 1)))))
    (sNil)) (sNil))
    (sSeq (sIf (tCmp cEq (dV 3) (dC (.str (Str.ofString "next")))) (sSeq (sRet (dBin opAdd (dSlc (dIdx (dV 4) (dC (.int 0))) (oSome (dC (.int 1))) (oNone)) (dLst (dCons (dIdx (dIdx (dV 4) (dC (.int 0))) (dV 2)) (dNil)))))
    (sNil)) (sNil))
    (sSeq (sIf (tCmp cEq (dV 3) (dC (.str (Str.ofString "till")))) (sSeq (sRet (dCall 1 (dCons (dIdx (dV 4) (dC (.int 0))) (dCons (dIdx (dV 4) (dC (.int 1))) (dCons (dV 2) (dNil))))))
    (sNil)) (sNil))
    (sSeq (sIf (tCmp cEq (dV 3) (dC (.str (Str.ofString "always")))) (sSeq (sSet 5 (dCall 1 (dCons (dBin opMul (dLst (dCons (dC (.bool true)) (dNil))) (dB1 bLen (dV 1))) (dCons (dComp [10] (iSeq (dIdx (dV 4) (dC (.int 0)))) (cb1 10) (tTrue) (dNot (dV 10))) (dCons (dV 2) (dNil))))))
    (sSeq (sRet (dComp [11] (iSeq (dV 5)) (cb1 11) (tTrue) (dNot (dV 11))))
    (sNil))) (sNil))
    (sSeq (sRet (dBin opMul (dLst (dCons (dB1 bAny (dSlc (dIdx (dV 4) (dC (.int 0))) (oSome (dV 2)) (oNone))) (dNil))) (dB1 bLen (dV 1))))
    (sNil)))))))))))
noncomputable def tab_row_of : List (Option (Str × NameKind)) := [some ((Str.ofString "saying"), .local), some ((Str.ofString "way"), .local), some ((Str.ofString "ring"), .local)]
noncomputable def d_row_of : DS :=
    sSeq (sRet (dCall 2 (dCons (dV 0) (dCons (dBin opAdd (dV 1) (dV 2)) (dCons (dB1 bLen (dV 1)) (dNil))))))
    (sNil)
noncomputable def tab_holds : List (Option (Str × NameKind)) := [some ((Str.ofString "saying"), .local), some ((Str.ofString "way"), .local), some ((Str.ofString "ring"), .local)]
noncomputable def d_holds : DS :=
    sSeq (sRet (dIdx (dCall 3 (dCons (dV 0) (dCons (dV 1) (dCons (dV 2) (dNil))))) (dC (.int 0))))
    (sNil)
noncomputable def tab__law_cell_at : List (Option (Str × NameKind)) := [some ((Str.ofString "_law_script"), .local), some ((Str.ofString "_law_k"), .local)]
noncomputable def d__law_cell_at : DS :=
    sSeq (sIf (tCmp cLt (dV 1) (dB1 bLen (dV 0))) (sSeq (sRet (dIdx (dV 0) (dV 1)))
    (sNil)) (sNil))
    (sSeq (sRet (dC (.int 0)))
    (sNil))
noncomputable def tab__law_draw : List (Option (Str × NameKind)) := [some ((Str.ofString "_law_script"), .local), some ((Str.ofString "_law_spot"), .local), some ((Str.ofString "_law_k"), .local)]
noncomputable def d__law_draw : DS :=
    sSeq (sPut (dV 1) (dC (.int 0)) (dBin opAdd (dIdx (dV 1) (dC (.int 0))) (dC (.int 1))))
    (sSeq (sSet 2 (dBin opSub (dIdx (dV 1) (dC (.int 0))) (dC (.int 1))))
    (sSeq (sIf (tCmp cLt (dV 2) (dB1 bLen (dV 0))) (sSeq (sRet (dIdx (dV 0) (dV 2)))
    (sNil)) (sNil))
    (sSeq (sIf (tAnd (tCmp cGt (dB1 bLen (dV 0)) (dC (.int 4))) (tAnd (tCmp cLt (dV 2) (dC (.int 50))) (tTrue))) (sSeq (sRet (dBin opMod (dBin opMul (dBin opAdd (dIdx (dV 0) (dBin opMod (dV 2) (dB1 bLen (dV 0)))) (dBin opMul (dC (.int 7919)) (dV 2))) (dC (.int 48271))) (dC (.int 1000003))))
    (sNil)) (sNil))
    (sSeq (sRet (dC (.int 0)))
    (sNil)))))
noncomputable def tab__law_names_1 : List (Option (Str × NameKind)) := [some ((Str.ofString "_law_cell"), .cell), some ((Str.ofString "_law_letters"), .cell), none, none, none, none, none, none, some ((Str.ofString "_law_j"), .local)]
noncomputable def tab__law_names_2 : List (Option (Str × NameKind)) := [none, none, some ((Str.ofString "_law_rest"), .cell), some ((Str.ofString "_law_size"), .cell), none, none, none, none, none, some ((Str.ofString "_law_k"), .local)]
noncomputable def tab__law_names : List (Option (Str × NameKind)) := [some ((Str.ofString "_law_cell"), .cell), some ((Str.ofString "_law_letters"), .cell), some ((Str.ofString "_law_rest"), .cell), some ((Str.ofString "_law_size"), .cell), some ((Str.ofString "_law_at"), .local), some ((Str.ofString "_law_found"), .local), some ((Str.ofString "_law_k"), .local), some ((Str.ofString "_law_letter"), .local)]
noncomputable def d__law_names : DS :=
    sSeq (sSet 1 (dC (.str (Str.ofString "abcdefghijklmnopqrstuvwxyz"))))
    (sSeq (sSet 2 (dM1 .str bJoin (dC (.str (Str.ofString ""))) (dComp [8] (iRange (dCons (dC (.int 6)) (dNil))) (cb1 8) (tTrue) (dIdx (dV 1) (dBin opMod (dBin opAdd (dBin opDiv (dV 0) (dC (.int 7))) (dBin opMul (dC (.int 5)) (dV 8))) (dC (.int 26)))))))
    (sSeq (sIf (tCmp cEq (dBin opMod (dV 0) (dC (.int 3))) (dC (.int 2))) (sSeq (sSet 3 (dBin opAdd (dC (.int 1)) (dBin opMod (dBin opDiv (dV 0) (dC (.int 3))) (dC (.int 4)))))
    (sSeq (sRet (dComp [9] (iRange (dCons (dC (.int 3)) (dNil))) (cb1 9) (tTrue) (dSlc (dV 2) (oNone) (oSome (dBin opAdd (dV 3) (dV 9))))))
    (sNil))) (sNil))
    (sSeq (sSet 3 (dBin opMod (dBin opDiv (dV 0) (dC (.int 3))) (dC (.int 6))))
    (sSeq (sSet 4 (dBin opMod (dBin opDiv (dV 0) (dC (.int 18))) (dBin opAdd (dV 3) (dC (.int 1)))))
    (sSeq (sSet 5 (dLst (dNil)))
    (sSeq (sFor (iRange (dCons (dC (.int 3)) (dNil))) (bd1 6) (sSeq (sSet 7 (dIdx (dV 1) (dBin opMod (dBin opAdd (dBin opDiv (dV 0) (dC (.int 90))) (dBin opMul (dC (.int 7)) (dV 6))) (dC (.int 26)))))
    (sSeq (sExpr (dM1 .list bAppend (dV 5) (dBin opAdd (dBin opAdd (dSlc (dV 2) (oNone) (oSome (dV 4))) (dV 7)) (dSlc (dV 2) (oSome (dV 4)) (oSome (dV 3))))))
    (sNil))))
    (sSeq (sRet (dV 5))
    (sNil))))))))
noncomputable def tab__law_made : List (Option (Str × NameKind)) := [some ((Str.ofString "_law_script"), .local), some ((Str.ofString "_law_spot"), .local), some ((Str.ofString "_law_names_here"), .local), some ((Str.ofString "_law_deep"), .local), some ((Str.ofString "_law_cell"), .local), some ((Str.ofString "_law_more"), .local), some ((Str.ofString "_law_kinds"), .local), some ((Str.ofString "_law_kind"), .local), some ((Str.ofString "_law_one"), .local)]
noncomputable def d__law_made : DS :=
    sSeq (sSet 4 (dCall 6 (dCons (dV 0) (dCons (dV 1) (dNil)))))
    (sSeq (sSet 5 (dBin opDiv (dV 4) (dC (.int 13))))
    (sSeq (sIf (tOr (tCmp cLt (dV 3) (dC (.int 2))) (tOr (tCmp cLt (dBin opMod (dV 4) (dC (.int 13))) (dC (.int 2))) (tFalse))) (sSeq (sIf (tCmp cEq (dBin opMod (dV 5) (dC (.int 9))) (dC (.int 4))) (sSeq (sRet (dTup (dCons (dC (.str (Str.ofString "yes"))) (dNil))))
    (sNil)) (sNil))
    (sSeq (sRet (dTup (dCons (dC (.str (Str.ofString "mark"))) (dCons (dIdx (dV 2) (dBin opMod (dV 5) (dC (.int 3)))) (dNil)))))
    (sNil))) (sNil))
    (sSeq (sSet 6 (dC (.str (Str.ofString "not and or next till always again till always next not"))))
    (sSeq (sSet 7 (dIdx (dM1 .str bSplit (dV 6) (dC (.str (Str.ofString " ")))) (dBin opSub (dBin opMod (dV 4) (dC (.int 13))) (dC (.int 2)))))
    (sSeq (sSet 8 (dCall 8 (dCons (dV 0) (dCons (dV 1) (dCons (dV 2) (dCons (dBin opSub (dV 3) (dC (.int 1))) (dNil)))))))
    (sSeq (sIf (tCmp cIn (dV 7) (dTup (dCons (dC (.str (Str.ofString "not"))) (dCons (dC (.str (Str.ofString "next"))) (dCons (dC (.str (Str.ofString "always"))) (dCons (dC (.str (Str.ofString "again"))) (dNil))))))) (sSeq (sRet (dTup (dCons (dV 7) (dCons (dV 8) (dNil)))))
    (sNil)) (sNil))
    (sSeq (sRet (dTup (dCons (dV 7) (dCons (dV 8) (dCons (dCall 8 (dCons (dV 0) (dCons (dV 1) (dCons (dV 2) (dCons (dBin opSub (dV 3) (dC (.int 1))) (dNil)))))) (dNil))))))
    (sNil))))))))
noncomputable def tab__law_after_1 : List (Option (Str × NameKind)) := [none, none, none, none, some ((Str.ofString "_law_k"), .local)]
noncomputable def tab__law_after_2 : List (Option (Str × NameKind)) := [none, none, none, none, none, some ((Str.ofString "_law_k"), .local)]
noncomputable def tab__law_after : List (Option (Str × NameKind)) := [some ((Str.ofString "_law_way"), .local), some ((Str.ofString "_law_ring"), .local), some ((Str.ofString "_law_at"), .local), some ((Str.ofString "_law_size"), .local)]
noncomputable def d__law_after : DS :=
    sSeq (sSet 3 (dBin opAdd (dB1 bLen (dV 0)) (dB1 bLen (dV 1))))
    (sSeq (sRet (dBin opAdd (dComp [4] (iRange (dCons (dV 2) (dCons (dV 3) (dNil)))) (cb1 4) (tTrue) (dV 4)) (dComp [5] (iRange (dCons (dB1 bLen (dV 0)) (dCons (dV 3) (dNil)))) (cb1 5) (tTrue) (dV 5))))
    (sNil))
noncomputable def tab__law_till : List (Option (Str × NameKind)) := [some ((Str.ofString "_law_ones"), .local), some ((Str.ofString "_law_others"), .local), some ((Str.ofString "_law_moments"), .local), some ((Str.ofString "_law_k"), .local)]
noncomputable def d__law_till : DS :=
    sSeq (sFor (iSeq (dV 2)) (bd1 3) (sSeq (sIf (tE (dIdx (dV 1) (dV 3))) (sSeq (sRet (dC (.bool true)))
    (sNil)) (sNil))
    (sSeq (sIf (tNot (tE (dIdx (dV 0) (dV 3)))) (sSeq (sRet (dC (.bool false)))
    (sNil)) (sNil))
    (sNil))))
    (sSeq (sRet (dC (.bool false)))
    (sNil))
noncomputable def tab__law_means_1 : List (Option (Str × NameKind)) := [some ((Str.ofString "_law_saying"), .cell), none, none, none, none, none, some ((Str.ofString "_law_mark"), .local)]
noncomputable def tab__law_means_2 : List (Option (Str × NameKind)) := [none, none, none, none, none, none, none, some ((Str.ofString "_law_mark"), .local)]
noncomputable def tab__law_means_3 : List (Option (Str × NameKind)) := [none, some ((Str.ofString "_law_way"), .cell), some ((Str.ofString "_law_ring"), .cell), none, none, none, none, none, some ((Str.ofString "_law_part"), .local)]
noncomputable def tab__law_means_4 : List (Option (Str × NameKind)) := [none, none, none, none, none, none, none, none, none, some ((Str.ofString "_law_one"), .local)]
noncomputable def tab__law_means_5 : List (Option (Str × NameKind)) := [none, some ((Str.ofString "_law_way"), .cell), some ((Str.ofString "_law_ring"), .cell), none, none, some ((Str.ofString "_law_rows"), .cell), none, none, none, none, some ((Str.ofString "_law_at"), .local)]
noncomputable def tab__law_means_7 : List (Option (Str × NameKind)) := [none, none, none, none, none, some ((Str.ofString "_law_rows"), .cell), none, none, none, none, none, none, some ((Str.ofString "_law_k"), .local)]
noncomputable def tab__law_means_6 : List (Option (Str × NameKind)) := [none, some ((Str.ofString "_law_way"), .cell), some ((Str.ofString "_law_ring"), .cell), none, none, some ((Str.ofString "_law_rows"), .cell), none, none, none, none, none, some ((Str.ofString "_law_at"), .local)]
noncomputable def tab__law_means_8 : List (Option (Str × NameKind)) := [none, some ((Str.ofString "_law_way"), .cell), none, none, none, some ((Str.ofString "_law_rows"), .cell), none, none, none, none, none, none, none, some ((Str.ofString "_law_mark"), .local)]
noncomputable def tab__law_means_9 : List (Option (Str × NameKind)) := [none, some ((Str.ofString "_law_way"), .cell), some ((Str.ofString "_law_ring"), .cell), none, none, some ((Str.ofString "_law_rows"), .cell), none, none, none, none, none, none, none, none, some ((Str.ofString "_law_at"), .local)]
noncomputable def tab__law_means : List (Option (Str × NameKind)) := [some ((Str.ofString "_law_saying"), .cell), some ((Str.ofString "_law_way"), .cell), some ((Str.ofString "_law_ring"), .cell), some ((Str.ofString "_law_word"), .local), some ((Str.ofString "_law_run"), .local), some ((Str.ofString "_law_rows"), .cell)]
noncomputable def d__law_means : DS :=
    sSeq (sSet 3 (dIdx (dV 0) (dC (.int 0))))
    (sSeq (sSet 4 (dBin opAdd (dV 1) (dV 2)))
    (sSeq (sIf (tCmp cEq (dV 3) (dC (.str (Str.ofString "mark")))) (sSeq (sRet (dComp [6] (iSeq (dV 4)) (cb1 6) (tTrue) (dCmp cEq (dV 6) (dIdx (dV 0) (dC (.int 1))))))
    (sNil)) (sNil))
    (sSeq (sIf (tCmp cEq (dV 3) (dC (.str (Str.ofString "yes")))) (sSeq (sRet (dComp [7] (iSeq (dV 4)) (cb1 7) (tTrue) (dC (.bool true))))
    (sNil)) (sNil))
    (sSeq (sSet 5 (dComp [8] (iSeq (dSlc (dV 0) (oSome (dC (.int 1))) (oNone))) (cb1 8) (tTrue) (dCall 11 (dCons (dV 8) (dCons (dV 1) (dCons (dV 2) (dNil)))))))
    (sSeq (sIf (tCmp cEq (dV 3) (dC (.str (Str.ofString "not")))) (sSeq (sRet (dComp [9] (iSeq (dIdx (dV 5) (dC (.int 0)))) (cb1 9) (tTrue) (dNot (dV 9))))
    (sNil)) (sNil))
    (sSeq (sIf (tCmp cEq (dV 3) (dC (.str (Str.ofString "and")))) (sSeq (sRet (dB2 (bZip (· && ·)) (dIdx (dV 5) (dC (.int 0))) (dIdx (dV 5) (dC (.int 1)))))
    (sNil)) (sNil))
    (sSeq (sIf (tCmp cEq (dV 3) (dC (.str (Str.ofString "or")))) (sSeq (sRet (dB2 (bZip (· || ·)) (dIdx (dV 5) (dC (.int 0))) (dIdx (dV 5) (dC (.int 1)))))
    (sNil)) (sNil))
    (sSeq (sIf (tCmp cEq (dV 3) (dC (.str (Str.ofString "next")))) (sSeq (sRet (dComp [10] (iRange (dCons (dB1 bLen (dV 4)) (dNil))) (cb1 10) (tTrue) (dIdx (dIdx (dV 5) (dC (.int 0))) (dIdx (dCall 9 (dCons (dV 1) (dCons (dV 2) (dCons (dV 10) (dNil))))) (dC (.int 1))))))
    (sNil)) (sNil))
    (sSeq (sIf (tCmp cEq (dV 3) (dC (.str (Str.ofString "always")))) (sSeq (sRet (dComp [11] (iRange (dCons (dB1 bLen (dV 4)) (dNil))) (cb1 11) (tTrue) (dCmp cNotIn (dC (.bool false)) (dComp [12] (iSeq (dCall 9 (dCons (dV 1) (dCons (dV 2) (dCons (dV 11) (dNil)))))) (cb1 12) (tTrue) (dIdx (dIdx (dV 5) (dC (.int 0))) (dV 12))))))
    (sNil)) (sNil))
    (sSeq (sIf (tCmp cEq (dV 3) (dC (.str (Str.ofString "again")))) (sSeq (sRet (dComp [13] (iSeq (dV 4)) (cb1 13) (tTrue) (dCmp cIn (dC (.bool true)) (dSlc (dIdx (dV 5) (dC (.int 0))) (oSome (dB1 bLen (dV 1))) (oNone)))))
    (sNil)) (sNil))
    (sSeq (sRet (dComp [14] (iRange (dCons (dB1 bLen (dV 4)) (dNil))) (cb1 14) (tTrue) (dCall 10 (dCons (dIdx (dV 5) (dC (.int 0))) (dCons (dIdx (dV 5) (dC (.int 1))) (dCons (dCall 9 (dCons (dV 1) (dCons (dV 2) (dCons (dV 14) (dNil))))) (dNil)))))))
    (sNil))))))))))))
noncomputable def tab__law_marks_1 : List (Option (Str × NameKind)) := [some ((Str.ofString "_law_script"), .cell), some ((Str.ofString "_law_spot"), .cell), none, none, some ((Str.ofString "_law_some"), .cell), some ((Str.ofString "_law_k"), .local)]
noncomputable def tab__law_marks : List (Option (Str × NameKind)) := [some ((Str.ofString "_law_script"), .cell), some ((Str.ofString "_law_spot"), .cell), some ((Str.ofString "_law_names_here"), .local), some ((Str.ofString "_law_least"), .local), some ((Str.ofString "_law_some"), .cell)]
noncomputable def d__law_marks : DS :=
    sSeq (sSet 4 (dBin opAdd (dBin opAdd (dV 2) (dLst (dCons (dC (.str (Str.ofString ""))) (dCons (dBin opAdd (dSlc (dIdx (dV 2) (dC (.int 2))) (oNone) (oSome (dC (.int 1)))) (dC (.str (Str.ofString "zq")))) (dNil))))) (dV 2)))
    (sSeq (sRet (dComp [5] (iRange (dCons (dBin opAdd (dV 3) (dBin opMod (dCall 6 (dCons (dV 0) (dCons (dV 1) (dNil)))) (dC (.int 6)))) (dNil))) (cb1 5) (tTrue) (dIdx (dV 4) (dBin opMod (dCall 6 (dCons (dV 0) (dCons (dV 1) (dNil)))) (dC (.int 8))))))
    (sNil))
noncomputable def tab_law_1 : List (Option (Str × NameKind)) := [none, none, none, none, none, none, none, none, none, none, some ((Str.ofString "_law_one"), .local)]
noncomputable def tab_law : List (Option (Str × NameKind)) := [some ((Str.ofString "_law_script"), .local), some ((Str.ofString "_law_spot"), .local), some ((Str.ofString "_law_names_here"), .local), some ((Str.ofString "_law_saying"), .local), some ((Str.ofString "_law_way"), .local), some ((Str.ofString "_law_ring"), .local), some ((Str.ofString "_law_due"), .local), some ((Str.ofString "_law_handed"), .local), some ((Str.ofString "_law_found"), .local), some ((Str.ofString "_law_told"), .local)]
noncomputable def d_law : DS :=
    sSeq (sSet 1 (dLst (dCons (dC (.int 1)) (dNil))))
    (sSeq (sSet 2 (dCall 7 (dCons (dCall 5 (dCons (dV 0) (dCons (dC (.int 0)) (dNil)))) (dNil))))
    (sSeq (sSet 3 (dCall 8 (dCons (dV 0) (dCons (dV 1) (dCons (dV 2) (dCons (dC (.int 5)) (dNil)))))))
    (sSeq (sSet 4 (dCall 12 (dCons (dV 0) (dCons (dV 1) (dCons (dV 2) (dCons (dC (.int 0)) (dNil)))))))
    (sSeq (sSet 5 (dCall 12 (dCons (dV 0) (dCons (dV 1) (dCons (dV 2) (dCons (dC (.int 1)) (dNil)))))))
    (sSeq (sSet 6 (dCall 11 (dCons (dV 3) (dCons (dV 4) (dCons (dV 5) (dNil))))))
    (sSeq (sSet 7 (dLst (dCons (dB1 bList (dV 4)) (dCons (dB1 bList (dV 5)) (dNil)))))
    (sSeq (sSet 8 (dCall 3 (dCons (dV 3) (dCons (dIdx (dV 7) (dC (.int 0))) (dCons (dIdx (dV 7) (dC (.int 1))) (dNil))))))
    (sSeq (sIf (tOr (tNot (tE (dB1 (bIsi .list) (dV 8)))) (tOr (tCmp cNe (dV 8) (dV 6)) (tOr (tCmp cIn (dC (.bool false)) (dComp [10] (iSeq (dV 8)) (cb1 10) (tTrue) (dB1 (bIsi .bool) (dV 10)))) (tFalse)))) (sSeq (sRet (dC (.bool false)))
    (sNil)) (sNil))
    (sSeq (sExpr (dM1 .list bAppend (dV 8) (dC .none)))
    (sSeq (sSet 9 (dCall 4 (dCons (dV 3) (dCons (dIdx (dV 7) (dC (.int 0))) (dCons (dIdx (dV 7) (dC (.int 1))) (dNil))))))
    (sSeq (sIf (tOr (tNot (tE (dB1 (bIsi .bool) (dV 9)))) (tOr (tCmp cNe (dV 9) (dIdx (dV 6) (dC (.int 0)))) (tOr (tCmp cNe (dV 7) (dLst (dCons (dV 4) (dCons (dV 5) (dNil))))) (tFalse)))) (sSeq (sRet (dC (.bool false)))
    (sNil)) (sNil))
    (sSeq (sIf (tCmp cNe (dCall 3 (dCons (dV 3) (dCons (dV 4) (dCons (dBin opAdd (dV 5) (dV 5)) (dNil))))) (dBin opAdd (dV 6) (dSlc (dV 6) (oSome (dB1 bLen (dV 4))) (oNone)))) (sSeq (sRet (dC (.bool false)))
    (sNil)) (sNil))
    (sSeq (sIf (tCmp cNe (dCall 3 (dCons (dV 3) (dCons (dBin opAdd (dV 4) (dSlc (dV 5) (oNone) (oSome (dC (.int 1))))) (dCons (dBin opAdd (dSlc (dV 5) (oSome (dC (.int 1))) (oNone)) (dSlc (dV 5) (oNone) (oSome (dC (.int 1))))) (dNil))))) (dBin opAdd (dV 6) (dSlc (dV 6) (oSome (dB1 bLen (dV 4))) (oSome (dBin opAdd (dB1 bLen (dV 4)) (dC (.int 1))))))) (sSeq (sRet (dC (.bool false)))
    (sNil)) (sNil))
    (sSeq (sRet (dAnd (dCmp cEq (dCall 3 (dCons (dV 3) (dCons (dV 4) (dCons (dV 5) (dNil))))) (dV 6)) (dCmp cEq (dV 8) (dBin opAdd (dV 6) (dLst (dCons (dC .none) (dNil)))))))
    (sNil)))))))))))))))
noncomputable def Φ : Nat → Option Fn
  | 0 => some ⟨1, d_parts_of⟩
  | 1 => some ⟨3, d_till_over⟩
  | 2 => some ⟨3, d_over⟩
  | 3 => some ⟨3, d_row_of⟩
  | 4 => some ⟨3, d_holds⟩
  | 5 => some ⟨2, d__law_cell_at⟩
  | 6 => some ⟨2, d__law_draw⟩
  | 7 => some ⟨1, d__law_names⟩
  | 8 => some ⟨4, d__law_made⟩
  | 9 => some ⟨3, d__law_after⟩
  | 10 => some ⟨3, d__law_till⟩
  | 11 => some ⟨3, d__law_means⟩
  | 12 => some ⟨4, d__law_marks⟩
  | 13 => some ⟨1, d_law⟩
  | _ => none
/-- a program laid as this one -/
structure Like (P : Pg) : Prop where
  Φ : P.Φ = Φ
  nm : ∀ f F, Mine.L04.Φ f = some F → (P.fd f).name = nmOf f
theorem Like.fn {P : Pg} (H : Like P) (f : Nat) (F : Fn) (h : Mine.L04.Φ f = some F) : P.Φ f = some F := by rw [H.Φ]; exact h

theorem s_parts_of {P : Pg} (H : Like P) : SimS P ⟨scAt 1, tab_parts_of⟩ (bodyAt 1) d_parts_of :=
    (SimS.cons (SimX.if (SimT.cmp cmpEq rfl (SimE.idx (fun _ _ => rfl) (SimE.var rfl) SimE.int) (SimE.str (by decide +kernel))) (SimS.cons (SimX.ret (SimE.list SimL.nil))
    SimS.nil) SimS.nil)
    (SimS.cons (SimX.ret (SimE.listOf (by decide +kernel) rfl (fun _ => rfl) (SimE.slc (SimE.var rfl) (SimO.some SimE.int) SimO.none)))
    SimS.nil))
theorem s_till_over {P : Pg} (H : Like P) : SimS P ⟨scAt 3, tab_till_over⟩ (bodyAt 3) d_till_over :=
    (SimS.cons (SimX.setG rfl (.inl rfl) (by decide +kernel) (SimE.bin opMul_ok (SimE.list (SimL.cons (fun _ => rfl) SimE.bool SimL.nil)) (SimE.len (by decide +kernel) rfl (fun _ => rfl) (SimE.var rfl))))
    (SimS.cons (SimX.for (fun _ _ => rfl) (SimI.range (Bind.one rfl (.inl rfl)) (by decide +kernel) rfl (SimL.cons (fun _ => rfl) SimE.int SimL.nil)) (SimS.cons (SimX.for (fun _ _ => rfl) (SimI.range (Bind.one rfl (.inl rfl)) (by decide +kernel) rfl (SimL.cons (fun _ => rfl) (SimE.bin opSub_ok (SimE.len (by decide +kernel) rfl (fun _ => rfl) (SimE.var rfl)) SimE.int) (SimL.cons (fun _ => rfl) (SimE.neg SimE.int) (SimL.cons (fun _ => rfl) (SimE.neg SimE.int) SimL.nil)))) (SimS.cons (SimX.setG rfl (.inl rfl) (by decide +kernel) (SimE.ifExp (SimT.cmp cmpEq rfl (SimE.var rfl) (SimE.bin opSub_ok (SimE.len (by decide +kernel) rfl (fun _ => rfl) (SimE.var rfl)) SimE.int)) (SimE.var rfl) (SimE.bin opAdd_ok (SimE.var rfl) SimE.int)))
    (SimS.cons (SimX.put (fun _ => rfl) (SimE.var rfl) (SimE.var rfl) (SimE.boolOp (SimB.or (SimE.idx (fun _ _ => rfl) (SimE.var rfl) (SimE.var rfl)) (SimB.one (SimE.boolOp (SimB.and (SimE.idx (fun _ _ => rfl) (SimE.var rfl) (SimE.var rfl)) (SimB.one (SimE.idx (fun _ _ => rfl) (SimE.var rfl) (SimE.var rfl)))))))))
    SimS.nil)))
    SimS.nil))
    (SimS.cons (SimX.ret (SimE.var rfl))
    SimS.nil)))
theorem s_over {P : Pg} (H : Like P) : SimS P ⟨scAt 4, tab_over⟩ (bodyAt 4) d_over :=
    (SimS.cons (SimX.setG rfl (.inl rfl) (by decide +kernel) (SimE.idx (fun _ _ => rfl) (SimE.var rfl) SimE.int))
    (SimS.cons (SimX.if (SimT.cmp cmpEq rfl (SimE.var rfl) (SimE.str (by decide +kernel))) (SimS.cons (SimX.ret (SimE.comp (CompOk.of (tab := tab_over_1) (locs := [6]) (by decide +kernel)) (SimI.seq (Bind.cone rfl (.inl rfl)) (SimE.var rfl)) SimIfs.nil (SimE.cmp cmpEq rfl (SimE.var rfl) (SimE.idx (fun _ _ => rfl) (SimE.var rfl) SimE.int)) (cb1_keeps 6) (fun _ _ => rfl)))
    SimS.nil) SimS.nil)
    (SimS.cons (SimX.if (SimT.cmp cmpEq rfl (SimE.var rfl) (SimE.str (by decide +kernel))) (SimS.cons (SimX.ret (SimE.comp (CompOk.of (tab := tab_over_2) (locs := [7]) (by decide +kernel)) (SimI.seq (Bind.cone rfl (.inl rfl)) (SimE.var rfl)) SimIfs.nil SimE.bool (cb1_keeps 7) (fun _ _ => rfl)))
    SimS.nil) SimS.nil)
    (SimS.cons (SimX.setComp rfl (by decide +kernel) (CompOk.of (tab := tab_over_3) (locs := [8]) (by decide +kernel)) (SimI.seq (Bind.cone rfl (.inl rfl)) (SimE.call (f := 0) (H.fn 0 _ rfl) (H.nm 0 _ rfl) (by decide +kernel) (by decide +kernel) rfl (SimL.cons (fun _ => rfl) (SimE.var rfl) SimL.nil))) SimIfs.nil (SimE.call (f := 2) (H.fn 2 _ rfl) (H.nm 2 _ rfl) (by decide +kernel) (by decide +kernel) rfl (SimL.cons (fun _ => rfl) (SimE.var rfl) (SimL.cons (fun _ => rfl) (SimE.var rfl) (SimL.cons (fun _ => rfl) (SimE.var rfl) SimL.nil)))) (cb1_keeps 8) (fun _ _ => rfl))
    (SimS.cons (SimX.if (SimT.cmp cmpEq rfl (SimE.var rfl) (SimE.str (by decide +kernel))) (SimS.cons (SimX.ret (SimE.comp (CompOk.of (tab := tab_over_4) (locs := [9]) (by decide +kernel)) (SimI.seq (Bind.cone rfl (.inl rfl)) (SimE.idx (fun _ _ => rfl) (SimE.var rfl) SimE.int)) SimIfs.nil (SimE.not (SimE.var rfl)) (cb1_keeps 9) (fun _ _ => rfl)))
    SimS.nil) SimS.nil)
    (SimS.cons (SimX.if (SimT.cmp cmpEq rfl (SimE.var rfl) (SimE.str (by decide +kernel))) (SimS.cons (SimX.ret (SimE.zipC (EltOk.and (by decide +kernel) (by decide +kernel)) (by decide +kernel) (by decide +kernel) rfl (fun _ => rfl) (fun _ => rfl) (SimE.idx (fun _ _ => rfl) (SimE.var rfl) SimE.int) (SimE.idx (fun _ _ => rfl) (SimE.var rfl) SimE.int)))
    SimS.nil) SimS.nil)
    (SimS.cons (SimX.if (SimT.cmp cmpEq rfl (SimE.var rfl) (SimE.str (by decide +kernel))) (SimS.cons (SimX.ret (SimE.zipC (EltOk.or (by decide +kernel) (by decide +kernel)) (by decide +kernel) (by decide +kernel) rfl (fun _ => rfl) (fun _ => rfl) (SimE.idx (fun _ _ => rfl) (SimE.var rfl) SimE.int) (SimE.idx (fun _ _ => rfl) (SimE.var rfl) SimE.int)))
    SimS.nil) SimS.nil)
    (SimS.cons (SimX.if (SimT.cmp cmpEq rfl (SimE.var rfl) (SimE.str (by decide +kernel))) (SimS.cons (SimX.ret (SimE.bin opAdd_ok (SimE.slc (SimE.idx (fun _ _ => rfl) (SimE.var rfl) SimE.int) (SimO.some SimE.int) SimO.none) (SimE.list (SimL.cons (fun _ => rfl) (SimE.idx (fun _ _ => rfl) (SimE.idx (fun _ _ => rfl) (SimE.var rfl) SimE.int) (SimE.var rfl)) SimL.nil))))
    SimS.nil) SimS.nil)
    (SimS.cons (SimX.if (SimT.cmp cmpEq rfl (SimE.var rfl) (SimE.str (by decide +kernel))) (SimS.cons (SimX.ret (SimE.call (f := 1) (H.fn 1 _ rfl) (H.nm 1 _ rfl) (by decide +kernel) (by decide +kernel) rfl (SimL.cons (fun _ => rfl) (SimE.idx (fun _ _ => rfl) (SimE.var rfl) SimE.int) (SimL.cons (fun _ => rfl) (SimE.idx (fun _ _ => rfl) (SimE.var rfl) SimE.int) (SimL.cons (fun _ => rfl) (SimE.var rfl) SimL.nil)))))
    SimS.nil) SimS.nil)
    (SimS.cons (SimX.if (SimT.cmp cmpEq rfl (SimE.var rfl) (SimE.str (by decide +kernel))) (SimS.cons (SimX.setG rfl (.inl rfl) (by decide +kernel) (SimE.call (f := 1) (H.fn 1 _ rfl) (H.nm 1 _ rfl) (by decide +kernel) (by decide +kernel) rfl (SimL.cons (fun _ => rfl) (SimE.bin opMul_ok (SimE.list (SimL.cons (fun _ => rfl) SimE.bool SimL.nil)) (SimE.len (by decide +kernel) rfl (fun _ => rfl) (SimE.var rfl))) (SimL.cons (fun _ => rfl) (SimE.comp (CompOk.of (tab := tab_over_5) (locs := [10]) (by decide +kernel)) (SimI.seq (Bind.cone rfl (.inl rfl)) (SimE.idx (fun _ _ => rfl) (SimE.var rfl) SimE.int)) SimIfs.nil (SimE.not (SimE.var rfl)) (cb1_keeps 10) (fun _ _ => rfl)) (SimL.cons (fun _ => rfl) (SimE.var rfl) SimL.nil)))))
    (SimS.cons (SimX.ret (SimE.comp (CompOk.of (tab := tab_over_6) (locs := [11]) (by decide +kernel)) (SimI.seq (Bind.cone rfl (.inl rfl)) (SimE.var rfl)) SimIfs.nil (SimE.not (SimE.var rfl)) (cb1_keeps 11) (fun _ _ => rfl)))
    SimS.nil)) SimS.nil)
    (SimS.cons (SimX.ret (SimE.bin opMul_ok (SimE.list (SimL.cons (fun _ => rfl) (SimE.anyOf (by decide +kernel) rfl (fun _ => rfl) (SimE.slc (SimE.idx (fun _ _ => rfl) (SimE.var rfl) SimE.int) (SimO.some (SimE.var rfl)) SimO.none)) SimL.nil)) (SimE.len (by decide +kernel) rfl (fun _ => rfl) (SimE.var rfl))))
    SimS.nil)))))))))))
theorem s_row_of {P : Pg} (H : Like P) : SimS P ⟨scAt 5, tab_row_of⟩ (bodyAt 5) d_row_of :=
    (SimS.cons (SimX.ret (SimE.call (f := 2) (H.fn 2 _ rfl) (H.nm 2 _ rfl) (by decide +kernel) (by decide +kernel) rfl (SimL.cons (fun _ => rfl) (SimE.var rfl) (SimL.cons (fun _ => rfl) (SimE.bin opAdd_ok (SimE.var rfl) (SimE.var rfl)) (SimL.cons (fun _ => rfl) (SimE.len (by decide +kernel) rfl (fun _ => rfl) (SimE.var rfl)) SimL.nil)))))
    SimS.nil)
theorem s_holds {P : Pg} (H : Like P) : SimS P ⟨scAt 6, tab_holds⟩ (bodyAt 6) d_holds :=
    (SimS.cons (SimX.ret (SimE.idx (fun _ _ => rfl) (SimE.call (f := 3) (H.fn 3 _ rfl) (H.nm 3 _ rfl) (by decide +kernel) (by decide +kernel) rfl (SimL.cons (fun _ => rfl) (SimE.var rfl) (SimL.cons (fun _ => rfl) (SimE.var rfl) (SimL.cons (fun _ => rfl) (SimE.var rfl) SimL.nil)))) SimE.int))
    SimS.nil)
theorem s__law_cell_at {P : Pg} (H : Like P) : SimS P ⟨scAt 8, tab__law_cell_at⟩ (bodyAt 8) d__law_cell_at :=
    (SimS.cons (SimX.if (SimT.cmp cmpLt rfl (SimE.var rfl) (SimE.len (by decide +kernel) rfl (fun _ => rfl) (SimE.var rfl))) (SimS.cons (SimX.ret (SimE.idx (fun _ _ => rfl) (SimE.var rfl) (SimE.var rfl)))
    SimS.nil) SimS.nil)
    (SimS.cons (SimX.ret SimE.int)
    SimS.nil))
theorem s__law_draw {P : Pg} (H : Like P) : SimS P ⟨scAt 9, tab__law_draw⟩ (bodyAt 9) d__law_draw :=
    (SimS.cons (SimX.put (fun _ => rfl) (SimE.var rfl) SimE.int (SimE.bin opAdd_ok (SimE.idx (fun _ _ => rfl) (SimE.var rfl) SimE.int) SimE.int))
    (SimS.cons (SimX.setG rfl (.inl rfl) (by decide +kernel) (SimE.bin opSub_ok (SimE.idx (fun _ _ => rfl) (SimE.var rfl) SimE.int) SimE.int))
    (SimS.cons (SimX.if (SimT.cmp cmpLt rfl (SimE.var rfl) (SimE.len (by decide +kernel) rfl (fun _ => rfl) (SimE.var rfl))) (SimS.cons (SimX.ret (SimE.idx (fun _ _ => rfl) (SimE.var rfl) (SimE.var rfl)))
    SimS.nil) SimS.nil)
    (SimS.cons (SimX.if (SimT.boolOp (SimA.and (SimT.cmp cmpGt rfl (SimE.len (by decide +kernel) rfl (fun _ => rfl) (SimE.var rfl)) SimE.int) (SimA.and (SimT.cmp cmpLt rfl (SimE.var rfl) SimE.int) SimA.andNil))) (SimS.cons (SimX.ret (SimE.bin opMod_ok (SimE.bin opMul_ok (SimE.bin opAdd_ok (SimE.idx (fun _ _ => rfl) (SimE.var rfl) (SimE.bin opMod_ok (SimE.var rfl) (SimE.len (by decide +kernel) rfl (fun _ => rfl) (SimE.var rfl)))) (SimE.bin opMul_ok SimE.int (SimE.var rfl))) SimE.int) SimE.int))
    SimS.nil) SimS.nil)
    (SimS.cons (SimX.ret SimE.int)
    SimS.nil)))))
theorem s__law_names {P : Pg} (H : Like P) : SimS P ⟨scAt 10, tab__law_names⟩ (bodyAt 10) d__law_names :=
    (SimS.cons (SimX.setG rfl (.inr rfl) (by decide +kernel) (SimE.str (by decide +kernel)))
    (SimS.cons (SimX.setG rfl (.inr rfl) (by decide +kernel) (SimE.m1 .str i_join join_ok (fun _ => rfl) rfl (fun _ => rfl) (SimE.str (by decide +kernel)) (SimE.comp (CompOk.of (tab := tab__law_names_1) (locs := [8]) (by decide +kernel)) (SimI.range (Bind.cone rfl (.inl rfl)) (by decide +kernel) rfl (SimL.cons (fun _ => rfl) SimE.int SimL.nil)) SimIfs.nil (SimE.idx (fun _ _ => rfl) (SimE.var rfl) (SimE.bin opMod_ok (SimE.bin opAdd_ok (SimE.bin opDiv_ok (SimE.var rfl) SimE.int) (SimE.bin opMul_ok SimE.int (SimE.var rfl))) SimE.int)) (cb1_keeps 8) (fun _ _ => rfl))))
    (SimS.cons (SimX.if (SimT.cmp cmpEq rfl (SimE.bin opMod_ok (SimE.var rfl) SimE.int) SimE.int) (SimS.cons (SimX.setG rfl (.inr rfl) (by decide +kernel) (SimE.bin opAdd_ok SimE.int (SimE.bin opMod_ok (SimE.bin opDiv_ok (SimE.var rfl) SimE.int) SimE.int)))
    (SimS.cons (SimX.ret (SimE.comp (CompOk.of (tab := tab__law_names_2) (locs := [9]) (by decide +kernel)) (SimI.range (Bind.cone rfl (.inl rfl)) (by decide +kernel) rfl (SimL.cons (fun _ => rfl) SimE.int SimL.nil)) SimIfs.nil (SimE.slc (SimE.var rfl) SimO.none (SimO.some (SimE.bin opAdd_ok (SimE.var rfl) (SimE.var rfl)))) (cb1_keeps 9) (fun _ _ => rfl)))
    SimS.nil)) SimS.nil)
    (SimS.cons (SimX.setG rfl (.inr rfl) (by decide +kernel) (SimE.bin opMod_ok (SimE.bin opDiv_ok (SimE.var rfl) SimE.int) SimE.int))
    (SimS.cons (SimX.setG rfl (.inl rfl) (by decide +kernel) (SimE.bin opMod_ok (SimE.bin opDiv_ok (SimE.var rfl) SimE.int) (SimE.bin opAdd_ok (SimE.var rfl) SimE.int)))
    (SimS.cons (SimX.setG rfl (.inl rfl) (by decide +kernel) (SimE.list SimL.nil))
    (SimS.cons (SimX.for (fun _ _ => rfl) (SimI.range (Bind.one rfl (.inl rfl)) (by decide +kernel) rfl (SimL.cons (fun _ => rfl) SimE.int SimL.nil)) (SimS.cons (SimX.setG rfl (.inl rfl) (by decide +kernel) (SimE.idx (fun _ _ => rfl) (SimE.var rfl) (SimE.bin opMod_ok (SimE.bin opAdd_ok (SimE.bin opDiv_ok (SimE.var rfl) SimE.int) (SimE.bin opMul_ok SimE.int (SimE.var rfl))) SimE.int)))
    (SimS.cons (SimX.expr (fun _ => rfl) (SimE.m1 .list i_append append_ok (fun _ => rfl) rfl (fun _ => rfl) (SimE.var rfl) (SimE.bin opAdd_ok (SimE.bin opAdd_ok (SimE.slc (SimE.var rfl) SimO.none (SimO.some (SimE.var rfl))) (SimE.var rfl)) (SimE.slc (SimE.var rfl) (SimO.some (SimE.var rfl)) (SimO.some (SimE.var rfl))))))
    SimS.nil)))
    (SimS.cons (SimX.ret (SimE.var rfl))
    SimS.nil))))))))
theorem s__law_made {P : Pg} (H : Like P) : SimS P ⟨scAt 11, tab__law_made⟩ (bodyAt 11) d__law_made :=
    (SimS.cons (SimX.setG rfl (.inl rfl) (by decide +kernel) (SimE.call (f := 6) (H.fn 6 _ rfl) (H.nm 6 _ rfl) (by decide +kernel) (by decide +kernel) rfl (SimL.cons (fun _ => rfl) (SimE.var rfl) (SimL.cons (fun _ => rfl) (SimE.var rfl) SimL.nil))))
    (SimS.cons (SimX.setG rfl (.inl rfl) (by decide +kernel) (SimE.bin opDiv_ok (SimE.var rfl) SimE.int))
    (SimS.cons (SimX.if (SimT.boolOp (SimA.or (SimT.cmp cmpLt rfl (SimE.var rfl) SimE.int) (SimA.or (SimT.cmp cmpLt rfl (SimE.bin opMod_ok (SimE.var rfl) SimE.int) SimE.int) SimA.orNil))) (SimS.cons (SimX.if (SimT.cmp cmpEq rfl (SimE.bin opMod_ok (SimE.var rfl) SimE.int) SimE.int) (SimS.cons (SimX.ret (SimE.tup (SimL.cons (fun _ => rfl) (SimE.str (by decide +kernel)) SimL.nil)))
    SimS.nil) SimS.nil)
    (SimS.cons (SimX.ret (SimE.tup (SimL.cons (fun _ => rfl) (SimE.str (by decide +kernel)) (SimL.cons (fun _ => rfl) (SimE.idx (fun _ _ => rfl) (SimE.var rfl) (SimE.bin opMod_ok (SimE.var rfl) SimE.int)) SimL.nil))))
    SimS.nil)) SimS.nil)
    (SimS.cons (SimX.setG rfl (.inl rfl) (by decide +kernel) (SimE.str (by decide +kernel)))
    (SimS.cons (SimX.setG rfl (.inl rfl) (by decide +kernel) (SimE.idx (fun _ _ => rfl) (SimE.m1 .str i_split split_ok (fun _ => rfl) rfl (fun _ => rfl) (SimE.var rfl) (SimE.str (by decide +kernel))) (SimE.bin opSub_ok (SimE.bin opMod_ok (SimE.var rfl) SimE.int) SimE.int)))
    (SimS.cons (SimX.setG rfl (.inl rfl) (by decide +kernel) (SimE.call (f := 8) (H.fn 8 _ rfl) (H.nm 8 _ rfl) (by decide +kernel) (by decide +kernel) rfl (SimL.cons (fun _ => rfl) (SimE.var rfl) (SimL.cons (fun _ => rfl) (SimE.var rfl) (SimL.cons (fun _ => rfl) (SimE.var rfl) (SimL.cons (fun _ => rfl) (SimE.bin opSub_ok (SimE.var rfl) SimE.int) SimL.nil))))))
    (SimS.cons (SimX.if (SimT.cmp cmpIn rfl (SimE.var rfl) (SimE.tup (SimL.cons (fun _ => rfl) (SimE.str (by decide +kernel)) (SimL.cons (fun _ => rfl) (SimE.str (by decide +kernel)) (SimL.cons (fun _ => rfl) (SimE.str (by decide +kernel)) (SimL.cons (fun _ => rfl) (SimE.str (by decide +kernel)) SimL.nil)))))) (SimS.cons (SimX.ret (SimE.tup (SimL.cons (fun _ => rfl) (SimE.var rfl) (SimL.cons (fun _ => rfl) (SimE.var rfl) SimL.nil))))
    SimS.nil) SimS.nil)
    (SimS.cons (SimX.ret (SimE.tup (SimL.cons (fun _ => rfl) (SimE.var rfl) (SimL.cons (fun _ => rfl) (SimE.var rfl) (SimL.cons (fun _ => rfl) (SimE.call (f := 8) (H.fn 8 _ rfl) (H.nm 8 _ rfl) (by decide +kernel) (by decide +kernel) rfl (SimL.cons (fun _ => rfl) (SimE.var rfl) (SimL.cons (fun _ => rfl) (SimE.var rfl) (SimL.cons (fun _ => rfl) (SimE.var rfl) (SimL.cons (fun _ => rfl) (SimE.bin opSub_ok (SimE.var rfl) SimE.int) SimL.nil))))) SimL.nil)))))
    SimS.nil))))))))
theorem s__law_after {P : Pg} (H : Like P) : SimS P ⟨scAt 12, tab__law_after⟩ (bodyAt 12) d__law_after :=
    (SimS.cons (SimX.setG rfl (.inl rfl) (by decide +kernel) (SimE.bin opAdd_ok (SimE.len (by decide +kernel) rfl (fun _ => rfl) (SimE.var rfl)) (SimE.len (by decide +kernel) rfl (fun _ => rfl) (SimE.var rfl))))
    (SimS.cons (SimX.ret (SimE.bin opAdd_ok (SimE.comp (CompOk.of (tab := tab__law_after_1) (locs := [4]) (by decide +kernel)) (SimI.range (Bind.cone rfl (.inl rfl)) (by decide +kernel) rfl (SimL.cons (fun _ => rfl) (SimE.var rfl) (SimL.cons (fun _ => rfl) (SimE.var rfl) SimL.nil))) SimIfs.nil (SimE.var rfl) (cb1_keeps 4) (fun _ _ => rfl)) (SimE.comp (CompOk.of (tab := tab__law_after_2) (locs := [5]) (by decide +kernel)) (SimI.range (Bind.cone rfl (.inl rfl)) (by decide +kernel) rfl (SimL.cons (fun _ => rfl) (SimE.len (by decide +kernel) rfl (fun _ => rfl) (SimE.var rfl)) (SimL.cons (fun _ => rfl) (SimE.var rfl) SimL.nil))) SimIfs.nil (SimE.var rfl) (cb1_keeps 5) (fun _ _ => rfl))))
    SimS.nil))
theorem s__law_till {P : Pg} (H : Like P) : SimS P ⟨scAt 13, tab__law_till⟩ (bodyAt 13) d__law_till :=
    (SimS.cons (SimX.for (fun _ _ => rfl) (SimI.seq (Bind.one rfl (.inl rfl)) (SimE.var rfl)) (SimS.cons (SimX.if (SimT.val (SimE.idx (fun _ _ => rfl) (SimE.var rfl) (SimE.var rfl)) (fun _ _ => rfl)) (SimS.cons (SimX.ret SimE.bool)
    SimS.nil) SimS.nil)
    (SimS.cons (SimX.if (SimT.not (SimT.val (SimE.idx (fun _ _ => rfl) (SimE.var rfl) (SimE.var rfl)) (fun _ _ => rfl))) (SimS.cons (SimX.ret SimE.bool)
    SimS.nil) SimS.nil)
    SimS.nil)))
    (SimS.cons (SimX.ret SimE.bool)
    SimS.nil))
theorem s__law_means {P : Pg} (H : Like P) : SimS P ⟨scAt 14, tab__law_means⟩ (bodyAt 14) d__law_means :=
    (SimS.cons (SimX.setG rfl (.inl rfl) (by decide +kernel) (SimE.idx (fun _ _ => rfl) (SimE.var rfl) SimE.int))
    (SimS.cons (SimX.setG rfl (.inl rfl) (by decide +kernel) (SimE.bin opAdd_ok (SimE.var rfl) (SimE.var rfl)))
    (SimS.cons (SimX.if (SimT.cmp cmpEq rfl (SimE.var rfl) (SimE.str (by decide +kernel))) (SimS.cons (SimX.ret (SimE.comp (CompOk.of (tab := tab__law_means_1) (locs := [6]) (by decide +kernel)) (SimI.seq (Bind.cone rfl (.inl rfl)) (SimE.var rfl)) SimIfs.nil (SimE.cmp cmpEq rfl (SimE.var rfl) (SimE.idx (fun _ _ => rfl) (SimE.var rfl) SimE.int)) (cb1_keeps 6) (fun _ _ => rfl)))
    SimS.nil) SimS.nil)
    (SimS.cons (SimX.if (SimT.cmp cmpEq rfl (SimE.var rfl) (SimE.str (by decide +kernel))) (SimS.cons (SimX.ret (SimE.comp (CompOk.of (tab := tab__law_means_2) (locs := [7]) (by decide +kernel)) (SimI.seq (Bind.cone rfl (.inl rfl)) (SimE.var rfl)) SimIfs.nil SimE.bool (cb1_keeps 7) (fun _ _ => rfl)))
    SimS.nil) SimS.nil)
    (SimS.cons (SimX.setG rfl (.inr rfl) (by decide +kernel) (SimE.comp (CompOk.of (tab := tab__law_means_3) (locs := [8]) (by decide +kernel)) (SimI.seq (Bind.cone rfl (.inl rfl)) (SimE.slc (SimE.var rfl) (SimO.some SimE.int) SimO.none)) SimIfs.nil (SimE.call (f := 11) (H.fn 11 _ rfl) (H.nm 11 _ rfl) (by decide +kernel) (by decide +kernel) rfl (SimL.cons (fun _ => rfl) (SimE.var rfl) (SimL.cons (fun _ => rfl) (SimE.var rfl) (SimL.cons (fun _ => rfl) (SimE.var rfl) SimL.nil)))) (cb1_keeps 8) (fun _ _ => rfl)))
    (SimS.cons (SimX.if (SimT.cmp cmpEq rfl (SimE.var rfl) (SimE.str (by decide +kernel))) (SimS.cons (SimX.ret (SimE.comp (CompOk.of (tab := tab__law_means_4) (locs := [9]) (by decide +kernel)) (SimI.seq (Bind.cone rfl (.inl rfl)) (SimE.idx (fun _ _ => rfl) (SimE.var rfl) SimE.int)) SimIfs.nil (SimE.not (SimE.var rfl)) (cb1_keeps 9) (fun _ _ => rfl)))
    SimS.nil) SimS.nil)
    (SimS.cons (SimX.if (SimT.cmp cmpEq rfl (SimE.var rfl) (SimE.str (by decide +kernel))) (SimS.cons (SimX.ret (SimE.zipC (EltOk.and (by decide +kernel) (by decide +kernel)) (by decide +kernel) (by decide +kernel) rfl (fun _ => rfl) (fun _ => rfl) (SimE.idx (fun _ _ => rfl) (SimE.var rfl) SimE.int) (SimE.idx (fun _ _ => rfl) (SimE.var rfl) SimE.int)))
    SimS.nil) SimS.nil)
    (SimS.cons (SimX.if (SimT.cmp cmpEq rfl (SimE.var rfl) (SimE.str (by decide +kernel))) (SimS.cons (SimX.ret (SimE.zipC (EltOk.or (by decide +kernel) (by decide +kernel)) (by decide +kernel) (by decide +kernel) rfl (fun _ => rfl) (fun _ => rfl) (SimE.idx (fun _ _ => rfl) (SimE.var rfl) SimE.int) (SimE.idx (fun _ _ => rfl) (SimE.var rfl) SimE.int)))
    SimS.nil) SimS.nil)
    (SimS.cons (SimX.if (SimT.cmp cmpEq rfl (SimE.var rfl) (SimE.str (by decide +kernel))) (SimS.cons (SimX.ret (SimE.comp (CompOk.of (tab := tab__law_means_5) (locs := [10]) (by decide +kernel)) (SimI.range (Bind.cone rfl (.inl rfl)) (by decide +kernel) rfl (SimL.cons (fun _ => rfl) (SimE.len (by decide +kernel) rfl (fun _ => rfl) (SimE.var rfl)) SimL.nil)) SimIfs.nil (SimE.idx (fun _ _ => rfl) (SimE.idx (fun _ _ => rfl) (SimE.var rfl) SimE.int) (SimE.idx (fun _ _ => rfl) (SimE.call (f := 9) (H.fn 9 _ rfl) (H.nm 9 _ rfl) (by decide +kernel) (by decide +kernel) rfl (SimL.cons (fun _ => rfl) (SimE.var rfl) (SimL.cons (fun _ => rfl) (SimE.var rfl) (SimL.cons (fun _ => rfl) (SimE.var rfl) SimL.nil)))) SimE.int)) (cb1_keeps 10) (fun _ _ => rfl)))
    SimS.nil) SimS.nil)
    (SimS.cons (SimX.if (SimT.cmp cmpEq rfl (SimE.var rfl) (SimE.str (by decide +kernel))) (SimS.cons (SimX.ret (SimE.comp (CompOk.of (tab := tab__law_means_6) (locs := [11]) (by decide +kernel)) (SimI.range (Bind.cone rfl (.inl rfl)) (by decide +kernel) rfl (SimL.cons (fun _ => rfl) (SimE.len (by decide +kernel) rfl (fun _ => rfl) (SimE.var rfl)) SimL.nil)) SimIfs.nil (SimE.cmp cmpNotIn rfl SimE.bool (SimE.comp (CompOk.of (tab := tab__law_means_7) (locs := [12]) (by decide +kernel)) (SimI.seq (Bind.cone rfl (.inl rfl)) (SimE.call (f := 9) (H.fn 9 _ rfl) (H.nm 9 _ rfl) (by decide +kernel) (by decide +kernel) rfl (SimL.cons (fun _ => rfl) (SimE.var rfl) (SimL.cons (fun _ => rfl) (SimE.var rfl) (SimL.cons (fun _ => rfl) (SimE.var rfl) SimL.nil))))) SimIfs.nil (SimE.idx (fun _ _ => rfl) (SimE.idx (fun _ _ => rfl) (SimE.var rfl) SimE.int) (SimE.var rfl)) (cb1_keeps 12) (fun _ _ => rfl))) (cb1_keeps 11) (fun _ _ => rfl)))
    SimS.nil) SimS.nil)
    (SimS.cons (SimX.if (SimT.cmp cmpEq rfl (SimE.var rfl) (SimE.str (by decide +kernel))) (SimS.cons (SimX.ret (SimE.comp (CompOk.of (tab := tab__law_means_8) (locs := [13]) (by decide +kernel)) (SimI.seq (Bind.cone rfl (.inl rfl)) (SimE.var rfl)) SimIfs.nil (SimE.cmp cmpIn rfl SimE.bool (SimE.slc (SimE.idx (fun _ _ => rfl) (SimE.var rfl) SimE.int) (SimO.some (SimE.len (by decide +kernel) rfl (fun _ => rfl) (SimE.var rfl))) SimO.none)) (cb1_keeps 13) (fun _ _ => rfl)))
    SimS.nil) SimS.nil)
    (SimS.cons (SimX.ret (SimE.comp (CompOk.of (tab := tab__law_means_9) (locs := [14]) (by decide +kernel)) (SimI.range (Bind.cone rfl (.inl rfl)) (by decide +kernel) rfl (SimL.cons (fun _ => rfl) (SimE.len (by decide +kernel) rfl (fun _ => rfl) (SimE.var rfl)) SimL.nil)) SimIfs.nil (SimE.call (f := 10) (H.fn 10 _ rfl) (H.nm 10 _ rfl) (by decide +kernel) (by decide +kernel) rfl (SimL.cons (fun _ => rfl) (SimE.idx (fun _ _ => rfl) (SimE.var rfl) SimE.int) (SimL.cons (fun _ => rfl) (SimE.idx (fun _ _ => rfl) (SimE.var rfl) SimE.int) (SimL.cons (fun _ => rfl) (SimE.call (f := 9) (H.fn 9 _ rfl) (H.nm 9 _ rfl) (by decide +kernel) (by decide +kernel) rfl (SimL.cons (fun _ => rfl) (SimE.var rfl) (SimL.cons (fun _ => rfl) (SimE.var rfl) (SimL.cons (fun _ => rfl) (SimE.var rfl) SimL.nil)))) SimL.nil)))) (cb1_keeps 14) (fun _ _ => rfl)))
    SimS.nil))))))))))))
theorem s__law_marks {P : Pg} (H : Like P) : SimS P ⟨scAt 15, tab__law_marks⟩ (bodyAt 15) d__law_marks :=
    (SimS.cons (SimX.setG rfl (.inr rfl) (by decide +kernel) (SimE.bin opAdd_ok (SimE.bin opAdd_ok (SimE.var rfl) (SimE.list (SimL.cons (fun _ => rfl) (SimE.str (by decide +kernel)) (SimL.cons (fun _ => rfl) (SimE.bin opAdd_ok (SimE.slc (SimE.idx (fun _ _ => rfl) (SimE.var rfl) SimE.int) SimO.none (SimO.some SimE.int)) (SimE.str (by decide +kernel))) SimL.nil)))) (SimE.var rfl)))
    (SimS.cons (SimX.ret (SimE.comp (CompOk.of (tab := tab__law_marks_1) (locs := [5]) (by decide +kernel)) (SimI.range (Bind.cone rfl (.inl rfl)) (by decide +kernel) rfl (SimL.cons (fun _ => rfl) (SimE.bin opAdd_ok (SimE.var rfl) (SimE.bin opMod_ok (SimE.call (f := 6) (H.fn 6 _ rfl) (H.nm 6 _ rfl) (by decide +kernel) (by decide +kernel) rfl (SimL.cons (fun _ => rfl) (SimE.var rfl) (SimL.cons (fun _ => rfl) (SimE.var rfl) SimL.nil))) SimE.int)) SimL.nil)) SimIfs.nil (SimE.idx (fun _ _ => rfl) (SimE.var rfl) (SimE.bin opMod_ok (SimE.call (f := 6) (H.fn 6 _ rfl) (H.nm 6 _ rfl) (by decide +kernel) (by decide +kernel) rfl (SimL.cons (fun _ => rfl) (SimE.var rfl) (SimL.cons (fun _ => rfl) (SimE.var rfl) SimL.nil))) SimE.int)) (cb1_keeps 5) (fun _ _ => rfl)))
    SimS.nil))
theorem s_law {P : Pg} (H : Like P) : SimS P ⟨scAt 16, tab_law⟩ (bodyAt 16) d_law :=
    (SimS.cons (SimX.setG rfl (.inl rfl) (by decide +kernel) (SimE.list (SimL.cons (fun _ => rfl) SimE.int SimL.nil)))
    (SimS.cons (SimX.setG rfl (.inl rfl) (by decide +kernel) (SimE.call (f := 7) (H.fn 7 _ rfl) (H.nm 7 _ rfl) (by decide +kernel) (by decide +kernel) rfl (SimL.cons (fun _ => rfl) (SimE.call (f := 5) (H.fn 5 _ rfl) (H.nm 5 _ rfl) (by decide +kernel) (by decide +kernel) rfl (SimL.cons (fun _ => rfl) (SimE.var rfl) (SimL.cons (fun _ => rfl) SimE.int SimL.nil))) SimL.nil)))
    (SimS.cons (SimX.setG rfl (.inl rfl) (by decide +kernel) (SimE.call (f := 8) (H.fn 8 _ rfl) (H.nm 8 _ rfl) (by decide +kernel) (by decide +kernel) rfl (SimL.cons (fun _ => rfl) (SimE.var rfl) (SimL.cons (fun _ => rfl) (SimE.var rfl) (SimL.cons (fun _ => rfl) (SimE.var rfl) (SimL.cons (fun _ => rfl) SimE.int SimL.nil))))))
    (SimS.cons (SimX.setG rfl (.inl rfl) (by decide +kernel) (SimE.call (f := 12) (H.fn 12 _ rfl) (H.nm 12 _ rfl) (by decide +kernel) (by decide +kernel) rfl (SimL.cons (fun _ => rfl) (SimE.var rfl) (SimL.cons (fun _ => rfl) (SimE.var rfl) (SimL.cons (fun _ => rfl) (SimE.var rfl) (SimL.cons (fun _ => rfl) SimE.int SimL.nil))))))
    (SimS.cons (SimX.setG rfl (.inl rfl) (by decide +kernel) (SimE.call (f := 12) (H.fn 12 _ rfl) (H.nm 12 _ rfl) (by decide +kernel) (by decide +kernel) rfl (SimL.cons (fun _ => rfl) (SimE.var rfl) (SimL.cons (fun _ => rfl) (SimE.var rfl) (SimL.cons (fun _ => rfl) (SimE.var rfl) (SimL.cons (fun _ => rfl) SimE.int SimL.nil))))))
    (SimS.cons (SimX.setG rfl (.inl rfl) (by decide +kernel) (SimE.call (f := 11) (H.fn 11 _ rfl) (H.nm 11 _ rfl) (by decide +kernel) (by decide +kernel) rfl (SimL.cons (fun _ => rfl) (SimE.var rfl) (SimL.cons (fun _ => rfl) (SimE.var rfl) (SimL.cons (fun _ => rfl) (SimE.var rfl) SimL.nil)))))
    (SimS.cons (SimX.setG rfl (.inl rfl) (by decide +kernel) (SimE.list (SimL.cons (fun _ => rfl) (SimE.listOf (by decide +kernel) rfl (fun _ => rfl) (SimE.var rfl)) (SimL.cons (fun _ => rfl) (SimE.listOf (by decide +kernel) rfl (fun _ => rfl) (SimE.var rfl)) SimL.nil))))
    (SimS.cons (SimX.setG rfl (.inl rfl) (by decide +kernel) (SimE.call (f := 3) (H.fn 3 _ rfl) (H.nm 3 _ rfl) (by decide +kernel) (by decide +kernel) rfl (SimL.cons (fun _ => rfl) (SimE.var rfl) (SimL.cons (fun _ => rfl) (SimE.idx (fun _ _ => rfl) (SimE.var rfl) SimE.int) (SimL.cons (fun _ => rfl) (SimE.idx (fun _ _ => rfl) (SimE.var rfl) SimE.int) SimL.nil)))))
    (SimS.cons (SimX.if (SimT.boolOp (SimA.or (SimT.not (SimT.val (SimE.isi .list (by decide +kernel) (by decide +kernel) rfl (fun _ => rfl) (SimE.var rfl)) (fun _ _ => rfl))) (SimA.or (SimT.cmp cmpNe rfl (SimE.var rfl) (SimE.var rfl)) (SimA.or (SimT.cmp cmpIn rfl SimE.bool (SimE.comp (CompOk.of (tab := tab_law_1) (locs := [10]) (by decide +kernel)) (SimI.seq (Bind.cone rfl (.inl rfl)) (SimE.var rfl)) SimIfs.nil (SimE.isi .bool (by decide +kernel) (by decide +kernel) rfl (fun _ => rfl) (SimE.var rfl)) (cb1_keeps 10) (fun _ _ => rfl))) SimA.orNil)))) (SimS.cons (SimX.ret SimE.bool)
    SimS.nil) SimS.nil)
    (SimS.cons (SimX.expr (fun _ => rfl) (SimE.m1 .list i_append append_ok (fun _ => rfl) rfl (fun _ => rfl) (SimE.var rfl) SimE.none))
    (SimS.cons (SimX.setG rfl (.inl rfl) (by decide +kernel) (SimE.call (f := 4) (H.fn 4 _ rfl) (H.nm 4 _ rfl) (by decide +kernel) (by decide +kernel) rfl (SimL.cons (fun _ => rfl) (SimE.var rfl) (SimL.cons (fun _ => rfl) (SimE.idx (fun _ _ => rfl) (SimE.var rfl) SimE.int) (SimL.cons (fun _ => rfl) (SimE.idx (fun _ _ => rfl) (SimE.var rfl) SimE.int) SimL.nil)))))
    (SimS.cons (SimX.if (SimT.boolOp (SimA.or (SimT.not (SimT.val (SimE.isi .bool (by decide +kernel) (by decide +kernel) rfl (fun _ => rfl) (SimE.var rfl)) (fun _ _ => rfl))) (SimA.or (SimT.cmp cmpNe rfl (SimE.var rfl) (SimE.idx (fun _ _ => rfl) (SimE.var rfl) SimE.int)) (SimA.or (SimT.cmp cmpNe rfl (SimE.var rfl) (SimE.list (SimL.cons (fun _ => rfl) (SimE.var rfl) (SimL.cons (fun _ => rfl) (SimE.var rfl) SimL.nil)))) SimA.orNil)))) (SimS.cons (SimX.ret SimE.bool)
    SimS.nil) SimS.nil)
    (SimS.cons (SimX.if (SimT.cmp cmpNe rfl (SimE.call (f := 3) (H.fn 3 _ rfl) (H.nm 3 _ rfl) (by decide +kernel) (by decide +kernel) rfl (SimL.cons (fun _ => rfl) (SimE.var rfl) (SimL.cons (fun _ => rfl) (SimE.var rfl) (SimL.cons (fun _ => rfl) (SimE.bin opAdd_ok (SimE.var rfl) (SimE.var rfl)) SimL.nil)))) (SimE.bin opAdd_ok (SimE.var rfl) (SimE.slc (SimE.var rfl) (SimO.some (SimE.len (by decide +kernel) rfl (fun _ => rfl) (SimE.var rfl))) SimO.none))) (SimS.cons (SimX.ret SimE.bool)
    SimS.nil) SimS.nil)
    (SimS.cons (SimX.if (SimT.cmp cmpNe rfl (SimE.call (f := 3) (H.fn 3 _ rfl) (H.nm 3 _ rfl) (by decide +kernel) (by decide +kernel) rfl (SimL.cons (fun _ => rfl) (SimE.var rfl) (SimL.cons (fun _ => rfl) (SimE.bin opAdd_ok (SimE.var rfl) (SimE.slc (SimE.var rfl) SimO.none (SimO.some SimE.int))) (SimL.cons (fun _ => rfl) (SimE.bin opAdd_ok (SimE.slc (SimE.var rfl) (SimO.some SimE.int) SimO.none) (SimE.slc (SimE.var rfl) SimO.none (SimO.some SimE.int))) SimL.nil)))) (SimE.bin opAdd_ok (SimE.var rfl) (SimE.slc (SimE.var rfl) (SimO.some (SimE.len (by decide +kernel) rfl (fun _ => rfl) (SimE.var rfl))) (SimO.some (SimE.bin opAdd_ok (SimE.len (by decide +kernel) rfl (fun _ => rfl) (SimE.var rfl)) SimE.int))))) (SimS.cons (SimX.ret SimE.bool)
    SimS.nil) SimS.nil)
    (SimS.cons (SimX.ret (SimE.boolOp (SimB.and (SimE.cmp cmpEq rfl (SimE.call (f := 3) (H.fn 3 _ rfl) (H.nm 3 _ rfl) (by decide +kernel) (by decide +kernel) rfl (SimL.cons (fun _ => rfl) (SimE.var rfl) (SimL.cons (fun _ => rfl) (SimE.var rfl) (SimL.cons (fun _ => rfl) (SimE.var rfl) SimL.nil)))) (SimE.var rfl)) (SimB.one (SimE.cmp cmpEq rfl (SimE.var rfl) (SimE.bin opAdd_ok (SimE.var rfl) (SimE.list (SimL.cons (fun _ => rfl) SimE.none SimL.nil))))))))
    SimS.nil)))))))))))))))
end
end Mine.L04
end
section
set_option autoImplicit false
namespace Mine.L04
noncomputable section
open PySem Mine.Ltl

noncomputable def atB (ps : List Bool) (i : Nat) : Bool := (ps[i]?).getD false
theorem atB_some {ps : List Bool} {i : Nat} (h : i < ps.length) : ps[i]? = some (atB ps i) := by simp [atB, List.getElem?_eq_getElem h]

/- till_over -/
noncomputable def memT (μ : Mem) (G : List Bool) : Mem := μ ++ [.list [.bool false], .list (G.map V.bool)]
theorem memT_get {μ : Mem} {G : List Bool} : (memT μ G)[μ.length + 1]? = some (.list (G.map V.bool)) := by simp [memT]
theorem memT_old {μ : Mem} {G : List Bool} {a : Nat} {o : O} (h : μ[a]? = some o) : (memT μ G)[a]? = some o := pre_get (List.prefix_append _ _) h
theorem memT_put {μ : Mem} {G : List Bool} {i : Nat} {v : Bool} (h : i < G.length) : putItem (memT μ G) (.ref (μ.length + 1)) (.int (i : Int)) (.bool v) = some (memT μ (G.set i v)) := by
  simp only [putItem, memT_get, List.length_map]
  rw [if_pos (by omega)]
  simp only [memT, Int.toNat_natCast]
  congr 1
  rw [List.set_append_right _ _ (by omega)]
  simp [List.map_set]

noncomputable def bodyT : DS := sSeq (sSet 6 (dIf (tCmp cEq (dV 5) (dBin opSub (dB1 bLen (dV 0)) (dC (.int 1)))) (dV 2) (dBin opAdd (dV 5) (dC (.int 1)))))
    (sSeq (sPut (dV 3) (dV 5) (dOr (dIdx (dV 1) (dV 5)) (dAnd (dIdx (dV 0) (dV 5)) (dIdx (dV 3) (dV 6))))) (sNil))
structure FrT (o q b r : Nat) (ρ : Fr) : Prop where
  h0 : ρ 0 = some (.ref o)
  h1 : ρ 1 = some (.ref q)
  h2 : ρ 2 = some (.int (b : Int))
  h3 : ρ 3 = some (.ref r)
theorem FrT.set {o q b r : Nat} {ρ : Fr} (h : FrT o q b r ρ) {i : Nat} {v : V} (hi : 3 < i) : FrT o q b r (ρ.set i v) := by
  refine ⟨?_, ?_, ?_, ?_⟩ <;> rw [set_apply, if_neg (by omega)]
  · exact h.h0
  · exact h.h1
  · exact h.h2
  · exact h.h3

theorem turnT {μ : Mem} {o q b : Nat} {ps qs G : List Bool} {c : Cx} {ρ : Fr} {i : Nat} {T : V → Mem → Prop} {Q : Fr → Mem → Prop} (ho : μ[o]? = some (.list (ps.map .bool))) (hq : μ[q]? = some (.list (qs.map .bool))) (hl : qs.length = ps.length) (hb : b < ps.length) (hlim : ps.length ≤ 1000) (hG : G.length = ps.length)
    (F : FrT o q b (μ.length + 1) ρ) (hi : i < ps.length) (h : ∀ ρ', FrT o q b (μ.length + 1) ρ' → Q ρ' (memT μ (G.set i (atB qs i || (atB ps i && atB G (nx ps.length b i)))))) : okS (bodyT c (ρ.set 5 (.int (i : Int))) (memT μ G)) Q T := by
  have F1 := F.set (i := 5) (v := .int (i : Int)) (by omega)
  have hlim' : lim = 1000000 := rfl
  have lo := memT_old (G := G) ho
  have lq := memT_old (G := G) hq
  have e5 : (ρ.set 5 (.int (i : Int))) 5 = some (.int (i : Int)) := by rw [set_apply, if_pos rfl]
  have n1 := nx_lt hb hi
  have fin : ∀ j : Nat, j = nx ps.length b i → okS (sSeq (sPut (dV 3) (dV 5) (dOr (dIdx (dV 1) (dV 5)) (dAnd (dIdx (dV 0) (dV 5)) (dIdx (dV 3) (dV 6))))) (sNil) c ((ρ.set 5 (.int (i : Int))).set 6 (.int (j : Int))) (memT μ G)) Q T := fun j hj => by
    subst hj
    have F2 := F1.set (i := 6) (v := .int (nx ps.length b i : Int)) (by omega)
    have i1 : item (memT μ G) (.ref q) (.int (i : Int)) = .ok (.bool (atB qs i)) (memT μ G) := item_list lq (by rw [List.getElem?_map, atB_some (by omega)]; rfl) (by simp; omega)
    have i2 : item (memT μ G) (.ref o) (.int (i : Int)) = .ok (.bool (atB ps i)) (memT μ G) := item_list lo (by rw [List.getElem?_map, atB_some hi]; rfl) (by simp; omega)
    have i3 : item (memT μ G) (.ref (μ.length + 1)) (.int (nx ps.length b i : Int)) = .ok (.bool (atB G (nx ps.length b i))) (memT μ G) := item_list memT_get (by rw [List.getElem?_map, atB_some (by omega)]; rfl) (by simp; omega)
    have e6 : ((ρ.set 5 (.int (i : Int))).set 6 (.int (nx ps.length b i : Int))) 5 = some (.int (i : Int)) := by rw [set_apply, if_neg (by omega)]; exact e5
    have e7 : ((ρ.set 5 (.int (i : Int))).set 6 (.int (nx ps.length b i : Int))) 6 = some (.int (nx ps.length b i : Int)) := by rw [set_apply, if_pos rfl]
    simp only [okS_seq, okS_put, ok_dOr, ok_dAnd, ok_dIdx, ok_dV, F2.h0, F2.h1, F2.h3, e6, e7, i1, i2, i3, ok_ok, truth, ok_opt_some]
    have fin2 : ∀ v, v = (atB qs i || (atB ps i && atB G (nx ps.length b i))) → match putItem (memT μ G) (.ref (μ.length + 1)) (.int (i : Int)) (.bool v) with | some μ' => okS (sNil c ((ρ.set 5 (.int (i : Int))).set 6 (.int (nx ps.length b i : Int))) μ') Q T | none => False := fun v hv => by
      subst hv
      rw [memT_put (by omega)]
      exact h _ F2
    cases hqi : atB qs i with
    | true => simp only [if_true]; exact fin2 true (by simp [hqi])
    | false =>
      simp only [Bool.false_eq_true, if_false]
      cases hpi : atB ps i with
      | true => simp only [if_true]; exact fin2 _ (by simp [hqi, hpi])
      | false => simp only [Bool.false_eq_true, if_false]; exact fin2 false (by simp [hqi, hpi])
  unfold bodyT
  simp only [okS_seq (a := sSet 6 _), okS_set, ok_dIf, ok_tCmp, ok_dBin, ok_dB1, ok_dV, ok_dC, F1.h0, F1.h2, e5, len_list lo, ok_ok, opSub, cEq_int, ok_opt_some, List.length_map]
  by_cases hlast : i + 1 = ps.length
  · have : ((i : Int) == (ps.length : Int) - 1) = true := by simp; omega
    rw [this]
    simp only [if_true]
    exact fin b (by unfold nx; rw [if_pos hlast])
  · have : ((i : Int) == (ps.length : Int) - 1) = false := by simp; omega
    rw [this]
    simp only [Bool.false_eq_true, if_false, opAdd, ok_ok]
    exact fin (i + 1) (by unfold nx; rw [if_neg hlast])

theorem passT {μ : Mem} {o q b e : Nat} {ps qs : List Bool} {c : Cx} {T : V → Mem → Prop} (old : Nat → Bool) (hold : old b = U ps.length b (atB ps) (atB qs) e b) (ho : μ[o]? = some (.list (ps.map .bool))) (hq : μ[q]? = some (.list (qs.map .bool))) (hl : qs.length = ps.length) (hb : b < ps.length) (hlim : ps.length ≤ 1000) :
    ∀ (m : Nat) (ρ : Fr) (G : List Bool), m ≤ ps.length → FrT o q b (μ.length + 1) ρ → G.length = ps.length → (∀ i, i < ps.length → atB G i = if i < m then old i else U ps.length b (atB ps) (atB qs) ((ps.length - i) + e) i) →
      okS (forS (fun _ => true) (bd1 5) bodyT c ((List.range m).reverse.map fun k => V.int (k : Nat)) ρ (memT μ G)) (fun ρ' ν => FrT o q b (μ.length + 1) ρ' ∧ ∃ G', ν = memT μ G' ∧ G'.length = ps.length ∧ ∀ i, i < ps.length → atB G' i = U ps.length b (atB ps) (atB qs) ((ps.length - i) + e) i) T
  | 0, ρ, G, _, F, hG, hv => by
    simp only [List.range_zero, List.reverse_nil, List.map_nil, forS, if_true]
    exact ⟨F, G, rfl, hG, fun i hi => by rw [hv i hi, if_neg (by omega)]⟩
  | m + 1, ρ, G, hm, F, hG, hv => by
    simp only [List.range_succ, List.reverse_append, List.reverse_cons, List.reverse_nil, List.nil_append, List.cons_append, List.map_cons, forS, if_true, bd1]
    have := turnT (c := c) (Q := fun ρ' ν => ν = memT μ (G.set m (atB qs m || (atB ps m && atB G (nx ps.length b m)))) ∧ FrT o q b (μ.length + 1) ρ') (T := T) ho hq hl hb hlim hG F (i := m) (by omega) fun ρ' F' => ⟨rfl, F'⟩
    cases hb' : bodyT c (ρ.set 5 (.int (m : Int))) (memT μ G) with
    | next ρ' ν =>
      rw [hb'] at this
      obtain ⟨rfl, F'⟩ := this
      simp only
      refine passT old hold ho hq hl hb hlim m ρ' _ (by omega) F' (by simp [hG]) fun i hi => ?_
      by_cases him : i = m
      · subst him
        rw [if_neg (by omega)]
        have e1 : atB (G.set i (atB qs i || (atB ps i && atB G (nx ps.length b i)))) i = (atB qs i || (atB ps i && atB G (nx ps.length b i))) := by
          simp [atB, List.getElem?_set, hG, hi]
        rw [e1]
        have e2 : ps.length - i + e = (ps.length - (i + 1) + e) + 1 := by omega
        rw [e2, U]
        congr 2
        rw [hv _ (nx_lt hb hi)]
        unfold nx
        by_cases hlast : i + 1 = ps.length
        · rw [if_pos hlast, if_pos (by omega), hold, show ps.length - (i + 1) + e = e by omega]
        · rw [if_neg hlast, if_neg (by omega)]
      · have e1 : atB (G.set m (atB qs m || (atB ps m && atB G (nx ps.length b m)))) i = atB G i := by
          simp only [atB]; rw [List.getElem?_set_ne (by omega)]
        rw [e1, hv i hi]
        by_cases h : i < m
        · rw [if_pos (by omega), if_pos h]
        · rw [if_neg (by omega), if_neg h]
    | ret v ν => rw [hb'] at this; exact this
    | exc x ρ' ν => rw [hb'] at this; exact this.elim
    | bad => rw [hb'] at this; exact this.elim

theorem list_of_atB {G : List Bool} {n : Nat} {f : Nat → Bool} (hn : G.length = n) (h : ∀ i, i < n → atB G i = f i) : G = (List.range n).map f := by
  apply List.ext_getElem
  · simp [hn]
  · intro i h1 h2
    have := h i (by omega)
    simp only [atB, List.getElem?_eq_getElem h1, Option.getD_some] at this
    simp [this]
theorem atB_map {f : Nat → Bool} {n i : Nat} (h : i < n) : atB ((List.range n).map f) i = f i := by
  simp [atB, List.getElem?_map, List.getElem?_range h]

theorem till_over_ok {fu n : Nat} {μ : Mem} {o q : Nat} {ps qs : List Bool} {b : Nat} (ho : μ[o]? = some (.list (ps.map .bool))) (hq : μ[q]? = some (.list (qs.map .bool))) (hl : qs.length = ps.length) (hb : b < ps.length) (hlim : ps.length ≤ 1000) :
    ok (callF Φ fu (n + 1) 1 [.ref o, .ref q, .int b] μ) fun v μ' => μ <+: μ' ∧ ∃ r, v = .ref r ∧ μ.length ≤ r ∧ μ'[r]? = some (.list (((List.range ps.length).map (fun i => U ps.length b (atB ps) (atB qs) ((ps.length - i) + (ps.length - b)) i)).map .bool)) := by
  have hlim' : lim = 1000000 := rfl
  refine ok_call rfl rfl ?_
  have l1 : (μ ++ [O.list [V.bool false]])[o]? = some (.list (ps.map .bool)) := pre_get (pre_new _ _) ho
  have m0 : opMul (.ref μ.length) (.int (ps.length : Int)) (μ ++ [O.list [V.bool false]]) = .ok (.ref (μ.length + 1)) (memT μ (List.replicate ps.length false)) := by
    simp only [opMul, new_get, small_nat (show ps.length ≤ lim by omega), Int.toNat_natCast, List.length_cons, List.length_nil, Bool.true_and]
    rw [if_pos (by simp; omega)]
    simp only [newL, List.length_flatten, List.map_replicate, List.length_cons, List.length_nil, List.sum_replicate_nat]
    rw [if_pos (by omega)]
    have : (List.replicate ps.length [V.bool false]).flatten = (List.replicate ps.length false).map V.bool := by
      rw [List.map_replicate]
      clear l1 ho hl hb hlim
      induction ps.length with
      | zero => rfl
      | succ k ih => rw [List.replicate_succ, List.flatten_cons, ih, List.replicate_succ]; rfl
    rw [this]
    simp [memT]
  simp only [d_till_over, okS_seq, okS_set, ok_dBin, ok_dLst, ok_dCons, ok_dC, ok_dNil, ok_newL, ok_dB1, ok_dV, List.getElem?_cons_zero, List.getElem?_cons_succ, okS_for, ok_iRange, len_list l1, List.length_map, ok_ok, m0]
  refine ⟨by decide, ?_⟩
  have F0 : FrT o q b (μ.length + 1) (Fr.set (fun i => [V.ref o, V.ref q, V.int (b : Int)][i]?) 3 (.ref (μ.length + 1))) := ⟨rfl, rfl, rfl, rfl⟩
  generalize Fr.set (fun i => [V.ref o, V.ref q, V.int (b : Int)][i]?) 3 (.ref (μ.length + 1)) = ρ at F0
  have r2 := range1 (μ := memT μ (List.replicate ps.length false)) (n := 2) (by omega)
  rw [show ((2 : Nat) : Int) = (2 : Int) from rfl] at r2
  rw [r2]
  simp only [ok_ok]
  have one : ∀ (ρ : Fr) (G : List Bool) (t : V) (e : Nat) (old : Nat → Bool), old b = U ps.length b (atB ps) (atB qs) e b → FrT o q b (μ.length + 1) ρ → G.length = ps.length → (∀ i, i < ps.length → atB G i = old i) → ∀ (Q : Fr → Mem → Prop) (T : V → Mem → Prop),
      (∀ ρ' G', FrT o q b (μ.length + 1) ρ' → G'.length = ps.length → (∀ i, i < ps.length → atB G' i = U ps.length b (atB ps) (atB qs) ((ps.length - i) + e) i) → Q ρ' (memT μ G')) →
      okS (sSeq (sFor (iRange (dCons (dBin opSub (dB1 bLen (dV 0)) (dC (.int 1))) (dCons (dUn opNeg (dC (.int 1))) (dCons (dUn opNeg (dC (.int 1))) dNil)))) (bd1 5) bodyT) sNil ⟨callF Φ fu n, fu⟩ (ρ.set 4 t) (memT μ G)) Q T := fun ρ G t e old hold F hG hv Q T k => by
    have F1 := F.set (i := 4) (v := t) (by omega)
    have l2 := memT_old (G := G) ho
    simp only [okS_seq, okS_for, ok_iRange, ok_dCons, ok_dBin, ok_dB1, ok_dV, F1.h0, len_list l2, ok_ok, ok_dC, opSub, ok_dUn, opNeg, ok_dNil, List.length_map]
    rw [range3 (by omega)]
    simp only [ok_ok]
    exact okS_mono (passT (c := ⟨callF Φ fu n, fu⟩) (T := T) old hold ho hq hl hb hlim ps.length (ρ.set 4 t) G (Nat.le_refl _) F1 hG fun i hi => by rw [if_pos hi]; exact hv i hi)
      (fun ρ' ν ⟨F', G', e1, e2, e3⟩ => by subst e1; exact k ρ' G' F' e2 e3) fun _ _ h => h
  have first := one ρ (List.replicate ps.length false) (.int 0) 0 (fun _ => false) rfl F0 (by simp) (fun i hi => by simp [atB, List.getElem?_replicate, hi])
  have rs : ((List.range' 0 2).map fun k => V.int (k : Nat)) = [V.int 0, V.int 1] := rfl
  rw [rs]
  have step : ∀ (b0 : DS) (v : V) (r : List V) (ρ : Fr) (ν : Mem) (Q : Fr → Mem → Prop) (T : V → Mem → Prop), okS (b0 ⟨callF Φ fu n, fu⟩ (ρ.set 4 v) ν) (fun ρ' ν' => okS (forS (fun _ => true) (bd1 4) b0 ⟨callF Φ fu n, fu⟩ r ρ' ν') Q T) T → okS (forS (fun _ => true) (bd1 4) b0 ⟨callF Φ fu n, fu⟩ (v :: r) ρ ν) Q T := fun b0 v r ρ ν Q T h => by
    simp only [forS, if_true, bd1]
    cases hb : b0 ⟨callF Φ fu n, fu⟩ (ρ.set 4 v) ν with
    | next ρ' ν' => rw [hb] at h; exact h
    | ret u ν' => rw [hb] at h; exact h
    | exc => rw [hb] at h; exact h.elim
    | bad => rw [hb] at h; exact h.elim
  refine step _ _ _ _ _ _ _ (first _ _ fun ρ₁ G₁ F₁ hG₁ hv₁ => step _ _ _ _ _ _ _ (one ρ₁ G₁ (.int 1) (ps.length - b) (fun i => U ps.length b (atB ps) (atB qs) (ps.length - i) i) rfl F₁ hG₁ (fun i hi => by rw [hv₁ i hi]; rfl) _ _ fun ρ₂ G₂ F₂ hG₂ hv₂ => ?_))
  simp only [forS, if_true, okS, okS_ret, ok_dV, F₂.h3]
  simp only [sRet, dV, F₂.h3, R.opt, R.thenS]
  refine ⟨List.prefix_append _ _, _, rfl, by omega, ?_⟩
  rw [← list_of_atB hG₂ hv₂]
  exact memT_get
end
end Mine.L04
end
section
set_option autoImplicit false
namespace Mine.L04
noncomputable section
open PySem Mine.Ltl

theorem e_mark_mark : PyData.eqv (.str (Str.ofString "mark")) (.str (Str.ofString "mark")) = true := by decide
theorem e_mark_yes : PyData.eqv (.str (Str.ofString "mark")) (.str (Str.ofString "yes")) = false := by decide
theorem e_mark_not : PyData.eqv (.str (Str.ofString "mark")) (.str (Str.ofString "not")) = false := by decide
theorem e_mark_and : PyData.eqv (.str (Str.ofString "mark")) (.str (Str.ofString "and")) = false := by decide
theorem e_mark_or : PyData.eqv (.str (Str.ofString "mark")) (.str (Str.ofString "or")) = false := by decide
theorem e_mark_next : PyData.eqv (.str (Str.ofString "mark")) (.str (Str.ofString "next")) = false := by decide
theorem e_mark_till : PyData.eqv (.str (Str.ofString "mark")) (.str (Str.ofString "till")) = false := by decide
theorem e_mark_always : PyData.eqv (.str (Str.ofString "mark")) (.str (Str.ofString "always")) = false := by decide
theorem e_mark_again : PyData.eqv (.str (Str.ofString "mark")) (.str (Str.ofString "again")) = false := by decide
theorem e_yes_mark : PyData.eqv (.str (Str.ofString "yes")) (.str (Str.ofString "mark")) = false := by decide
theorem e_yes_yes : PyData.eqv (.str (Str.ofString "yes")) (.str (Str.ofString "yes")) = true := by decide
theorem e_yes_not : PyData.eqv (.str (Str.ofString "yes")) (.str (Str.ofString "not")) = false := by decide
theorem e_yes_and : PyData.eqv (.str (Str.ofString "yes")) (.str (Str.ofString "and")) = false := by decide
theorem e_yes_or : PyData.eqv (.str (Str.ofString "yes")) (.str (Str.ofString "or")) = false := by decide
theorem e_yes_next : PyData.eqv (.str (Str.ofString "yes")) (.str (Str.ofString "next")) = false := by decide
theorem e_yes_till : PyData.eqv (.str (Str.ofString "yes")) (.str (Str.ofString "till")) = false := by decide
theorem e_yes_always : PyData.eqv (.str (Str.ofString "yes")) (.str (Str.ofString "always")) = false := by decide
theorem e_yes_again : PyData.eqv (.str (Str.ofString "yes")) (.str (Str.ofString "again")) = false := by decide
theorem e_not_mark : PyData.eqv (.str (Str.ofString "not")) (.str (Str.ofString "mark")) = false := by decide
theorem e_not_yes : PyData.eqv (.str (Str.ofString "not")) (.str (Str.ofString "yes")) = false := by decide
theorem e_not_not : PyData.eqv (.str (Str.ofString "not")) (.str (Str.ofString "not")) = true := by decide
theorem e_not_and : PyData.eqv (.str (Str.ofString "not")) (.str (Str.ofString "and")) = false := by decide
theorem e_not_or : PyData.eqv (.str (Str.ofString "not")) (.str (Str.ofString "or")) = false := by decide
theorem e_not_next : PyData.eqv (.str (Str.ofString "not")) (.str (Str.ofString "next")) = false := by decide
theorem e_not_till : PyData.eqv (.str (Str.ofString "not")) (.str (Str.ofString "till")) = false := by decide
theorem e_not_always : PyData.eqv (.str (Str.ofString "not")) (.str (Str.ofString "always")) = false := by decide
theorem e_not_again : PyData.eqv (.str (Str.ofString "not")) (.str (Str.ofString "again")) = false := by decide
theorem e_and_mark : PyData.eqv (.str (Str.ofString "and")) (.str (Str.ofString "mark")) = false := by decide
theorem e_and_yes : PyData.eqv (.str (Str.ofString "and")) (.str (Str.ofString "yes")) = false := by decide
theorem e_and_not : PyData.eqv (.str (Str.ofString "and")) (.str (Str.ofString "not")) = false := by decide
theorem e_and_and : PyData.eqv (.str (Str.ofString "and")) (.str (Str.ofString "and")) = true := by decide
theorem e_and_or : PyData.eqv (.str (Str.ofString "and")) (.str (Str.ofString "or")) = false := by decide
theorem e_and_next : PyData.eqv (.str (Str.ofString "and")) (.str (Str.ofString "next")) = false := by decide
theorem e_and_till : PyData.eqv (.str (Str.ofString "and")) (.str (Str.ofString "till")) = false := by decide
theorem e_and_always : PyData.eqv (.str (Str.ofString "and")) (.str (Str.ofString "always")) = false := by decide
theorem e_and_again : PyData.eqv (.str (Str.ofString "and")) (.str (Str.ofString "again")) = false := by decide
theorem e_or_mark : PyData.eqv (.str (Str.ofString "or")) (.str (Str.ofString "mark")) = false := by decide
theorem e_or_yes : PyData.eqv (.str (Str.ofString "or")) (.str (Str.ofString "yes")) = false := by decide
theorem e_or_not : PyData.eqv (.str (Str.ofString "or")) (.str (Str.ofString "not")) = false := by decide
theorem e_or_and : PyData.eqv (.str (Str.ofString "or")) (.str (Str.ofString "and")) = false := by decide
theorem e_or_or : PyData.eqv (.str (Str.ofString "or")) (.str (Str.ofString "or")) = true := by decide
theorem e_or_next : PyData.eqv (.str (Str.ofString "or")) (.str (Str.ofString "next")) = false := by decide
theorem e_or_till : PyData.eqv (.str (Str.ofString "or")) (.str (Str.ofString "till")) = false := by decide
theorem e_or_always : PyData.eqv (.str (Str.ofString "or")) (.str (Str.ofString "always")) = false := by decide
theorem e_or_again : PyData.eqv (.str (Str.ofString "or")) (.str (Str.ofString "again")) = false := by decide
theorem e_next_mark : PyData.eqv (.str (Str.ofString "next")) (.str (Str.ofString "mark")) = false := by decide
theorem e_next_yes : PyData.eqv (.str (Str.ofString "next")) (.str (Str.ofString "yes")) = false := by decide
theorem e_next_not : PyData.eqv (.str (Str.ofString "next")) (.str (Str.ofString "not")) = false := by decide
theorem e_next_and : PyData.eqv (.str (Str.ofString "next")) (.str (Str.ofString "and")) = false := by decide
theorem e_next_or : PyData.eqv (.str (Str.ofString "next")) (.str (Str.ofString "or")) = false := by decide
theorem e_next_next : PyData.eqv (.str (Str.ofString "next")) (.str (Str.ofString "next")) = true := by decide
theorem e_next_till : PyData.eqv (.str (Str.ofString "next")) (.str (Str.ofString "till")) = false := by decide
theorem e_next_always : PyData.eqv (.str (Str.ofString "next")) (.str (Str.ofString "always")) = false := by decide
theorem e_next_again : PyData.eqv (.str (Str.ofString "next")) (.str (Str.ofString "again")) = false := by decide
theorem e_till_mark : PyData.eqv (.str (Str.ofString "till")) (.str (Str.ofString "mark")) = false := by decide
theorem e_till_yes : PyData.eqv (.str (Str.ofString "till")) (.str (Str.ofString "yes")) = false := by decide
theorem e_till_not : PyData.eqv (.str (Str.ofString "till")) (.str (Str.ofString "not")) = false := by decide
theorem e_till_and : PyData.eqv (.str (Str.ofString "till")) (.str (Str.ofString "and")) = false := by decide
theorem e_till_or : PyData.eqv (.str (Str.ofString "till")) (.str (Str.ofString "or")) = false := by decide
theorem e_till_next : PyData.eqv (.str (Str.ofString "till")) (.str (Str.ofString "next")) = false := by decide
theorem e_till_till : PyData.eqv (.str (Str.ofString "till")) (.str (Str.ofString "till")) = true := by decide
theorem e_till_always : PyData.eqv (.str (Str.ofString "till")) (.str (Str.ofString "always")) = false := by decide
theorem e_till_again : PyData.eqv (.str (Str.ofString "till")) (.str (Str.ofString "again")) = false := by decide
theorem e_always_mark : PyData.eqv (.str (Str.ofString "always")) (.str (Str.ofString "mark")) = false := by decide
theorem e_always_yes : PyData.eqv (.str (Str.ofString "always")) (.str (Str.ofString "yes")) = false := by decide
theorem e_always_not : PyData.eqv (.str (Str.ofString "always")) (.str (Str.ofString "not")) = false := by decide
theorem e_always_and : PyData.eqv (.str (Str.ofString "always")) (.str (Str.ofString "and")) = false := by decide
theorem e_always_or : PyData.eqv (.str (Str.ofString "always")) (.str (Str.ofString "or")) = false := by decide
theorem e_always_next : PyData.eqv (.str (Str.ofString "always")) (.str (Str.ofString "next")) = false := by decide
theorem e_always_till : PyData.eqv (.str (Str.ofString "always")) (.str (Str.ofString "till")) = false := by decide
theorem e_always_always : PyData.eqv (.str (Str.ofString "always")) (.str (Str.ofString "always")) = true := by decide
theorem e_always_again : PyData.eqv (.str (Str.ofString "always")) (.str (Str.ofString "again")) = false := by decide
theorem e_again_mark : PyData.eqv (.str (Str.ofString "again")) (.str (Str.ofString "mark")) = false := by decide
theorem e_again_yes : PyData.eqv (.str (Str.ofString "again")) (.str (Str.ofString "yes")) = false := by decide
theorem e_again_not : PyData.eqv (.str (Str.ofString "again")) (.str (Str.ofString "not")) = false := by decide
theorem e_again_and : PyData.eqv (.str (Str.ofString "again")) (.str (Str.ofString "and")) = false := by decide
theorem e_again_or : PyData.eqv (.str (Str.ofString "again")) (.str (Str.ofString "or")) = false := by decide
theorem e_again_next : PyData.eqv (.str (Str.ofString "again")) (.str (Str.ofString "next")) = false := by decide
theorem e_again_till : PyData.eqv (.str (Str.ofString "again")) (.str (Str.ofString "till")) = false := by decide
theorem e_again_always : PyData.eqv (.str (Str.ofString "again")) (.str (Str.ofString "always")) = false := by decide
theorem e_again_again : PyData.eqv (.str (Str.ofString "again")) (.str (Str.ofString "again")) = true := by decide

noncomputable def toV : Sy → V
  | .mark x => .tup [.str (Str.ofString "mark"), .str x]
  | .yes => .tup [.str (Str.ofString "yes")]
  | .not a => .tup [.str (Str.ofString "not"), toV a]
  | .and a c => .tup [.str (Str.ofString "and"), toV a, toV c]
  | .or a c => .tup [.str (Str.ofString "or"), toV a, toV c]
  | .next a => .tup [.str (Str.ofString "next"), toV a]
  | .till a c => .tup [.str (Str.ofString "till"), toV a, toV c]
  | .always a => .tup [.str (Str.ofString "always"), toV a]
  | .again a => .tup [.str (Str.ofString "again"), toV a]
noncomputable def dep : Sy → Nat
  | .mark _ => 0
  | .yes => 0
  | .not a => dep a + 1
  | .and a c => max (dep a) (dep c) + 1
  | .or a c => max (dep a) (dep c) + 1
  | .next a => dep a + 1
  | .till a c => max (dep a) (dep c) + 1
  | .always a => dep a + 1
  | .again a => dep a + 1

/-- a new list of truth values -/
noncomputable def Out (μ : Mem) (bs : List Bool) (v : V) (μ' : Mem) : Prop := μ <+: μ' ∧ ∃ r, v = .ref r ∧ μ.length ≤ r ∧ μ'[r]? = some (.list (bs.map .bool))
theorem Out.new {μ μ₁ : Mem} {bs : List Bool} (h : μ <+: μ₁) (hl : bs.length ≤ lim) : ok (newL μ₁ (bs.map V.bool)) (Out μ bs) := by
  rw [ok_newL]
  exact ⟨by simpa using hl, h.trans (pre_new _ _), _, rfl, pre_len h, new_get _ _⟩
theorem Out.after {μ μ₁ : Mem} {bs : List Bool} {v : V} {μ' : Mem} (h : μ <+: μ₁) (o : Out μ₁ bs v μ') : Out μ bs v μ' := by
  obtain ⟨h1, r, h2, h3, h4⟩ := o
  have := pre_len h
  exact ⟨h.trans h1, r, h2, by omega, h4⟩

theorem item0 {μ : Mem} {x : V} {xs : List V} (h : (x :: xs).length ≤ lim) : item μ (.tup (x :: xs)) (.int 0) = .ok x μ := item_tup (i := 0) rfl h
theorem item1 {μ : Mem} {x y : V} {xs : List V} (h : (x :: y :: xs).length ≤ lim) : item μ (.tup (x :: y :: xs)) (.int 1) = .ok y μ := item_tup (i := 1) rfl h
theorem litem0 {μ : Mem} {a : Nat} {x : V} {xs : List V} (e : μ[a]? = some (.list (x :: xs))) (h : (x :: xs).length ≤ lim) : item μ (.ref a) (.int 0) = .ok x μ := item_list (i := 0) e rfl h
theorem litem1 {μ : Mem} {a : Nat} {x y : V} {xs : List V} (e : μ[a]? = some (.list (x :: y :: xs))) (h : (x :: y :: xs).length ≤ lim) : item μ (.ref a) (.int 1) = .ok y μ := item_list (i := 1) e rfl h
theorem lim2 {k : Nat} (h : k ≤ 1000) : k ≤ lim := by have : lim = 1000000 := rfl; omega

theorem parts_ok {fu n : Nat} {μ : Mem} {w : Str} {xs : List V} (hw : PyData.eqv (.str w) (.str (Str.ofString "mark")) = false) (hl : xs.length ≤ 1000) : ok (callF Φ fu (n + 1) 0 [.tup (.str w :: xs)] μ) fun v μ' => v = .ref μ.length ∧ μ' = μ ++ [.list xs] := by
  refine ok_call rfl rfl ?_
  have hlim' : lim = 1000000 := rfl
  have c1 : cut (some 1) none (V.str w :: xs) = xs := cut_from (k := 1) (xs := V.str w :: xs) (by simp)
  simp only [d_parts_of, okS_seq, okS_set, okS_if, okS_ret, ok_tCmp, ok_dCmp, ok_dV, ok_dC, ok_dIdx, ok_dCons, ok_dNil, ok_dCall, ok_dComp, ok_iSeq, ok_iRange, ok_dB1, ok_dB2, ok_dBin, ok_dLst, ok_dSlc, ok_oSome, ok_oNone, ok_dNot, cEq_str, ok_opt_some, ok_ok, List.getElem?_cons_zero, List.getElem?_cons_succ, item0 (show (V.str w :: xs).length ≤ lim by simp; omega), hw, Bool.false_eq_true, if_false, okS_nil, slc, c1, ok_newT, bList, ok_newL]
  refine ⟨by omega, by omega, trivial, trivial⟩

/- one statement after the other -/
section
variable {c : Cx} {ρ : Fr} {μ : Mem} {Q : Fr → Mem → Prop} {T : V → Mem → Prop}
theorem step_set {i : Nat} {d : DE} {rest : DS} (h : ok (d c ρ μ) fun v μ' => okS (rest c (ρ.set i v) μ') Q T) : okS (sSeq (sSet i d) rest c ρ μ) Q T := by rw [okS_seq, okS_set]; exact h
theorem step_ret {d : DE} {rest : DS} (h : ok (d c ρ μ) T) : okS (sSeq (sRet d) rest c ρ μ) Q T := by rw [okS_seq, okS_ret]; exact h
theorem word_no {i : Nat} {v w : Str} {a rest : DS} (hi : ρ i = some (.str v)) (hw : PyData.eqv (.str v) (.str w) = false) (h : okS (rest c ρ μ) Q T) : okS (sSeq (sIf (tCmp cEq (dV i) (dC (.str w))) a sNil) rest c ρ μ) Q T := by
  rw [okS_seq, okS_if, ok_tCmp]
  simp only [ok_dV, hi, ok_dC, cEq_str, ok_opt_some, hw, Bool.false_eq_true, if_false, okS_nil]
  exact h
theorem word_do {i : Nat} {v w : Str} {a rest : DS} (hi : ρ i = some (.str v)) (hw : PyData.eqv (.str v) (.str w) = true) (h : okS (a c ρ μ) (fun ρ μ => okS (rest c ρ μ) Q T) T) : okS (sSeq (sIf (tCmp cEq (dV i) (dC (.str w))) a sNil) rest c ρ μ) Q T := by
  rw [okS_seq, okS_if, ok_tCmp]
  simp only [ok_dV, hi, ok_dC, cEq_str, ok_opt_some, hw, if_true]
  exact h
theorem word_ret {i : Nat} {v w : Str} {d : DE} {rest : DS} (hi : ρ i = some (.str v)) (hw : PyData.eqv (.str v) (.str w) = true) (h : ok (d c ρ μ) T) : okS (sSeq (sIf (tCmp cEq (dV i) (dC (.str w))) (sSeq (sRet d) sNil) sNil) rest c ρ μ) Q T := word_do hi hw (step_ret h)
end

/-- a row turned round -/
noncomputable def notV : V → V
  | .bool b => .bool (!b)
  | v => v
theorem notV_map (bs : List Bool) : (bs.map V.bool).map notV = (bs.map (!·)).map V.bool := by
  simp [List.map_map, Function.comp_def, notV]
theorem ok_notComp {c : Cx} {ρ : Fr} {μ μ₀ : Mem} {i a : Nat} {bs : List Bool} (hi : ρ i = none) (hp : μ₀ <+: μ) (ha : μ[a]? = some (.list (bs.map V.bool))) (hl : bs.length ≤ 1000) :
    ok (compS (fun μ => decide (μ[a]? = some (.list (bs.map V.bool)))) (cb1 i) tTrue (dNot (dV i)) c ρ (bs.map V.bool) μ []) fun xs μ => ok (newL μ xs) (Out μ₀ (bs.map (!·))) := by
  refine ok_compS notV (fun ν => ν = μ) _ [] μ rfl (by simp; exact lim2 hl) (fun ν h => by subst h; simp [ha]) (fun v hv ν h => ?_) fun ν h => ?_
  · obtain ⟨b, _, rfl⟩ := List.mem_map.mp hv
    refine ⟨ρ.set i (.bool b), by simp only [cb1, hi], ?_⟩
    simp only [ok_dNot, ok_dV, set_apply, if_true, truth, ok_opt_some, notV, h]
    exact ⟨trivial, trivial⟩
  · subst h
    rw [List.nil_append, notV_map]
    exact Out.new hp (by simp; exact lim2 hl)

end
end Mine.L04
end
section
set_option autoImplicit false
set_option linter.unusedSimpArgs false
set_option linter.unusedVariables false
namespace Mine.L04
noncomputable section
open PySem Mine.Ltl

theorem it1 {μ : Mem} {x : V} : item μ (.tup [x]) (.int 0) = .ok x μ := item0 (by simp [lim])
theorem it2 {μ : Mem} {x y : V} : item μ (.tup [x, y]) (.int 0) = .ok x μ := item0 (by simp [lim])
theorem it3 {μ : Mem} {x y z : V} : item μ (.tup [x, y, z]) (.int 0) = .ok x μ := item0 (by simp [lim])
theorem it2b {μ : Mem} {x y : V} : item μ (.tup [x, y]) (.int 1) = .ok y μ := item1 (by simp [lim])
theorem cb1_none {ρ : Fr} {i : Nat} {v : V} (h : ρ i = none) : cb1 i v ρ = some (ρ.set i v) := by simp only [cb1, h]
noncomputable def cRows (i : Nat) (src : DI) (f : Nat) (p q : Nat) : DE := dComp [i] src (cb1 i) tTrue (dCall f (dCons (dV i) (dCons (dV p) (dCons (dV q) dNil))))

theorem rows1 {c : Cx} {ρ : Fr} {μ : Mem} {i f p q : Nat} {src : DI} {x y z : V} {bs : List Bool} (hi : ρ i = none) (hpi : p ≠ i) (hqi : q ≠ i) (hy : ρ p = some y) (hz : ρ q = some z)
    (hs : ok (src c ρ μ) fun t ν => t.items = [x] ∧ (∀ ν', ν <+: ν' → t.chk ν' = true) ∧ μ <+: ν) (ih : ∀ ν, μ <+: ν → ok (c.call f [x, y, z] ν) (Out ν bs)) :
    ok (cRows i src f p q c ρ μ) fun v μ' => μ <+: μ' ∧ ∃ R r1, v = .ref R ∧ μ.length ≤ R ∧ μ'[R]? = some (.list [.ref r1]) ∧ μ'[r1]? = some (.list (bs.map .bool)) := by
  unfold cRows
  rw [ok_dComp]
  refine ok_mono hs fun t ν ⟨h1, h2, h3⟩ => ⟨by simp [hi], ?_⟩
  rw [h1]
  refine ok_comp_cons (h2 _ (List.prefix_refl _)) (cb1_none hi) ?_
  simp only [ok_dCall, ok_dCons, ok_dV, ok_dNil, set_apply, if_true, if_neg hpi, if_neg hqi, hy, hz]
  refine ok_mono (ih ν h3) fun v ν' h => ?_
  obtain ⟨k1, r, rfl, k2, k3⟩ := h
  refine ⟨by decide, ok_comp_nil (h2 _ k1) ?_⟩
  rw [List.nil_append, ok_newL]
  refine ⟨by simp [lim], (h3.trans k1).trans (pre_new _ _), _, r, rfl, pre_len (h3.trans k1), new_get _ _, pre_get (pre_new _ _) k3⟩

theorem rows2 {c : Cx} {ρ : Fr} {μ : Mem} {i f p q : Nat} {src : DI} {x x' y z : V} {bs cs : List Bool} (hi : ρ i = none) (hpi : p ≠ i) (hqi : q ≠ i) (hy : ρ p = some y) (hz : ρ q = some z)
    (hs : ok (src c ρ μ) fun t ν => t.items = [x, x'] ∧ (∀ ν', ν <+: ν' → t.chk ν' = true) ∧ μ <+: ν) (ih : ∀ ν, μ <+: ν → ok (c.call f [x, y, z] ν) (Out ν bs)) (ih' : ∀ ν, μ <+: ν → ok (c.call f [x', y, z] ν) (Out ν cs)) :
    ok (cRows i src f p q c ρ μ) fun v μ' => μ <+: μ' ∧ ∃ R r1 r2, v = .ref R ∧ μ.length ≤ R ∧ μ'[R]? = some (.list [.ref r1, .ref r2]) ∧ μ'[r1]? = some (.list (bs.map .bool)) ∧ μ'[r2]? = some (.list (cs.map .bool)) := by
  unfold cRows
  rw [ok_dComp]
  refine ok_mono hs fun t ν ⟨h1, h2, h3⟩ => ⟨by simp [hi], ?_⟩
  rw [h1]
  refine ok_comp_cons (h2 _ (List.prefix_refl _)) (cb1_none hi) ?_
  simp only [ok_dCall, ok_dCons, ok_dV, ok_dNil, set_apply, if_true, if_neg hpi, if_neg hqi, hy, hz]
  refine ok_mono (ih ν h3) fun v ν' h => ?_
  obtain ⟨k1, r, rfl, k2, k3⟩ := h
  refine ⟨by decide, ok_comp_cons (h2 _ k1) (cb1_none hi) ?_⟩
  simp only [ok_dCall, ok_dCons, ok_dV, ok_dNil, set_apply, if_true, if_neg hpi, if_neg hqi, hy, hz]
  refine ok_mono (ih' ν' (h3.trans k1)) fun v ν'' h => ?_
  obtain ⟨l1, r', rfl, l2, l3⟩ := h
  refine ⟨by simp [lim], ok_comp_nil (h2 _ (k1.trans l1)) ?_⟩
  rw [List.nil_append, ok_newL]
  refine ⟨by simp [lim], ((h3.trans k1).trans l1).trans (pre_new _ _), _, r, r', rfl, pre_len ((h3.trans k1).trans l1), new_get _ _, pre_get (l1.trans (pre_new _ _)) k3, pre_get (pre_new _ _) l3⟩

theorem src_over {fu n : Nat} {ρ : Fr} {μ : Mem} {w : Str} {xs : List V} (h0 : ρ 0 = some (.tup (.str w :: xs))) (hw : PyData.eqv (.str w) (.str (Str.ofString "mark")) = false) (hl : xs.length ≤ 1000) :
    ok (iSeq (dCall 0 (dCons (dV 0) dNil)) ⟨callF Φ fu (n + 1), fu⟩ ρ μ) fun t ν => t.items = xs ∧ (∀ ν', ν <+: ν' → t.chk ν' = true) ∧ μ <+: ν := by
  simp only [ok_iSeq, ok_dCall, ok_dCons, ok_dV, ok_dNil, h0]
  refine ok_mono (parts_ok hw hl) fun v ν ⟨e1, e2⟩ => ?_
  subst e1 e2
  simp only [new_get]
  refine ⟨trivial, fun ν' h => ?_, pre_new _ _⟩
  have := pre_get h (new_get μ (.list xs))
  simp [this]

theorem row_len {ms : List Str} {b : Nat} {s : Sy} : (row ms b s).length = ms.length := by simp [row]
theorem atB_row {ms : List Str} {b : Nat} {s : Sy} {i : Nat} (h : i < ms.length) : atB (row ms b s) i = sem ms b s i := atB_map h
theorem U_congr {n b : Nat} {p p' q q' : Nat → Bool} (hb : b < n) (hp : ∀ i, i < n → p i = p' i) (hq : ∀ i, i < n → q i = q' i) : ∀ (k i : Nat), i < n → U n b p q k i = U n b p' q' k i
  | 0, _, _ => rfl
  | k + 1, i, hi => by rw [U, U, hp i hi, hq i hi, U_congr hb hp hq k _ (nx_lt hb hi)]
theorem row_eq {ms : List Str} {b : Nat} {s : Sy} {bs : List Bool} (hl : bs.length = ms.length) (h : ∀ i, i < ms.length → atB bs i = sem ms b s i) : bs = row ms b s := list_of_atB hl h

theorem over_ok {fu : Nat} : ∀ (s : Sy) (n : Nat) (μ : Mem) (m : Nat) (ms : List Str) (b : Nat), dep s < n → μ[m]? = some (.list (ms.map .str)) → b < ms.length → ms.length ≤ 1000 → ok (callF Φ fu (n + 1) 2 [toV s, .ref m, .int b] μ) (Out μ (row ms b s))
  | .mark x, n, μ, m, ms, b, hd, hm, hb, hl => by
    have hlim' : lim = 1000000 := rfl
    have lm : (List.map V.str ms).length = ms.length := by simp
    refine ok_call rfl rfl ?_
    dsimp only [d_over]
    refine step_set ?_
    simp only [ok_dIdx, ok_dV, ok_dC, List.getElem?_cons_zero, toV, it2, ok_ok]
    refine word_ret (by rfl) e_mark_mark ?_
    simp only [ok_dComp, ok_iSeq, ok_dV, set_apply, Nat.reduceEqDiff, reduceIte, List.getElem?_cons_zero, List.getElem?_cons_succ, hm]
    refine ⟨rfl, ok_compS (fun v => match v with | .str y => .bool (PyData.eqv (.str y) (.str x)) | v => v) (fun ν => ν = μ) _ [] μ rfl (by simp; omega) (fun ν h => by subst h; simp [hm]) (fun v hv ν h => ?_) fun ν h => ?_⟩
    · obtain ⟨y, _, rfl⟩ := List.mem_map.mp hv
      refine ⟨_, rfl, ?_⟩
      simp only [ok_dCmp, okS_seq, okS_set, okS_if, okS_ret, okS_nil, ok_tCmp, ok_dV, ok_dC, ok_dIdx, cEq_str, ok_opt_some, ok_ok, List.getElem?_cons_zero, List.getElem?_cons_succ, set_apply, if_true, if_false, Bool.false_eq_true, Nat.reduceEqDiff, reduceIte, it2b]
      exact ⟨trivial, h⟩
    · subst h
      have : [] ++ (ms.map V.str).map (fun v => match v with | .str y => V.bool (PyData.eqv (.str y) (.str x)) | v => v) = (row ms b (.mark x)).map V.bool := by
        rw [List.nil_append, List.map_map, row, List.map_map]
        apply List.ext_getElem
        · simp
        · intro i h1 h2
          simp at h1 h2
          simp [sem, List.getElem?_eq_getElem h1]
      rw [this]
      exact Out.new (List.prefix_refl _) (by rw [row_len]; omega)
  | .yes, n, μ, m, ms, b, hd, hm, hb, hl => by
    have hlim' : lim = 1000000 := rfl
    have lm : (List.map V.str ms).length = ms.length := by simp
    refine ok_call rfl rfl ?_
    dsimp only [d_over]
    refine step_set ?_
    simp only [ok_dIdx, ok_dV, ok_dC, List.getElem?_cons_zero, toV, it1, ok_ok]
    refine word_no (by rfl) e_yes_mark ?_
    refine word_ret (by rfl) e_yes_yes ?_
    simp only [ok_dComp, ok_iSeq, ok_dV, set_apply, Nat.reduceEqDiff, reduceIte, List.getElem?_cons_zero, List.getElem?_cons_succ, hm]
    refine ⟨rfl, ok_compS (fun _ => .bool true) (fun ν => ν = μ) _ [] μ rfl (by simp; omega) (fun ν h => by subst h; simp [hm]) (fun v hv ν h => ?_) fun ν h => ?_⟩
    · obtain ⟨y, _, rfl⟩ := List.mem_map.mp hv
      exact ⟨_, rfl, rfl, h⟩
    · subst h
      have : [] ++ (ms.map V.str).map (fun _ => V.bool true) = (row ms b .yes).map V.bool := by
        rw [List.nil_append, List.map_map, row, List.map_map]
        apply List.ext_getElem
        · simp
        · intro i h1 h2
          simp [sem]
      rw [this]
      exact Out.new (List.prefix_refl _) (by rw [row_len]; omega)
  | .not a, n, μ, m, ms, b, hd, hm, hb, hl => by
    have hlim' : lim = 1000000 := rfl
    simp only [dep] at hd
    obtain ⟨n, rfl⟩ : ∃ k, n = k + 1 := ⟨n - 1, by omega⟩
    refine ok_call rfl rfl ?_
    dsimp only [d_over]
    refine step_set ?_
    simp only [ok_dIdx, ok_dV, ok_dC, List.getElem?_cons_zero, toV, it2, ok_ok]
    refine word_no (by rfl) e_not_mark ?_
    refine word_no (by rfl) e_not_yes ?_
    refine step_set ?_
    refine ok_mono (rows1 (i := 8) (f := 2) (p := 1) (q := 2) (x := toV a) (y := .ref m) (z := .int b) (bs := row ms b a) rfl (by decide) (by decide) rfl rfl (src_over (w := Str.ofString "not") (xs := [toV a]) rfl e_not_mark (show _ ≤ 1000 from (by simp))) fun ν hν => over_ok a n ν m ms b (by omega) (pre_get hν hm) hb hl) fun v μ₁ ⟨p₁, R, r1, e, hR, g1, g2⟩ => ?_
    subst e
    refine word_ret (by rfl) e_not_not ?_
    have hm₁ := pre_get p₁ hm
    have l0 := litem0 g1 (by simp [lim])
    have len1 : (row ms b a).length = ms.length := row_len
    simp only [Nat.reduceEqDiff, reduceIte, List.getElem?_cons_zero, List.getElem?_cons_succ, ok_dComp, ok_iSeq, ok_dIdx, ok_dV, ok_dC, set_apply, if_true, l0, ok_ok, g2]
    refine ⟨rfl, ok_mono (ok_notComp (μ₀ := μ) rfl p₁ g2 (by omega)) fun xs ν h => ok_mono h fun v ν h => ?_⟩
    have : (row ms b a).map (!·) = row ms b (.not a) := row_eq (by simp [len1]) fun i hi => by simp only [sem, row, List.map_map]; exact atB_map hi
    rw [this] at h; exact h
  | .and a c, n, μ, m, ms, b, hd, hm, hb, hl => by
    have hlim' : lim = 1000000 := rfl
    simp only [dep] at hd
    obtain ⟨n, rfl⟩ : ∃ k, n = k + 1 := ⟨n - 1, by omega⟩
    refine ok_call rfl rfl ?_
    dsimp only [d_over]
    refine step_set ?_
    simp only [ok_dIdx, ok_dV, ok_dC, List.getElem?_cons_zero, toV, it3, ok_ok]
    refine word_no (by rfl) e_and_mark ?_
    refine word_no (by rfl) e_and_yes ?_
    refine step_set ?_
    refine ok_mono (rows2 (i := 8) (f := 2) (p := 1) (q := 2) (x := toV a) (x' := toV c) (y := .ref m) (z := .int b) (bs := row ms b a) (cs := row ms b c) rfl (by decide) (by decide) rfl rfl (src_over (w := Str.ofString "and") (xs := [toV a, toV c]) rfl e_and_mark (show _ ≤ 1000 from (by simp))) (fun ν hν => over_ok a n ν m ms b (by omega) (pre_get hν hm) hb hl) fun ν hν => over_ok c n ν m ms b (by omega) (pre_get hν hm) hb hl) fun v μ₁ ⟨p₁, R, r1, r2, e, hR, g1, g2, g3⟩ => ?_
    subst e
    refine word_no (by rfl) e_and_not ?_
    refine word_ret (by rfl) e_and_and ?_
    have hm₁ := pre_get p₁ hm
    have l0 := litem0 g1 (by simp [lim])
    have l1 := litem1 g1 (by simp [lim])
    have len1 : (row ms b a).length = ms.length := row_len
    have len2 : (row ms b c).length = ms.length := row_len
    simp only [Nat.reduceEqDiff, reduceIte, List.getElem?_cons_zero, List.getElem?_cons_succ, ok_dB2, ok_dIdx, ok_dV, ok_dC, set_apply, if_true, l0, l1, ok_ok, zip_list g2 g3]
    have : List.zipWith (fun x1 x2 => x1 && x2) (row ms b a) (row ms b c) = row ms b (.and a c) := row_eq (by simp [len1, len2]) fun i hi => by
      simp only [sem]
      rw [← atB_row (s := a) hi, ← atB_row (s := c) hi]
      simp [atB, List.getElem?_zipWith, List.getElem?_eq_getElem (show i < (row ms b a).length by omega), List.getElem?_eq_getElem (show i < (row ms b c).length by omega)]
    rw [this]
    exact Out.new p₁ (by rw [row_len]; omega)
  | .or a c, n, μ, m, ms, b, hd, hm, hb, hl => by
    have hlim' : lim = 1000000 := rfl
    simp only [dep] at hd
    obtain ⟨n, rfl⟩ : ∃ k, n = k + 1 := ⟨n - 1, by omega⟩
    refine ok_call rfl rfl ?_
    dsimp only [d_over]
    refine step_set ?_
    simp only [ok_dIdx, ok_dV, ok_dC, List.getElem?_cons_zero, toV, it3, ok_ok]
    refine word_no (by rfl) e_or_mark ?_
    refine word_no (by rfl) e_or_yes ?_
    refine step_set ?_
    refine ok_mono (rows2 (i := 8) (f := 2) (p := 1) (q := 2) (x := toV a) (x' := toV c) (y := .ref m) (z := .int b) (bs := row ms b a) (cs := row ms b c) rfl (by decide) (by decide) rfl rfl (src_over (w := Str.ofString "or") (xs := [toV a, toV c]) rfl e_or_mark (show _ ≤ 1000 from (by simp))) (fun ν hν => over_ok a n ν m ms b (by omega) (pre_get hν hm) hb hl) fun ν hν => over_ok c n ν m ms b (by omega) (pre_get hν hm) hb hl) fun v μ₁ ⟨p₁, R, r1, r2, e, hR, g1, g2, g3⟩ => ?_
    subst e
    refine word_no (by rfl) e_or_not ?_
    refine word_no (by rfl) e_or_and ?_
    refine word_ret (by rfl) e_or_or ?_
    have hm₁ := pre_get p₁ hm
    have l0 := litem0 g1 (by simp [lim])
    have l1 := litem1 g1 (by simp [lim])
    have len1 : (row ms b a).length = ms.length := row_len
    have len2 : (row ms b c).length = ms.length := row_len
    simp only [Nat.reduceEqDiff, reduceIte, List.getElem?_cons_zero, List.getElem?_cons_succ, ok_dB2, ok_dIdx, ok_dV, ok_dC, set_apply, if_true, l0, l1, ok_ok, zip_list g2 g3]
    have : List.zipWith (fun x1 x2 => x1 || x2) (row ms b a) (row ms b c) = row ms b (.or a c) := row_eq (by simp [len1, len2]) fun i hi => by
      simp only [sem]
      rw [← atB_row (s := a) hi, ← atB_row (s := c) hi]
      simp [atB, List.getElem?_zipWith, List.getElem?_eq_getElem (show i < (row ms b a).length by omega), List.getElem?_eq_getElem (show i < (row ms b c).length by omega)]
    rw [this]
    exact Out.new p₁ (by rw [row_len]; omega)
  | .next a, n, μ, m, ms, b, hd, hm, hb, hl => by
    have hlim' : lim = 1000000 := rfl
    simp only [dep] at hd
    obtain ⟨n, rfl⟩ : ∃ k, n = k + 1 := ⟨n - 1, by omega⟩
    refine ok_call rfl rfl ?_
    dsimp only [d_over]
    refine step_set ?_
    simp only [ok_dIdx, ok_dV, ok_dC, List.getElem?_cons_zero, toV, it2, ok_ok]
    refine word_no (by rfl) e_next_mark ?_
    refine word_no (by rfl) e_next_yes ?_
    refine step_set ?_
    refine ok_mono (rows1 (i := 8) (f := 2) (p := 1) (q := 2) (x := toV a) (y := .ref m) (z := .int b) (bs := row ms b a) rfl (by decide) (by decide) rfl rfl (src_over (w := Str.ofString "next") (xs := [toV a]) rfl e_next_mark (show _ ≤ 1000 from (by simp))) fun ν hν => over_ok a n ν m ms b (by omega) (pre_get hν hm) hb hl) fun v μ₁ ⟨p₁, R, r1, e, hR, g1, g2⟩ => ?_
    subst e
    refine word_no (by rfl) e_next_not ?_
    refine word_no (by rfl) e_next_and ?_
    refine word_no (by rfl) e_next_or ?_
    refine word_ret (by rfl) e_next_next ?_
    have hm₁ := pre_get p₁ hm
    have l0 := litem0 g1 (by simp [lim])
    have len1 : (row ms b a).length = ms.length := row_len
    have i2 : item (μ₁ ++ [O.list (((row ms b a).map V.bool).drop 1)]) (.ref r1) (.int (b : Int)) = .ok (.bool (sem ms b a b)) (μ₁ ++ [O.list (((row ms b a).map V.bool).drop 1)]) := item_list (pre_get (pre_new _ _) g2) (by rw [List.getElem?_map, atB_some (by omega), atB_row hb]; rfl) (by simp; omega)
    have c1 : cut (some 1) none ((row ms b a).map V.bool) = ((row ms b a).map V.bool).drop 1 := cut_from (k := 1) (by simp; omega)
    have l0' := litem0 (pre_get (pre_new μ₁ (O.list (((row ms b a).map V.bool).drop 1))) g1) (by simp [lim])
    simp only [ok_dBin, ok_dSlc, ok_oSome, ok_oNone, ok_dLst, ok_dCons, ok_dNil, ok_dIdx, ok_dV, ok_dC, set_apply, if_true, l0, ok_ok, slc_list g2, c1, ok_newL, l0', List.getElem?_cons_zero, List.getElem?_cons_succ, Nat.reduceEqDiff, reduceIte, i2]
    refine ⟨by simp; omega, by simp [lim], ?_⟩
    have q1 : ((μ₁ ++ [O.list (((row ms b a).map V.bool).drop 1)]) ++ [O.list [V.bool (sem ms b a b)]])[μ₁.length]? = some (.list (((row ms b a).map V.bool).drop 1)) := pre_get (pre_new _ _) (new_get _ _)
    rw [add_list q1 (new_get _ _)]
    have : ((row ms b a).map V.bool).drop 1 ++ [V.bool (sem ms b a b)] = (row ms b (.next a)).map V.bool := by
      rw [← List.map_drop, ← List.map_singleton (f := V.bool), ← List.map_append]
      congr 1
      refine row_eq (by simp [len1]; omega) fun i hi => ?_
      simp only [sem, nx]
      by_cases h : i + 1 = ms.length
      · rw [if_pos h]
        simp only [atB]
        rw [List.getElem?_append_right (by simp [len1]; omega)]
        simp [len1, show i - (ms.length - 1) = 0 by omega]
      · rw [if_neg h, ← atB_row (s := a) (show i + 1 < ms.length by omega)]
        simp only [atB]
        rw [List.getElem?_append_left (by simp [len1]; omega), List.getElem?_drop, Nat.add_comm 1 i]
    rw [this]
    exact Out.new ((p₁.trans (pre_new _ _)).trans (pre_new _ _)) (by rw [row_len]; omega)
  | .till a c, n, μ, m, ms, b, hd, hm, hb, hl => by
    have hlim' : lim = 1000000 := rfl
    simp only [dep] at hd
    obtain ⟨n, rfl⟩ : ∃ k, n = k + 1 := ⟨n - 1, by omega⟩
    refine ok_call rfl rfl ?_
    dsimp only [d_over]
    refine step_set ?_
    simp only [ok_dIdx, ok_dV, ok_dC, List.getElem?_cons_zero, toV, it3, ok_ok]
    refine word_no (by rfl) e_till_mark ?_
    refine word_no (by rfl) e_till_yes ?_
    refine step_set ?_
    refine ok_mono (rows2 (i := 8) (f := 2) (p := 1) (q := 2) (x := toV a) (x' := toV c) (y := .ref m) (z := .int b) (bs := row ms b a) (cs := row ms b c) rfl (by decide) (by decide) rfl rfl (src_over (w := Str.ofString "till") (xs := [toV a, toV c]) rfl e_till_mark (show _ ≤ 1000 from (by simp))) (fun ν hν => over_ok a n ν m ms b (by omega) (pre_get hν hm) hb hl) fun ν hν => over_ok c n ν m ms b (by omega) (pre_get hν hm) hb hl) fun v μ₁ ⟨p₁, R, r1, r2, e, hR, g1, g2, g3⟩ => ?_
    subst e
    refine word_no (by rfl) e_till_not ?_
    refine word_no (by rfl) e_till_and ?_
    refine word_no (by rfl) e_till_or ?_
    refine word_no (by rfl) e_till_next ?_
    refine word_ret (by rfl) e_till_till ?_
    have hm₁ := pre_get p₁ hm
    have l0 := litem0 g1 (by simp [lim])
    have l1 := litem1 g1 (by simp [lim])
    have len1 : (row ms b a).length = ms.length := row_len
    have len2 : (row ms b c).length = ms.length := row_len
    simp only [ok_dCall, ok_dCons, ok_dNil, ok_dIdx, ok_dV, ok_dC, set_apply, if_true, l0, l1, ok_ok, List.getElem?_cons_zero, List.getElem?_cons_succ, Nat.reduceEqDiff, reduceIte]
    refine ok_mono (till_over_ok (n := n) (fu := fu) (b := b) g2 g3 (by omega) (by omega) (by omega)) fun v ν h => Out.after p₁ ?_
    have : (List.range (row ms b a).length).map (fun i => U (row ms b a).length b (atB (row ms b a)) (atB (row ms b c)) ((row ms b a).length - i + ((row ms b a).length - b)) i) = row ms b (.till a c) := by
      rw [len1]
      refine row_eq (by simp) fun i hi => ?_
      rw [atB_map hi]
      simp only [sem]
      exact U_congr hb (fun j hj => atB_row hj) (fun j hj => atB_row hj) _ i hi
    rw [this] at h; exact h
  | .always a, n, μ, m, ms, b, hd, hm, hb, hl => by
    have hlim' : lim = 1000000 := rfl
    simp only [dep] at hd
    obtain ⟨n, rfl⟩ : ∃ k, n = k + 1 := ⟨n - 1, by omega⟩
    refine ok_call rfl rfl ?_
    dsimp only [d_over]
    refine step_set ?_
    simp only [ok_dIdx, ok_dV, ok_dC, List.getElem?_cons_zero, toV, it2, ok_ok]
    refine word_no (by rfl) e_always_mark ?_
    refine word_no (by rfl) e_always_yes ?_
    refine step_set ?_
    refine ok_mono (rows1 (i := 8) (f := 2) (p := 1) (q := 2) (x := toV a) (y := .ref m) (z := .int b) (bs := row ms b a) rfl (by decide) (by decide) rfl rfl (src_over (w := Str.ofString "always") (xs := [toV a]) rfl e_always_mark (show _ ≤ 1000 from (by simp))) fun ν hν => over_ok a n ν m ms b (by omega) (pre_get hν hm) hb hl) fun v μ₁ ⟨p₁, R, r1, e, hR, g1, g2⟩ => ?_
    subst e
    refine word_no (by rfl) e_always_not ?_
    refine word_no (by rfl) e_always_and ?_
    refine word_no (by rfl) e_always_or ?_
    refine word_no (by rfl) e_always_next ?_
    refine word_no (by rfl) e_always_till ?_
    refine word_do (by rfl) e_always_always ?_
    refine step_set ?_
    have hm₁ := pre_get p₁ hm
    have l0 := litem0 g1 (by simp [lim])
    have len1 : (row ms b a).length = ms.length := row_len
    have lm : (List.map V.str ms).length = ms.length := by simp
    have q0 : (μ₁ ++ [O.list [V.bool true]])[m]? = some (.list (ms.map V.str)) := pre_get (pre_new _ _) hm₁
    have q1 := mul_one (μ := μ₁ ++ [O.list [V.bool true]]) (n := ms.length) (new_get _ _) (by omega)
    simp only [ok_dCall, ok_dCons, ok_dNil, ok_dBin, ok_dLst, ok_newL, ok_dB1, ok_dV, ok_dC, set_apply, Nat.reduceEqDiff, reduceIte, List.getElem?_cons_zero, List.getElem?_cons_succ, len_list q0, ok_ok, lm, q1]
    refine ⟨by simp [lim], by simp; omega, ?_⟩
    have pν : μ₁ <+: μ₁ ++ [O.list [V.bool true]] ++ [O.list (List.replicate ms.length (V.bool true))] := (pre_new _ _).trans (pre_new _ _)
    have tr : (μ₁ ++ [O.list [V.bool true]] ++ [O.list (List.replicate ms.length (V.bool true))])[(μ₁ ++ [O.list [V.bool true]]).length]? = some (.list ((List.replicate ms.length true).map V.bool)) := by rw [new_get, List.map_replicate]
    generalize μ₁ ++ [O.list [V.bool true]] ++ [O.list (List.replicate ms.length (V.bool true))] = ν at pν tr ⊢
    generalize (μ₁ ++ [O.list [V.bool true]]).length = t at tr ⊢
    have g2ν := pre_get pν g2
    rw [ok_dComp]
    simp only [List.getElem?_cons_zero, List.getElem?_cons_succ, ok_dComp, ok_iSeq, ok_dIdx, ok_dV, ok_dC, set_apply, if_true, Nat.reduceEqDiff, reduceIte, litem0 (pre_get pν g1) (by simp [lim]), ok_ok, g2ν]
    refine ⟨rfl, ok_mono (ok_notComp (μ₀ := ν) rfl (List.prefix_refl _) g2ν (by omega)) fun xs ν₂ h => ok_mono h fun v ν₂ h => ?_⟩
    obtain ⟨p2, r2, rfl, _, h2⟩ := h
    refine ok_mono (till_over_ok (n := n) (fu := fu) (b := b) (ps := List.replicate ms.length true) (pre_get p2 tr) h2 (by simp [len1]) (by simpa using hb) (by simpa using hl)) fun v ν₃ h => ?_
    obtain ⟨p3, r3, rfl, _, h3⟩ := h
    refine step_ret ?_
    rw [ok_dComp]
    simp only [Nat.reduceEqDiff, reduceIte, List.getElem?_cons_zero, List.getElem?_cons_succ, ok_dComp, ok_iSeq, ok_dV, set_apply, if_true, h3]
    refine ⟨rfl, ok_mono (ok_notComp (μ₀ := μ) rfl (((p₁.trans pν).trans p2).trans p3) h3 (by simpa using hl)) fun xs ν h => ok_mono h fun v ν h => ?_⟩
    have : ((List.range (List.replicate ms.length true).length).map (fun i => U (List.replicate ms.length true).length b (atB (List.replicate ms.length true)) (atB ((row ms b a).map (!·))) ((List.replicate ms.length true).length - i + ((List.replicate ms.length true).length - b)) i)).map (!·) = row ms b (.always a) := by
      simp only [List.length_replicate]
      refine row_eq (by simp) fun i hi => ?_
      rw [List.map_map, atB_map hi]
      simp only [sem, Function.comp]
      congr 1
      refine U_congr hb (fun j hj => by simp [atB, List.getElem?_replicate, hj]) (fun j hj => ?_) _ i hi
      rw [← atB_row (s := a) hj]
      simp [atB, List.getElem?_map, List.getElem?_eq_getElem (show j < (row ms b a).length by omega)]
    rw [this] at h; exact h
  | .again a, n, μ, m, ms, b, hd, hm, hb, hl => by
    have hlim' : lim = 1000000 := rfl
    simp only [dep] at hd
    obtain ⟨n, rfl⟩ : ∃ k, n = k + 1 := ⟨n - 1, by omega⟩
    refine ok_call rfl rfl ?_
    dsimp only [d_over]
    refine step_set ?_
    simp only [ok_dIdx, ok_dV, ok_dC, List.getElem?_cons_zero, toV, it2, ok_ok]
    refine word_no (by rfl) e_again_mark ?_
    refine word_no (by rfl) e_again_yes ?_
    refine step_set ?_
    refine ok_mono (rows1 (i := 8) (f := 2) (p := 1) (q := 2) (x := toV a) (y := .ref m) (z := .int b) (bs := row ms b a) rfl (by decide) (by decide) rfl rfl (src_over (w := Str.ofString "again") (xs := [toV a]) rfl e_again_mark (show _ ≤ 1000 from (by simp))) fun ν hν => over_ok a n ν m ms b (by omega) (pre_get hν hm) hb hl) fun v μ₁ ⟨p₁, R, r1, e, hR, g1, g2⟩ => ?_
    subst e
    refine word_no (by rfl) e_again_not ?_
    refine word_no (by rfl) e_again_and ?_
    refine word_no (by rfl) e_again_or ?_
    refine word_no (by rfl) e_again_next ?_
    refine word_no (by rfl) e_again_till ?_
    refine word_no (by rfl) e_again_always ?_
    refine step_ret ?_
    have hm₁ := pre_get p₁ hm
    have l0 := litem0 g1 (by simp [lim])
    have len1 : (row ms b a).length = ms.length := row_len
    have lm : (List.map V.str ms).length = ms.length := by simp
    have c1 : cut (some (b : Int)) none ((row ms b a).map V.bool) = ((row ms b a).map V.bool).drop b := cut_from (by simp; omega)
    have q1 : (μ₁ ++ [O.list (((row ms b a).map V.bool).drop b)])[μ₁.length]? = some (.list (((row ms b a).drop b).map V.bool)) := by rw [new_get, List.map_drop]
    have q2 : (μ₁ ++ [O.list (((row ms b a).map V.bool).drop b)])[m]? = some (.list (ms.map V.str)) := pre_get (pre_new _ _) hm₁
    simp only [ok_dBin, ok_dSlc, ok_oSome, ok_oNone, ok_dLst, ok_dCons, ok_dNil, ok_dIdx, ok_dV, ok_dC, ok_dB1, set_apply, if_true, l0, ok_ok, slc_list g2, c1, ok_newL, List.getElem?_cons_zero, List.getElem?_cons_succ, Nat.reduceEqDiff, reduceIte, any_list q1]
    refine ⟨by simp; omega, by simp [lim], ?_⟩
    rw [len_list (pre_get (pre_new _ _) q2)]
    simp only [ok_ok, lm]
    rw [mul_one (n := ms.length) (new_get _ _) (by omega)]
    have : List.replicate ms.length (V.bool (((row ms b a).drop b).any id)) = (row ms b (.again a)).map V.bool := by
      rw [← List.map_replicate]
      congr 1
      refine row_eq (by simp) fun i hi => ?_
      simp only [atB, List.getElem?_replicate, hi, if_true, Option.getD_some, sem, row]
      rw [← List.map_drop, List.any_map]; rfl
    rw [this]
    exact Out.new ((p₁.trans (pre_new _ _)).trans (pre_new _ _)) (by rw [row_len]; omega)
end
end Mine.L04
end
section
set_option autoImplicit false
set_option linter.unusedSimpArgs false
set_option linter.unusedVariables false
namespace Mine.L04
noncomputable section
open PySem Mine.Ltl

theorem row_of_ok {fu n : Nat} {μ : Mem} {w r : Nat} {ws rs : List Str} {s : Sy} (hd : dep s < n) (hw : μ[w]? = some (.list (ws.map .str))) (hr : μ[r]? = some (.list (rs.map .str))) (h0 : 0 < rs.length) (hl : ws.length + rs.length ≤ 1000) :
    ok (callF Φ fu (n + 2) 3 [toV s, .ref w, .ref r] μ) (Out μ (row (ws ++ rs) ws.length s)) := by
  have hlim' : lim = 1000000 := rfl
  refine ok_call rfl rfl ?_
  have lw : (List.map V.str ws).length = ws.length := by simp
  simp only [d_row_of, okS_seq, okS_ret, ok_dCall, ok_dCons, ok_dNil, ok_dBin, ok_dB1, ok_dV, List.getElem?_cons_zero, List.getElem?_cons_succ, add_list hw hr, ok_newL, len_list (pre_get (pre_new _ _) hw), ok_ok, lw]
  refine ⟨by simp; omega, ok_mono (over_ok s n _ _ (ws ++ rs) ws.length hd ?_ (by simp; omega) (by simpa using hl)) fun v ν h => h.after (pre_new _ _)⟩
  rw [new_get, List.map_append]
theorem holds_ok {fu n : Nat} {μ : Mem} {w r : Nat} {ws rs : List Str} {s : Sy} (hd : dep s < n) (hw : μ[w]? = some (.list (ws.map .str))) (hr : μ[r]? = some (.list (rs.map .str))) (h0 : 0 < rs.length) (hl : ws.length + rs.length ≤ 1000) :
    ok (callF Φ fu (n + 3) 4 [toV s, .ref w, .ref r] μ) fun v μ' => v = .bool (sem (ws ++ rs) ws.length s 0) ∧ μ <+: μ' := by
  have hlim' : lim = 1000000 := rfl
  refine ok_call rfl rfl ?_
  simp only [d_holds, okS_seq, okS_ret, ok_dIdx, ok_dCall, ok_dCons, ok_dNil, ok_dV, ok_dC, List.getElem?_cons_zero, List.getElem?_cons_succ]
  refine ok_mono (row_of_ok hd hw hr h0 hl) fun v ν h => ?_
  obtain ⟨p, k, rfl, _, e⟩ := h
  have : item ν (.ref k) (.int 0) = .ok (.bool (sem (ws ++ rs) ws.length s 0)) ν := item_list (i := 0) e (by rw [List.getElem?_map, atB_some (by rw [row_len]; simp; omega), atB_row (by simp; omega)]; rfl) (by simp [row_len]; omega)
  rw [this]
  exact ⟨rfl, p⟩

theorem mark_row (ms : List Str) (b : Nat) (x : Str) : [] ++ (ms.map V.str).map (fun v => match v with | .str y => V.bool (PyData.eqv (.str y) (.str x)) | v => v) = (row ms b (.mark x)).map V.bool := by
  rw [List.nil_append, List.map_map, row, List.map_map]
  apply List.ext_getElem
  · simp
  · intro i h1 h2
    simp at h1 h2
    simp [sem, List.getElem?_eq_getElem h1]
theorem yes_row (ms : List Str) (b : Nat) : [] ++ (ms.map V.str).map (fun _ => V.bool true) = (row ms b .yes).map V.bool := by
  rw [List.nil_append, List.map_map, row, List.map_map]
  apply List.ext_getElem
  · simp
  · intro i h1 h2
    simp [sem]
theorem const_row (ms : List Str) (b : Nat) (a : Sy) (t : Bool) (h : t = ((List.range ms.length).drop b).any (sem ms b a)) : [] ++ (ms.map V.str).map (fun _ => V.bool t) = (row ms b (.again a)).map V.bool := by
  rw [List.nil_append, List.map_map, row, List.map_map]
  apply List.ext_getElem
  · simp
  · intro i h1 h2
    simp [sem, h]
noncomputable def intsV (l : List Nat) : List V := l.map fun (k : Nat) => V.int (k : Int)
noncomputable def moments (n b i : Nat) : List Nat := List.range' i (n - i) ++ List.range' b (n - b)
theorem idComp {c : Cx} {ρ : Fr} {μ : Mem} {i : Nat} {l : List Nat} {Q : List V → Mem → Prop} (hi : ρ i = none) (hl : l.length ≤ 2000) (h : Q (intsV l) μ) : ok (compS (fun _ => true) (cb1 i) tTrue (dV i) c ρ (l.map fun (k : Nat) => V.int (k : Int)) μ []) Q := by
  have hlim' : lim = 1000000 := rfl
  refine ok_compS (fun v => v) (fun ν => ν = μ) _ [] μ rfl (by simp; omega) (fun _ _ => rfl) (fun v hv ν hν => ⟨ρ.set i v, cb1_none hi, ?_⟩) fun ν hν => ?_
  · simp only [ok_dV, set_apply, if_true]
    exact ⟨trivial, hν⟩
  · subst hν
    simpa [intsV, Function.comp_def] using h
theorem add_int {μ : Mem} {a b : Int} : opAdd (.int a) (.int b) μ = .ok (.int (a + b)) μ := rfl
theorem after_ok {fu n : Nat} {μ : Mem} {w r i : Nat} {ws rs : List V} (hw : μ[w]? = some (.list ws)) (hr : μ[r]? = some (.list rs)) (hi : i ≤ ws.length + rs.length) (hl : ws.length + rs.length ≤ 1000) :
    ok (callF Φ fu (n + 1) 9 [.ref w, .ref r, .int (i : Int)] μ) fun v μ' => μ <+: μ' ∧ ∃ k, v = .ref k ∧ μ.length ≤ k ∧ μ'[k]? = some (.list (intsV (moments (ws.length + rs.length) ws.length i))) := by
  have hlim' : lim = 1000000 := rfl
  refine ok_call rfl rfl ?_
  have e1 : ((ws.length : Int) + (rs.length : Int)) = ((ws.length + rs.length : Nat) : Int) := by omega
  simp only [d__law_after, okS_seq, okS_set, okS_ret, ok_dBin, ok_dB1, ok_dV, List.getElem?_cons_zero, List.getElem?_cons_succ, len_list hw, len_list hr, ok_ok, add_int, e1, ok_dComp, ok_iRange, ok_dCons, ok_dNil, set_apply, Nat.reduceEqDiff, reduceIte, if_true]
  have r1 := range2 (μ := μ) (a := i) (n := ws.length + rs.length - i) (by omega)
  rw [show i + (ws.length + rs.length - i) = ws.length + rs.length by omega] at r1
  rw [r1]
  simp only [ok_ok]
  refine ⟨rfl, idComp rfl (by simp; omega) ?_⟩
  rw [ok_newL]
  refine ⟨by simp [intsV]; omega, ?_⟩
  have r2 := range2 (μ := μ ++ [O.list (intsV (List.range' i (ws.length + rs.length - i)))]) (a := ws.length) (n := rs.length) (by omega)
  rw [len_list (pre_get (pre_new _ _) hw)]
  simp only [ok_ok, r2]
  refine ⟨rfl, idComp rfl (by simp; omega) ?_⟩
  rw [ok_newL]
  refine ⟨by simp [intsV]; omega, ?_⟩
  rw [add_list (pre_get (pre_new _ _) (new_get _ _)) (new_get _ _), ok_newL]
  refine ⟨by simp [intsV]; omega, ((pre_new _ _).trans (pre_new _ _)).trans (pre_new _ _), _, rfl, by simp, ?_⟩
  rw [new_get, moments, show ws.length + rs.length - ws.length = rs.length by omega, intsV, intsV, intsV, List.map_append]

/- till -/
noncomputable def bodyL : DS := sSeq (sIf (tE (dIdx (dV 1) (dV 3))) (sSeq (sRet (dC (.bool true))) sNil) sNil) (sSeq (sIf (tNot (tE (dIdx (dV 0) (dV 3)))) (sSeq (sRet (dC (.bool false))) sNil) sNil) sNil)
theorem till_loop {c : Cx} {μ : Mem} {o q k : Nat} {ps qs : List Bool} {chk : Mem → Bool} {T : V → Mem → Prop} (hc : chk μ = true) (ho : μ[o]? = some (.list (ps.map .bool))) (hq : μ[q]? = some (.list (qs.map .bool))) (hl : qs.length = ps.length) (hlim : ps.length ≤ 1000) :
    ∀ (M : List Nat) (ρ : Fr), (∀ j ∈ M, j < ps.length) → ρ 0 = some (.ref o) → ρ 1 = some (.ref q) → T (.bool (scan (atB ps) (atB qs) M)) μ → okS (forS chk (bd1 3) bodyL c (intsV M) ρ μ) (fun ρ ν => ν = μ ∧ T (.bool false) μ) T
  | [], ρ, _, _, _, h => by
    simp only [intsV, List.map_nil, forS, hc, if_true, okS]
    exact ⟨trivial, h⟩
  | j :: M, ρ, hM, h0, h1, h => by
    have hlim' : lim = 1000000 := rfl
    have hj := hM j List.mem_cons_self
    have i1 : item μ (.ref q) (.int (j : Int)) = .ok (.bool (atB qs j)) μ := item_list hq (by rw [List.getElem?_map, atB_some (by omega)]; rfl) (by simp; omega)
    have i2 : item μ (.ref o) (.int (j : Int)) = .ok (.bool (atB ps j)) μ := item_list ho (by rw [List.getElem?_map, atB_some hj]; rfl) (by simp; omega)
    have b : okS (bodyL c (ρ.set 3 (.int (j : Int))) μ) (fun ρ' ν => ν = μ ∧ ρ' = ρ.set 3 (.int (j : Int)) ∧ atB qs j = false ∧ atB ps j = true) (fun v ν => ν = μ ∧ T v μ) := by
      unfold bodyL
      simp only [okS_seq, okS_if, ok_tE, ok_tNot, ok_dIdx, ok_dV, set_apply, Nat.reduceEqDiff, reduceIte, if_true, h0, h1, i1, i2, ok_ok, truth, ok_opt_some, okS_ret, ok_dC, okS_nil]
      rw [scan] at h
      cases e1 : atB qs j with
      | true => simp only [e1, Bool.true_or] at h; simp only [if_true]; exact ⟨trivial, h⟩
      | false =>
        simp only [e1, Bool.false_or] at h
        simp only [Bool.false_eq_true, if_false]
        cases e2 : atB ps j with
        | true => simp
        | false => simp only [e2, Bool.false_and] at h; simp only [Bool.not_false, if_true]; exact ⟨trivial, h⟩
    simp only [intsV, List.map_cons, forS, hc, if_true, bd1]
    cases hb : bodyL c (ρ.set 3 (.int (j : Int))) μ with
    | next ρ' ν =>
      rw [hb] at b
      obtain ⟨rfl, rfl, e1, e2⟩ := b
      simp only
      refine till_loop (k := k) hc ho hq hl hlim M _ (fun j hj => hM j (List.mem_cons_of_mem _ hj)) (by rw [set_apply, if_neg (by decide)]; exact h0) (by rw [set_apply, if_neg (by decide)]; exact h1) ?_
      rw [scan, e1, e2] at h
      simpa using h
    | ret v ν =>
      rw [hb] at b
      obtain ⟨rfl, b⟩ := b
      exact b
    | exc => rw [hb] at b; exact b.elim
    | bad => rw [hb] at b; exact b.elim
theorem ltill_ok {fu n : Nat} {μ : Mem} {o q k : Nat} {ps qs : List Bool} {M : List Nat} (ho : μ[o]? = some (.list (ps.map .bool))) (hq : μ[q]? = some (.list (qs.map .bool))) (hk : μ[k]? = some (.list (intsV M))) (hl : qs.length = ps.length) (hlim : ps.length ≤ 1000) (hM : ∀ j ∈ M, j < ps.length) :
    ok (callF Φ fu (n + 1) 10 [.ref o, .ref q, .ref k] μ) fun v μ' => v = .bool (scan (atB ps) (atB qs) M) ∧ μ' = μ := by
  refine ok_call rfl rfl ?_
  simp only [d__law_till, okS_seq, okS_for, ok_iSeq, ok_dV, List.getElem?_cons_zero, List.getElem?_cons_succ, hk]
  refine okS_mono (till_loop (c := ⟨callF Φ fu n, fu⟩) (k := k) (T := fun v ν => v = .bool (scan (atB ps) (atB qs) M) ∧ ν = μ) (by simp [hk]) ho hq hl hlim M _ hM rfl rfl ⟨rfl, rfl⟩) (fun ρ ν h => ?_) fun v ν h => h
  obtain ⟨rfl, h⟩ := h
  simp only [okS_ret, ok_dC]
  exact ⟨h.1, trivial⟩

/- what is asked of lists of truth values -/
theorem allD_bools {μ : Mem} {n : Nat} : ∀ bs : List Bool, allD (toD n μ) (bs.map V.bool) = some (bs.map PyData.bool)
  | [] => rfl
  | b :: r => by
    rw [List.map_cons, allD, allD_bools r]
    cases n <;> rfl
theorem in_bools {μ : Mem} {a : Nat} {bs : List Bool} {t : Bool} (h : μ[a]? = some (.list (bs.map V.bool))) : cIn μ (.bool t) (.ref a) = some (bs.any (· == t)) := by
  simp only [cIn, h, allD_bools, show toD deep μ (.bool t) = some (.bool t) from rfl]
  rw [List.any_map]; rfl
theorem notIn_bools {μ : Mem} {a : Nat} {bs : List Bool} {t : Bool} (h : μ[a]? = some (.list (bs.map V.bool))) : cNotIn μ (.bool t) (.ref a) = some (!bs.any (· == t)) := by
  simp only [cNotIn, in_bools h]; rfl
noncomputable def byI (f : Nat → Bool) : V → V
  | .int i => .bool (f i.toNat)
  | v => v
theorem byI_map (f : Nat → Bool) (l : List Nat) : (l.map fun (k : Nat) => V.int (k : Int)).map (byI f) = (l.map f).map V.bool := by
  simp [List.map_map, Function.comp_def, byI]
/-- a row, place by place -/
theorem rowComp {c : Cx} {ρ : Fr} {μ μ₀ : Mem} {i n : Nat} {elt : DE} (f : Nat → Bool) (hi : ρ i = none) (hp : μ₀ <+: μ) (hn : n ≤ 1000) (he : ∀ k, k < n → ∀ ν, μ <+: ν → ok (elt c (ρ.set i (.int (k : Int))) ν) fun x ν' => x = .bool (f k) ∧ ν <+: ν') :
    ok (compS (fun _ => true) (cb1 i) tTrue elt c ρ ((List.range' 0 n).map fun (k : Nat) => V.int (k : Int)) μ []) fun xs μ => ok (newL μ xs) (Out μ₀ ((List.range n).map f)) := by
  have hlim' : lim = 1000000 := rfl
  refine ok_compS (byI f) (fun ν => μ <+: ν) _ [] μ (List.prefix_refl _) (by simp; omega) (fun _ _ => rfl) (fun v hv ν hν => ?_) fun ν hν => ?_
  · obtain ⟨k, hk, rfl⟩ := List.mem_map.mp hv
    simp at hk
    refine ⟨_, cb1_none hi, ok_mono (he k (by omega) ν hν) fun x ν' h => ⟨?_, hν.trans h.2⟩⟩
    rw [h.1]; simp [byI]
  · rw [List.nil_append, byI_map, ← List.range_eq_range']
    exact Out.new (hp.trans hν) (by simp; omega)
theorem src_means {c : Cx} {ρ : Fr} {μ : Mem} {w : Str} {xs : List V} (h0 : ρ 0 = some (.tup (.str w :: xs))) (hl : xs.length ≤ 1000) :
    ok (iSeq (dSlc (dV 0) (oSome (dC (.int 1))) oNone) c ρ μ) fun t ν => t.items = xs ∧ (∀ ν', ν <+: ν' → t.chk ν' = true) ∧ μ <+: ν := by
  have hlim' : lim = 1000000 := rfl
  have c1 : cut (some 1) none (V.str w :: xs) = xs := cut_from (k := 1) (xs := V.str w :: xs) (by simp)
  simp only [ok_iSeq, ok_dSlc, ok_dV, ok_oSome, ok_oNone, ok_dC, h0, slc, c1, ok_newT]
  exact ⟨by omega, trivial, fun _ _ => trivial, List.prefix_refl _⟩
theorem moments_lt {n b i j : Nat} (hb : b < n) (hi : i < n) (h : j ∈ moments n b i) : j < n := by
  simp only [moments, List.mem_append, List.mem_range'_1] at h
  omega
theorem scan_congr {p p' q q' : Nat → Bool} : ∀ {M : List Nat}, (∀ j ∈ M, p j = p' j ∧ q j = q' j) → scan p q M = scan p' q' M
  | [], _ => rfl
  | j :: M, h => by rw [scan, scan, (h j List.mem_cons_self).1, (h j List.mem_cons_self).2, scan_congr fun k hk => h k (List.mem_cons_of_mem _ hk)]

theorem means_ok {fu : Nat} : ∀ (s : Sy) (n : Nat) (μ : Mem) (w r : Nat) (ws rs : List Str), dep s < n → μ[w]? = some (.list (ws.map .str)) → μ[r]? = some (.list (rs.map .str)) → 0 < rs.length → ws.length + rs.length ≤ 1000 → ok (callF Φ fu (n + 1) 11 [toV s, .ref w, .ref r] μ) (Out μ (row (ws ++ rs) ws.length s))
  | .mark x, n, μ, w, r, ws, rs, hd, hw, hr, h0, hl => by
    have hlim' : lim = 1000000 := rfl
    have hrun : opAdd (.ref w) (.ref r) μ = newL μ ((ws ++ rs).map V.str) := by rw [add_list hw hr, List.map_append]
    have ln : (ws ++ rs).length = ws.length + rs.length := by simp
    have pr := pre_new μ (O.list ((ws ++ rs).map V.str))
    have hg := new_get μ (O.list ((ws ++ rs).map V.str))
    refine ok_call rfl rfl ?_
    dsimp only [d__law_means]
    refine step_set ?_
    simp only [ok_dIdx, ok_dV, ok_dC, List.getElem?_cons_zero, toV, it2, ok_ok]
    refine step_set ?_
    simp only [ok_dBin, ok_dV, set_apply, Nat.reduceEqDiff, reduceIte, List.getElem?_cons_zero, List.getElem?_cons_succ, hrun, ok_newL]
    refine ⟨by simp; omega, ?_⟩
    refine word_ret (by rfl) e_mark_mark ?_
    simp only [ok_dComp, ok_iSeq, ok_dV, set_apply, Nat.reduceEqDiff, reduceIte, List.getElem?_cons_zero, List.getElem?_cons_succ, hg]
    refine ⟨rfl, ok_compS (fun v => match v with | .str y => .bool (PyData.eqv (.str y) (.str x)) | v => v) (fun ν => ν = μ ++ [O.list ((ws ++ rs).map V.str)]) _ [] _ rfl (by simp; omega) (fun ν h => by subst h; simp [hg]) (fun v hv ν h => ?_) fun ν h => ?_⟩
    · obtain ⟨y, _, rfl⟩ := List.mem_map.mp hv
      refine ⟨_, rfl, ?_⟩
      simp only [ok_dCmp, okS_seq, okS_set, okS_if, okS_ret, okS_nil, ok_tCmp, ok_dV, ok_dC, ok_dIdx, cEq_str, ok_opt_some, ok_ok, List.getElem?_cons_zero, List.getElem?_cons_succ, set_apply, if_true, if_false, Bool.false_eq_true, Nat.reduceEqDiff, reduceIte, it2b]
      exact ⟨trivial, h⟩
    · subst h
      have := mark_row (ws ++ rs) ws.length x
      rw [this]
      have o := Out.new (bs := row (ws ++ rs) ws.length (.mark x)) pr (by rw [row_len]; omega)
      exact o
  | .yes, n, μ, w, r, ws, rs, hd, hw, hr, h0, hl => by
    have hlim' : lim = 1000000 := rfl
    have hrun : opAdd (.ref w) (.ref r) μ = newL μ ((ws ++ rs).map V.str) := by rw [add_list hw hr, List.map_append]
    have ln : (ws ++ rs).length = ws.length + rs.length := by simp
    have pr := pre_new μ (O.list ((ws ++ rs).map V.str))
    have hg := new_get μ (O.list ((ws ++ rs).map V.str))
    refine ok_call rfl rfl ?_
    dsimp only [d__law_means]
    refine step_set ?_
    simp only [ok_dIdx, ok_dV, ok_dC, List.getElem?_cons_zero, toV, it1, ok_ok]
    refine step_set ?_
    simp only [ok_dBin, ok_dV, set_apply, Nat.reduceEqDiff, reduceIte, List.getElem?_cons_zero, List.getElem?_cons_succ, hrun, ok_newL]
    refine ⟨by simp; omega, ?_⟩
    refine word_no (by rfl) e_yes_mark ?_
    refine word_ret (by rfl) e_yes_yes ?_
    simp only [ok_dComp, ok_iSeq, ok_dV, set_apply, Nat.reduceEqDiff, reduceIte, List.getElem?_cons_zero, List.getElem?_cons_succ, hg]
    refine ⟨rfl, ok_compS (fun _ => .bool true) (fun ν => ν = μ ++ [O.list ((ws ++ rs).map V.str)]) _ [] _ rfl (by simp; omega) (fun ν h => by subst h; simp [hg]) (fun v hv ν h => ?_) fun ν h => ?_⟩
    · obtain ⟨y, _, rfl⟩ := List.mem_map.mp hv
      exact ⟨_, rfl, rfl, h⟩
    · subst h
      have := yes_row (ws ++ rs) ws.length
      rw [this]
      have o := Out.new (bs := row (ws ++ rs) ws.length .yes) pr (by rw [row_len]; omega)
      exact o
  | .not a, n, μ, w, r, ws, rs, hd, hw, hr, h0, hl => by
    have hlim' : lim = 1000000 := rfl
    have hrun : opAdd (.ref w) (.ref r) μ = newL μ ((ws ++ rs).map V.str) := by rw [add_list hw hr, List.map_append]
    have ln : (ws ++ rs).length = ws.length + rs.length := by simp
    have pr := pre_new μ (O.list ((ws ++ rs).map V.str))
    have hg := new_get μ (O.list ((ws ++ rs).map V.str))
    simp only [dep] at hd
    obtain ⟨n, rfl⟩ : ∃ k, n = k + 1 := ⟨n - 1, by omega⟩
    refine ok_call rfl rfl ?_
    dsimp only [d__law_means]
    refine step_set ?_
    simp only [ok_dIdx, ok_dV, ok_dC, List.getElem?_cons_zero, toV, it2, ok_ok]
    refine step_set ?_
    simp only [ok_dBin, ok_dV, set_apply, Nat.reduceEqDiff, reduceIte, List.getElem?_cons_zero, List.getElem?_cons_succ, hrun, ok_newL]
    refine ⟨by simp; omega, ?_⟩
    refine word_no (by rfl) e_not_mark ?_
    refine word_no (by rfl) e_not_yes ?_
    refine step_set ?_
    refine ok_mono (rows1 (i := 8) (f := 11) (p := 1) (q := 2) (x := toV a) (y := .ref w) (z := .ref r) (bs := row (ws ++ rs) ws.length a) rfl (by decide) (by decide) rfl rfl (src_means (w := Str.ofString "not") (xs := [toV a]) rfl (by simp)) fun ν hν => means_ok a n ν w r ws rs (by omega) (pre_get (pr.trans hν) hw) (pre_get (pr.trans hν) hr) h0 hl) fun v μ₁ ⟨p₁, R, r1, e, hR, g1, g2⟩ => ?_
    subst e
    refine word_ret (by rfl) e_not_not ?_
    have pm := pr.trans p₁
    have hw₁ := pre_get pm hw
    have hr₁ := pre_get pm hr
    have hg₁ := pre_get p₁ hg
    have l0 := litem0 g1 (by simp [lim])
    have len1 : (row (ws ++ rs) ws.length a).length = ws.length + rs.length := by rw [row_len, ln]
    have lr : ((ws ++ rs).map V.str).length = ws.length + rs.length := by simp
    have lwv : (ws.map V.str).length = ws.length := by simp
    have lrv : (rs.map V.str).length = rs.length := by simp
    simp only [Nat.reduceEqDiff, reduceIte, List.getElem?_cons_zero, List.getElem?_cons_succ, ok_dComp, ok_iSeq, ok_dIdx, ok_dV, ok_dC, set_apply, if_true, l0, ok_ok, g2]
    refine ⟨rfl, ok_mono (ok_notComp (μ₀ := μ) rfl pm g2 (by omega)) fun xs ν h => ok_mono h fun v ν h => ?_⟩
    have : (row (ws ++ rs) ws.length a).map (!·) = row (ws ++ rs) ws.length (.not a) := row_eq (by simp [len1]) fun i hi => by simp only [sem, row, List.map_map]; exact atB_map hi
    rw [this] at h; exact h
  | .and a c, n, μ, w, r, ws, rs, hd, hw, hr, h0, hl => by
    have hlim' : lim = 1000000 := rfl
    have hrun : opAdd (.ref w) (.ref r) μ = newL μ ((ws ++ rs).map V.str) := by rw [add_list hw hr, List.map_append]
    have ln : (ws ++ rs).length = ws.length + rs.length := by simp
    have pr := pre_new μ (O.list ((ws ++ rs).map V.str))
    have hg := new_get μ (O.list ((ws ++ rs).map V.str))
    simp only [dep] at hd
    obtain ⟨n, rfl⟩ : ∃ k, n = k + 1 := ⟨n - 1, by omega⟩
    refine ok_call rfl rfl ?_
    dsimp only [d__law_means]
    refine step_set ?_
    simp only [ok_dIdx, ok_dV, ok_dC, List.getElem?_cons_zero, toV, it3, ok_ok]
    refine step_set ?_
    simp only [ok_dBin, ok_dV, set_apply, Nat.reduceEqDiff, reduceIte, List.getElem?_cons_zero, List.getElem?_cons_succ, hrun, ok_newL]
    refine ⟨by simp; omega, ?_⟩
    refine word_no (by rfl) e_and_mark ?_
    refine word_no (by rfl) e_and_yes ?_
    refine step_set ?_
    refine ok_mono (rows2 (i := 8) (f := 11) (p := 1) (q := 2) (x := toV a) (x' := toV c) (y := .ref w) (z := .ref r) (bs := row (ws ++ rs) ws.length a) (cs := row (ws ++ rs) ws.length c) rfl (by decide) (by decide) rfl rfl (src_means (w := Str.ofString "and") (xs := [toV a, toV c]) rfl (by simp)) (fun ν hν => means_ok a n ν w r ws rs (by omega) (pre_get (pr.trans hν) hw) (pre_get (pr.trans hν) hr) h0 hl) fun ν hν => means_ok c n ν w r ws rs (by omega) (pre_get (pr.trans hν) hw) (pre_get (pr.trans hν) hr) h0 hl) fun v μ₁ ⟨p₁, R, r1, r2, e, hR, g1, g2, g3⟩ => ?_
    subst e
    refine word_no (by rfl) e_and_not ?_
    refine word_ret (by rfl) e_and_and ?_
    have l1 := litem1 g1 (by simp [lim])
    have len2 : (row (ws ++ rs) ws.length c).length = ws.length + rs.length := by rw [row_len, ln]
    have pm := pr.trans p₁
    have hw₁ := pre_get pm hw
    have hr₁ := pre_get pm hr
    have hg₁ := pre_get p₁ hg
    have l0 := litem0 g1 (by simp [lim])
    have len1 : (row (ws ++ rs) ws.length a).length = ws.length + rs.length := by rw [row_len, ln]
    have lr : ((ws ++ rs).map V.str).length = ws.length + rs.length := by simp
    have lwv : (ws.map V.str).length = ws.length := by simp
    have lrv : (rs.map V.str).length = rs.length := by simp
    simp only [Nat.reduceEqDiff, reduceIte, List.getElem?_cons_zero, List.getElem?_cons_succ, ok_dB2, ok_dIdx, ok_dV, ok_dC, set_apply, if_true, l0, l1, ok_ok, zip_list g2 g3]
    have : List.zipWith (fun x1 x2 => x1 && x2) (row (ws ++ rs) ws.length a) (row (ws ++ rs) ws.length c) = row (ws ++ rs) ws.length (.and a c) := row_eq (by simp [len1, len2]) fun i hi => by
      simp only [sem]
      rw [← atB_row (s := a) hi, ← atB_row (s := c) hi]
      simp [atB, List.getElem?_zipWith, List.getElem?_eq_getElem (show i < (row (ws ++ rs) ws.length a).length by omega), List.getElem?_eq_getElem (show i < (row (ws ++ rs) ws.length c).length by omega)]
    rw [this]
    exact Out.new pm (by rw [row_len]; omega)
  | .or a c, n, μ, w, r, ws, rs, hd, hw, hr, h0, hl => by
    have hlim' : lim = 1000000 := rfl
    have hrun : opAdd (.ref w) (.ref r) μ = newL μ ((ws ++ rs).map V.str) := by rw [add_list hw hr, List.map_append]
    have ln : (ws ++ rs).length = ws.length + rs.length := by simp
    have pr := pre_new μ (O.list ((ws ++ rs).map V.str))
    have hg := new_get μ (O.list ((ws ++ rs).map V.str))
    simp only [dep] at hd
    obtain ⟨n, rfl⟩ : ∃ k, n = k + 1 := ⟨n - 1, by omega⟩
    refine ok_call rfl rfl ?_
    dsimp only [d__law_means]
    refine step_set ?_
    simp only [ok_dIdx, ok_dV, ok_dC, List.getElem?_cons_zero, toV, it3, ok_ok]
    refine step_set ?_
    simp only [ok_dBin, ok_dV, set_apply, Nat.reduceEqDiff, reduceIte, List.getElem?_cons_zero, List.getElem?_cons_succ, hrun, ok_newL]
    refine ⟨by simp; omega, ?_⟩
    refine word_no (by rfl) e_or_mark ?_
    refine word_no (by rfl) e_or_yes ?_
    refine step_set ?_
    refine ok_mono (rows2 (i := 8) (f := 11) (p := 1) (q := 2) (x := toV a) (x' := toV c) (y := .ref w) (z := .ref r) (bs := row (ws ++ rs) ws.length a) (cs := row (ws ++ rs) ws.length c) rfl (by decide) (by decide) rfl rfl (src_means (w := Str.ofString "or") (xs := [toV a, toV c]) rfl (by simp)) (fun ν hν => means_ok a n ν w r ws rs (by omega) (pre_get (pr.trans hν) hw) (pre_get (pr.trans hν) hr) h0 hl) fun ν hν => means_ok c n ν w r ws rs (by omega) (pre_get (pr.trans hν) hw) (pre_get (pr.trans hν) hr) h0 hl) fun v μ₁ ⟨p₁, R, r1, r2, e, hR, g1, g2, g3⟩ => ?_
    subst e
    refine word_no (by rfl) e_or_not ?_
    refine word_no (by rfl) e_or_and ?_
    refine word_ret (by rfl) e_or_or ?_
    have l1 := litem1 g1 (by simp [lim])
    have len2 : (row (ws ++ rs) ws.length c).length = ws.length + rs.length := by rw [row_len, ln]
    have pm := pr.trans p₁
    have hw₁ := pre_get pm hw
    have hr₁ := pre_get pm hr
    have hg₁ := pre_get p₁ hg
    have l0 := litem0 g1 (by simp [lim])
    have len1 : (row (ws ++ rs) ws.length a).length = ws.length + rs.length := by rw [row_len, ln]
    have lr : ((ws ++ rs).map V.str).length = ws.length + rs.length := by simp
    have lwv : (ws.map V.str).length = ws.length := by simp
    have lrv : (rs.map V.str).length = rs.length := by simp
    simp only [Nat.reduceEqDiff, reduceIte, List.getElem?_cons_zero, List.getElem?_cons_succ, ok_dB2, ok_dIdx, ok_dV, ok_dC, set_apply, if_true, l0, l1, ok_ok, zip_list g2 g3]
    have : List.zipWith (fun x1 x2 => x1 || x2) (row (ws ++ rs) ws.length a) (row (ws ++ rs) ws.length c) = row (ws ++ rs) ws.length (.or a c) := row_eq (by simp [len1, len2]) fun i hi => by
      simp only [sem]
      rw [← atB_row (s := a) hi, ← atB_row (s := c) hi]
      simp [atB, List.getElem?_zipWith, List.getElem?_eq_getElem (show i < (row (ws ++ rs) ws.length a).length by omega), List.getElem?_eq_getElem (show i < (row (ws ++ rs) ws.length c).length by omega)]
    rw [this]
    exact Out.new pm (by rw [row_len]; omega)
  | .next a, n, μ, w, r, ws, rs, hd, hw, hr, h0, hl => by
    have hlim' : lim = 1000000 := rfl
    have hrun : opAdd (.ref w) (.ref r) μ = newL μ ((ws ++ rs).map V.str) := by rw [add_list hw hr, List.map_append]
    have ln : (ws ++ rs).length = ws.length + rs.length := by simp
    have pr := pre_new μ (O.list ((ws ++ rs).map V.str))
    have hg := new_get μ (O.list ((ws ++ rs).map V.str))
    simp only [dep] at hd
    obtain ⟨n, rfl⟩ : ∃ k, n = k + 1 := ⟨n - 1, by omega⟩
    refine ok_call rfl rfl ?_
    dsimp only [d__law_means]
    refine step_set ?_
    simp only [ok_dIdx, ok_dV, ok_dC, List.getElem?_cons_zero, toV, it2, ok_ok]
    refine step_set ?_
    simp only [ok_dBin, ok_dV, set_apply, Nat.reduceEqDiff, reduceIte, List.getElem?_cons_zero, List.getElem?_cons_succ, hrun, ok_newL]
    refine ⟨by simp; omega, ?_⟩
    refine word_no (by rfl) e_next_mark ?_
    refine word_no (by rfl) e_next_yes ?_
    refine step_set ?_
    refine ok_mono (rows1 (i := 8) (f := 11) (p := 1) (q := 2) (x := toV a) (y := .ref w) (z := .ref r) (bs := row (ws ++ rs) ws.length a) rfl (by decide) (by decide) rfl rfl (src_means (w := Str.ofString "next") (xs := [toV a]) rfl (by simp)) fun ν hν => means_ok a n ν w r ws rs (by omega) (pre_get (pr.trans hν) hw) (pre_get (pr.trans hν) hr) h0 hl) fun v μ₁ ⟨p₁, R, r1, e, hR, g1, g2⟩ => ?_
    subst e
    refine word_no (by rfl) e_next_not ?_
    refine word_no (by rfl) e_next_and ?_
    refine word_no (by rfl) e_next_or ?_
    refine word_ret (by rfl) e_next_next ?_
    have pm := pr.trans p₁
    have hw₁ := pre_get pm hw
    have hr₁ := pre_get pm hr
    have hg₁ := pre_get p₁ hg
    have l0 := litem0 g1 (by simp [lim])
    have len1 : (row (ws ++ rs) ws.length a).length = ws.length + rs.length := by rw [row_len, ln]
    have lr : ((ws ++ rs).map V.str).length = ws.length + rs.length := by simp
    have lwv : (ws.map V.str).length = ws.length := by simp
    have lrv : (rs.map V.str).length = rs.length := by simp
    simp only [List.getElem?_cons_zero, List.getElem?_cons_succ, ok_dComp, ok_iRange, ok_dCons, ok_dNil, ok_dB1, ok_dV, set_apply, if_true, Nat.reduceEqDiff, reduceIte, len_list hg₁, ok_ok, lr, range1 (μ := μ₁) (n := ws.length + rs.length) (by omega)]
    refine ⟨rfl, ok_mono (rowComp (μ₀ := μ) (sem (ws ++ rs) ws.length (.next a)) rfl pm (by omega) fun k hk ν hν => ?_) fun xs ν h => ok_mono h fun v ν h => ?_⟩
    · have hn : nx (ws.length + rs.length) ws.length k < ws.length + rs.length := nx_lt (by omega) hk
      simp only [ok_dIdx, ok_dV, ok_dC, ok_dCall, ok_dCons, ok_dNil, ok_dCmp, ok_dComp, ok_iSeq, set_apply, Nat.reduceEqDiff, reduceIte, if_true, List.getElem?_cons_zero, List.getElem?_cons_succ, litem0 (pre_get hν g1) (by simp [lim]), ok_ok]
      refine ok_mono (after_ok (n := n) (fu := fu) (i := k) (pre_get hν hw₁) (pre_get hν hr₁) (by rw [lwv, lrv]; omega) (by rw [lwv, lrv]; omega)) fun v ν₁ h => ?_
      obtain ⟨q1, kk, rfl, _, q2⟩ := h
      rw [lwv, lrv] at q2
      have e1 : (intsV (moments (ws.length + rs.length) ws.length k))[1]? = some (.int (nx (ws.length + rs.length) ws.length k : Nat)) := by
        simp only [intsV, List.getElem?_map, moments, nx]
        by_cases e : k + 1 = ws.length + rs.length
        · rw [if_pos e, List.getElem?_append_right (by simp; omega)]
          simp only [List.length_range']
          rw [show 1 - (ws.length + rs.length - k) = 0 by omega, List.getElem?_range' (by omega)]; simp
        · rw [if_neg e, List.getElem?_append_left (by simp; omega), List.getElem?_range' (by omega)]; simp
      rw [show (V.int 1) = V.int ((1 : Nat) : Int) from rfl, item_list q2 e1 (by simp [intsV, moments]; omega)]
      simp only [ok_ok]
      rw [item_list (pre_get (hν.trans q1) g2) (by rw [List.getElem?_map, atB_some (by omega), atB_row (by omega)]; rfl) (by simp; omega)]
      simp only [ok_ok]
      exact ⟨by simp only [sem, ln], q1⟩
    · rw [← ln] at h; exact h
  | .always a, n, μ, w, r, ws, rs, hd, hw, hr, h0, hl => by
    have hlim' : lim = 1000000 := rfl
    have hrun : opAdd (.ref w) (.ref r) μ = newL μ ((ws ++ rs).map V.str) := by rw [add_list hw hr, List.map_append]
    have ln : (ws ++ rs).length = ws.length + rs.length := by simp
    have pr := pre_new μ (O.list ((ws ++ rs).map V.str))
    have hg := new_get μ (O.list ((ws ++ rs).map V.str))
    simp only [dep] at hd
    obtain ⟨n, rfl⟩ : ∃ k, n = k + 1 := ⟨n - 1, by omega⟩
    refine ok_call rfl rfl ?_
    dsimp only [d__law_means]
    refine step_set ?_
    simp only [ok_dIdx, ok_dV, ok_dC, List.getElem?_cons_zero, toV, it2, ok_ok]
    refine step_set ?_
    simp only [ok_dBin, ok_dV, set_apply, Nat.reduceEqDiff, reduceIte, List.getElem?_cons_zero, List.getElem?_cons_succ, hrun, ok_newL]
    refine ⟨by simp; omega, ?_⟩
    refine word_no (by rfl) e_always_mark ?_
    refine word_no (by rfl) e_always_yes ?_
    refine step_set ?_
    refine ok_mono (rows1 (i := 8) (f := 11) (p := 1) (q := 2) (x := toV a) (y := .ref w) (z := .ref r) (bs := row (ws ++ rs) ws.length a) rfl (by decide) (by decide) rfl rfl (src_means (w := Str.ofString "always") (xs := [toV a]) rfl (by simp)) fun ν hν => means_ok a n ν w r ws rs (by omega) (pre_get (pr.trans hν) hw) (pre_get (pr.trans hν) hr) h0 hl) fun v μ₁ ⟨p₁, R, r1, e, hR, g1, g2⟩ => ?_
    subst e
    refine word_no (by rfl) e_always_not ?_
    refine word_no (by rfl) e_always_and ?_
    refine word_no (by rfl) e_always_or ?_
    refine word_no (by rfl) e_always_next ?_
    refine word_ret (by rfl) e_always_always ?_
    have pm := pr.trans p₁
    have hw₁ := pre_get pm hw
    have hr₁ := pre_get pm hr
    have hg₁ := pre_get p₁ hg
    have l0 := litem0 g1 (by simp [lim])
    have len1 : (row (ws ++ rs) ws.length a).length = ws.length + rs.length := by rw [row_len, ln]
    have lr : ((ws ++ rs).map V.str).length = ws.length + rs.length := by simp
    have lwv : (ws.map V.str).length = ws.length := by simp
    have lrv : (rs.map V.str).length = rs.length := by simp
    simp only [List.getElem?_cons_zero, List.getElem?_cons_succ, ok_dComp, ok_iRange, ok_dCons, ok_dNil, ok_dB1, ok_dV, set_apply, if_true, Nat.reduceEqDiff, reduceIte, len_list hg₁, ok_ok, lr, range1 (μ := μ₁) (n := ws.length + rs.length) (by omega)]
    refine ⟨rfl, ok_mono (rowComp (μ₀ := μ) (sem (ws ++ rs) ws.length (.always a)) rfl pm (by omega) fun k hk ν hν => ?_) fun xs ν h => ok_mono h fun v ν h => ?_⟩
    · have hb : ws.length < ws.length + rs.length := by omega
      simp only [ok_dIdx, ok_dV, ok_dC, ok_dCall, ok_dCons, ok_dNil, ok_dCmp, ok_dComp, ok_iSeq, set_apply, Nat.reduceEqDiff, reduceIte, if_true, List.getElem?_cons_zero, List.getElem?_cons_succ, litem0 (pre_get hν g1) (by simp [lim]), ok_ok]
      refine ok_mono (after_ok (n := n) (fu := fu) (i := k) (pre_get hν hw₁) (pre_get hν hr₁) (by rw [lwv, lrv]; omega) (by rw [lwv, lrv]; omega)) fun v ν₁ h => ?_
      obtain ⟨q1, kk, rfl, _, q2⟩ := h
      rw [lwv, lrv] at q2
      simp only [q2]
      have lmo : (moments (ws.length + rs.length) ws.length k).length ≤ 2000 := by simp [moments]; omega
      refine ⟨rfl, ok_compS (byI (sem (ws ++ rs) ws.length a)) (fun ν' => ν' = ν₁) _ [] _ rfl (by simp [intsV]; omega) (fun ν' e => by subst e; simp [q2]) (fun v hv ν' e => ?_) fun ν' e => ?_⟩
      · obtain ⟨j, hj, rfl⟩ := List.mem_map.mp hv
        have hj' := moments_lt hb hk hj
        refine ⟨_, rfl, ?_⟩
        subst e
        simp only [ok_dIdx, ok_dV, ok_dC, set_apply, Nat.reduceEqDiff, reduceIte, if_true, litem0 (pre_get (hν.trans q1) g1) (by simp [lim]), ok_ok]
        rw [item_list (pre_get (hν.trans q1) g2) (by rw [List.getElem?_map, atB_some (by omega), atB_row (by omega)]; rfl) (by simp; omega)]
        simp [ok_ok, byI]
      · subst e
        rw [List.nil_append, intsV, byI_map, ok_newL]
        refine ⟨by simp; omega, ?_⟩
        rw [notIn_bools (new_get _ _)]
        refine ⟨?_, q1.trans (pre_new _ _)⟩
        simp only [sem, ln]
        rw [← scan_all hb hk, scan_true, Bool.not_not, List.any_map]
        congr 1
        simp only [moments]
        rw [Bool.eq_iff_iff]
        simp only [Bool.not_eq_true', List.any_eq_false, List.all_eq_true, Function.comp]
        constructor
        · intro h j hj
          have := h j hj
          simpa using this
        · intro h j hj
          simp [h j hj]
    · rw [← ln] at h; exact h
  | .again a, n, μ, w, r, ws, rs, hd, hw, hr, h0, hl => by
    have hlim' : lim = 1000000 := rfl
    have hrun : opAdd (.ref w) (.ref r) μ = newL μ ((ws ++ rs).map V.str) := by rw [add_list hw hr, List.map_append]
    have ln : (ws ++ rs).length = ws.length + rs.length := by simp
    have pr := pre_new μ (O.list ((ws ++ rs).map V.str))
    have hg := new_get μ (O.list ((ws ++ rs).map V.str))
    simp only [dep] at hd
    obtain ⟨n, rfl⟩ : ∃ k, n = k + 1 := ⟨n - 1, by omega⟩
    refine ok_call rfl rfl ?_
    dsimp only [d__law_means]
    refine step_set ?_
    simp only [ok_dIdx, ok_dV, ok_dC, List.getElem?_cons_zero, toV, it2, ok_ok]
    refine step_set ?_
    simp only [ok_dBin, ok_dV, set_apply, Nat.reduceEqDiff, reduceIte, List.getElem?_cons_zero, List.getElem?_cons_succ, hrun, ok_newL]
    refine ⟨by simp; omega, ?_⟩
    refine word_no (by rfl) e_again_mark ?_
    refine word_no (by rfl) e_again_yes ?_
    refine step_set ?_
    refine ok_mono (rows1 (i := 8) (f := 11) (p := 1) (q := 2) (x := toV a) (y := .ref w) (z := .ref r) (bs := row (ws ++ rs) ws.length a) rfl (by decide) (by decide) rfl rfl (src_means (w := Str.ofString "again") (xs := [toV a]) rfl (by simp)) fun ν hν => means_ok a n ν w r ws rs (by omega) (pre_get (pr.trans hν) hw) (pre_get (pr.trans hν) hr) h0 hl) fun v μ₁ ⟨p₁, R, r1, e, hR, g1, g2⟩ => ?_
    subst e
    refine word_no (by rfl) e_again_not ?_
    refine word_no (by rfl) e_again_and ?_
    refine word_no (by rfl) e_again_or ?_
    refine word_no (by rfl) e_again_next ?_
    refine word_no (by rfl) e_again_always ?_
    refine word_ret (by rfl) e_again_again ?_
    have pm := pr.trans p₁
    have hw₁ := pre_get pm hw
    have hr₁ := pre_get pm hr
    have hg₁ := pre_get p₁ hg
    have l0 := litem0 g1 (by simp [lim])
    have len1 : (row (ws ++ rs) ws.length a).length = ws.length + rs.length := by rw [row_len, ln]
    have lr : ((ws ++ rs).map V.str).length = ws.length + rs.length := by simp
    have lwv : (ws.map V.str).length = ws.length := by simp
    have lrv : (rs.map V.str).length = rs.length := by simp
    simp only [List.getElem?_cons_zero, List.getElem?_cons_succ, ok_dComp, ok_iSeq, ok_dV, set_apply, if_true, Nat.reduceEqDiff, reduceIte, hg₁]
    have vv : (((row (ws ++ rs) ws.length a).drop ws.length).any (· == true)) = ((List.range (ws ++ rs).length).drop ws.length).any (sem (ws ++ rs) ws.length a) := by
      rw [row, ← List.map_drop, List.any_map]
      congr 1
      funext j
      simp
    refine ⟨rfl, ok_compS (fun _ => .bool (((row (ws ++ rs) ws.length a).drop ws.length).any (· == true))) (fun ν => μ₁ <+: ν) _ [] _ (List.prefix_refl _) (by simp; omega) (fun ν e => by simp [pre_get e hg₁]) (fun v hv ν hν => ?_) fun ν hν => ?_⟩
    · obtain ⟨y, _, rfl⟩ := List.mem_map.mp hv
      refine ⟨_, rfl, ?_⟩
      have c1 : cut (some (ws.length : Int)) none ((row (ws ++ rs) ws.length a).map V.bool) = ((row (ws ++ rs) ws.length a).drop ws.length).map V.bool := by rw [cut_from (by simp; omega), List.map_drop]
      simp only [ok_dCmp, ok_dSlc, ok_oSome, ok_oNone, ok_dIdx, ok_dV, ok_dC, ok_dB1, set_apply, Nat.reduceEqDiff, reduceIte, if_true, List.getElem?_cons_zero, List.getElem?_cons_succ, litem0 (pre_get hν g1) (by simp [lim]), ok_ok, len_list (pre_get hν hw₁), lwv, slc_list (pre_get hν g2), c1, ok_newL, in_bools (new_get _ _), ok_opt_some]
      exact ⟨by simp; omega, trivial, hν.trans (pre_new _ _)⟩
    · have := const_row (ws ++ rs) ws.length a _ vv
      rw [this]
      exact Out.new (pm.trans hν) (by rw [row_len]; omega)
  | .till a c, n, μ, w, r, ws, rs, hd, hw, hr, h0, hl => by
    have hlim' : lim = 1000000 := rfl
    have hrun : opAdd (.ref w) (.ref r) μ = newL μ ((ws ++ rs).map V.str) := by rw [add_list hw hr, List.map_append]
    have ln : (ws ++ rs).length = ws.length + rs.length := by simp
    have pr := pre_new μ (O.list ((ws ++ rs).map V.str))
    have hg := new_get μ (O.list ((ws ++ rs).map V.str))
    simp only [dep] at hd
    obtain ⟨n, rfl⟩ : ∃ k, n = k + 1 := ⟨n - 1, by omega⟩
    refine ok_call rfl rfl ?_
    dsimp only [d__law_means]
    refine step_set ?_
    simp only [ok_dIdx, ok_dV, ok_dC, List.getElem?_cons_zero, toV, it3, ok_ok]
    refine step_set ?_
    simp only [ok_dBin, ok_dV, set_apply, Nat.reduceEqDiff, reduceIte, List.getElem?_cons_zero, List.getElem?_cons_succ, hrun, ok_newL]
    refine ⟨by simp; omega, ?_⟩
    refine word_no (by rfl) e_till_mark ?_
    refine word_no (by rfl) e_till_yes ?_
    refine step_set ?_
    refine ok_mono (rows2 (i := 8) (f := 11) (p := 1) (q := 2) (x := toV a) (x' := toV c) (y := .ref w) (z := .ref r) (bs := row (ws ++ rs) ws.length a) (cs := row (ws ++ rs) ws.length c) rfl (by decide) (by decide) rfl rfl (src_means (w := Str.ofString "till") (xs := [toV a, toV c]) rfl (by simp)) (fun ν hν => means_ok a n ν w r ws rs (by omega) (pre_get (pr.trans hν) hw) (pre_get (pr.trans hν) hr) h0 hl) fun ν hν => means_ok c n ν w r ws rs (by omega) (pre_get (pr.trans hν) hw) (pre_get (pr.trans hν) hr) h0 hl) fun v μ₁ ⟨p₁, R, r1, r2, e, hR, g1, g2, g3⟩ => ?_
    subst e
    refine word_no (by rfl) e_till_not ?_
    refine word_no (by rfl) e_till_and ?_
    refine word_no (by rfl) e_till_or ?_
    refine word_no (by rfl) e_till_next ?_
    refine word_no (by rfl) e_till_always ?_
    refine word_no (by rfl) e_till_again ?_
    refine step_ret ?_
    have l1 := litem1 g1 (by simp [lim])
    have len2 : (row (ws ++ rs) ws.length c).length = ws.length + rs.length := by rw [row_len, ln]
    have pm := pr.trans p₁
    have hw₁ := pre_get pm hw
    have hr₁ := pre_get pm hr
    have hg₁ := pre_get p₁ hg
    have l0 := litem0 g1 (by simp [lim])
    have len1 : (row (ws ++ rs) ws.length a).length = ws.length + rs.length := by rw [row_len, ln]
    have lr : ((ws ++ rs).map V.str).length = ws.length + rs.length := by simp
    have lwv : (ws.map V.str).length = ws.length := by simp
    have lrv : (rs.map V.str).length = rs.length := by simp
    simp only [List.getElem?_cons_zero, List.getElem?_cons_succ, ok_dComp, ok_iRange, ok_dCons, ok_dNil, ok_dB1, ok_dV, set_apply, if_true, Nat.reduceEqDiff, reduceIte, len_list hg₁, ok_ok, lr, range1 (μ := μ₁) (n := ws.length + rs.length) (by omega)]
    refine ⟨rfl, ok_mono (rowComp (μ₀ := μ) (sem (ws ++ rs) ws.length (.till a c)) rfl pm (by omega) fun k hk ν hν => ?_) fun xs ν h => ok_mono h fun v ν h => ?_⟩
    · have hb : ws.length < ws.length + rs.length := by omega
      simp only [ok_dIdx, ok_dV, ok_dC, ok_dCall, ok_dCons, ok_dNil, ok_dCmp, ok_dComp, ok_iSeq, set_apply, Nat.reduceEqDiff, reduceIte, if_true, List.getElem?_cons_zero, List.getElem?_cons_succ, litem0 (pre_get hν g1) (by simp [lim]), litem1 (pre_get hν g1) (by simp [lim]), ok_ok]
      refine ok_mono (after_ok (n := n) (fu := fu) (i := k) (pre_get hν hw₁) (pre_get hν hr₁) (by rw [lwv, lrv]; omega) (by rw [lwv, lrv]; omega)) fun v ν₁ h => ?_
      obtain ⟨q1, kk, rfl, _, q2⟩ := h
      rw [lwv, lrv] at q2
      refine ok_mono (ltill_ok (n := n) (fu := fu) (pre_get (hν.trans q1) g2) (pre_get (hν.trans q1) g3) q2 (by omega) (by omega) fun j hj => by rw [len1]; exact moments_lt hb hk hj) fun v ν₂ h => ?_
      obtain ⟨rfl, rfl⟩ := h
      refine ⟨?_, q1⟩
      simp only [sem, ln]
      rw [← scan_all hb hk]
      congr 1
      exact scan_congr fun j hj => ⟨atB_row (by rw [ln]; exact moments_lt hb hk hj), atB_row (by rw [ln]; exact moments_lt hb hk hj)⟩
    · rw [← ln] at h; exact h
end
end Mine.L04
end
section
set_option autoImplicit false
set_option maxRecDepth 10000
set_option linter.unusedSimpArgs false
set_option linter.unusedVariables false
namespace Mine.L04
noncomputable section
open PySem Mine.Ltl

/-- the memory while things are drawn -/
structure Dr (μ μ' : Mem) : Prop where
  spot : ∃ j : Nat, 1 ≤ j ∧ μ'[0]? = some (.list [.int (j : Int)])
  len : μ.length ≤ μ'.length
  old : ∀ i o, 1 ≤ i → μ[i]? = some o → μ'[i]? = some o
theorem Dr.trans {μ μ₁ μ₂ : Mem} (a : Dr μ μ₁) (b : Dr μ₁ μ₂) : Dr μ μ₂ := ⟨b.spot, Nat.le_trans a.len b.len, fun i o h e => b.old i o h (a.old i o h e)⟩
theorem Dr.grow {μ μ₁ μ₂ : Mem} (a : Dr μ μ₁) (b : μ₁ <+: μ₂) : Dr μ μ₂ := by
  obtain ⟨j, h1, h2⟩ := a.spot
  exact ⟨⟨j, h1, pre_get b h2⟩, Nat.le_trans a.len (pre_len b), fun i o h e => pre_get b (a.old i o h e)⟩

theorem fmod_nat {a : Int} {n : Nat} (h : 0 < n) : ∃ k : Nat, a.fmod (n : Int) = (k : Int) ∧ k < n := by
  have h1 : 0 ≤ a.fmod (n : Int) := Int.fmod_nonneg_of_pos _ (by omega)
  have h2 : a.fmod (n : Int) < (n : Int) := Int.fmod_lt_of_pos _ (by omega)
  exact ⟨(a.fmod (n : Int)).toNat, by omega, by omega⟩
theorem scr_item {μ : Mem} {ns : List Int} {k : Nat} (h : k < ns.length) (hl : ns.length ≤ 63) : ∃ z, item μ (.scr ns) (.int (k : Int)) = .ok (.int z) μ := by
  have hlim' : lim = 1000000 := rfl
  refine ⟨ns[k], ?_⟩
  simp only [item, at_nat (xs := ns.map V.int) (i := k) (v := .int ns[k]) (by simp [List.getElem?_eq_getElem h]) (by simp; omega)]
  rfl
theorem cell_ok {fu n : Nat} {μ : Mem} {ns : List Int} (hl : ns.length ≤ 63) : ok (callF Φ fu (n + 1) 5 [.scr ns, .int 0] μ) fun v μ' => (∃ z, v = .int z) ∧ μ' = μ := by
  refine ok_call rfl rfl ?_
  simp only [d__law_cell_at, okS_seq, okS_if, okS_ret, okS_nil, ok_tCmp, ok_dV, ok_dB1, ok_dIdx, ok_dC, List.getElem?_cons_zero, List.getElem?_cons_succ, bLen, ok_ok, cLt, ok_opt_some, decide_eq_true_eq]
  split
  · rename_i h
    obtain ⟨z, hz⟩ := scr_item (μ := μ) (k := 0) (ns := ns) (by omega) hl
    rw [show ((0 : Nat) : Int) = (0 : Int) from rfl] at hz
    rw [hz]
    exact ⟨⟨z, rfl⟩, rfl⟩
  · exact ⟨⟨0, rfl⟩, trivial⟩

theorem draw_ok {fu n : Nat} {μ : Mem} {ns : List Int} {j : Nat} (hl : ns.length ≤ 63) (hj : 1 ≤ j) (hs : μ[0]? = some (.list [.int (j : Int)])) : ok (callF Φ fu (n + 1) 6 [.scr ns, .ref 0] μ) fun v μ' => (∃ z, v = .int z) ∧ μ' = μ.set 0 (.list [.int ((j + 1 : Nat) : Int)]) := by
  have hlim' : lim = 1000000 := rfl
  refine ok_call rfl rfl ?_
  have i0 := litem0 hs (by simp [lim])
  have hlen : 0 < μ.length := (List.getElem?_eq_some_iff.mp hs).1
  have ej : ((j : Int) + 1) = ((j + 1 : Nat) : Int) := by omega
  have s1 : (μ.set 0 (.list [.int ((j + 1 : Nat) : Int)]))[0]? = some (.list [.int ((j + 1 : Nat) : Int)]) := by simp [List.getElem?_set, hlen]
  have p0 : putItem μ (.ref 0) (.int 0) (.int ((j + 1 : Nat) : Int)) = some (μ.set 0 (.list [.int ((j + 1 : Nat) : Int)])) := by
    simp only [putItem, hs]
    rw [if_pos (by simp)]; rfl
  have i1 := litem0 s1 (by simp [lim])
  have ek : (((j + 1 : Nat) : Int) - 1) = (j : Int) := by omega
  simp only [d__law_draw, okS_seq, okS_put, okS_set, ok_dBin, ok_dV, ok_dC, ok_dIdx, List.getElem?_cons_zero, List.getElem?_cons_succ, i0, ok_ok, add_int, ej, p0, i1, opSub, ek]
  generalize μ.set 0 (.list [.int ((j + 1 : Nat) : Int)]) = ν
  simp only [okS_seq, okS_if, okS_ret, okS_nil, ok_tCmp, ok_tAnd, ok_tTrue, ok_dV, ok_dB1, ok_dIdx, ok_dC, ok_dBin, set_apply, Nat.reduceEqDiff, reduceIte, if_true, List.getElem?_cons_zero, List.getElem?_cons_succ, bLen, ok_ok, cLt, cGt, ok_opt_some, decide_eq_true_eq]
  split
  · rename_i h
    have hjn : j < ns.length := by omega
    have hz0 := scr_item (μ := ν) (k := j) (ns := ns) hjn hl
    cases hz0 with
    | intro z hz =>
    rw [hz]
    exact ⟨⟨z, rfl⟩, rfl⟩
  · split
    · rename_i h4
      have hpos : 0 < ns.length := by omega
      have rest : ok (opMod (.int (j : Int)) (.int (ns.length : Int)) ν) fun b μ_1 => ok (item μ_1 (.scr ns) b) fun a μ_2 => ok (opMul (.int 7919) (.int (j : Int)) μ_2) fun b μ_3 => ok (opAdd a b μ_3) fun a μ_4 => ok (opMul a (.int 48271) μ_4) fun a μ_5 => ok (opMod a (.int 1000003) μ_5) fun v μ' => (∃ z, v = .int z) ∧ μ' = ν := by
        obtain ⟨k, hk, hk'⟩ := fmod_nat (a := (j : Int)) hpos
        simp only [opMod, hk]
        rw [if_neg (by omega)]
        have hz0 := scr_item (μ := ν) (k := k) (ns := ns) hk' hl
        cases hz0 with
        | intro z hz =>
        simp only [ok_ok, hz, opMul, show small 7919 = true from rfl, show small 48271 = true from rfl, Bool.true_or, Bool.or_true, if_true, add_int]
        exact ⟨⟨_, rfl⟩, rfl⟩
      by_cases h5 : (j : Int) < 50
      · simp only [h5, if_true, decide_true]
        exact rest
      · simp only [h5, decide_false, Bool.false_eq_true, if_false]
        exact ⟨⟨0, rfl⟩, trivial⟩
    · simp only [Bool.false_eq_true, if_false]
      exact ⟨⟨0, rfl⟩, trivial⟩
theorem draw_dr {fu n : Nat} {μ : Mem} {ns : List Int} (hl : ns.length ≤ 63) (hs : ∃ j : Nat, 1 ≤ j ∧ μ[0]? = some (.list [.int (j : Int)])) : ok (callF Φ fu (n + 1) 6 [.scr ns, .ref 0] μ) fun v μ' => (∃ z, v = .int z) ∧ Dr μ μ' := by
  obtain ⟨j, hj, hs⟩ := hs
  have hlen : 0 < μ.length := (List.getElem?_eq_some_iff.mp hs).1
  refine ok_mono (draw_ok hl hj hs) fun v μ' ⟨h1, h2⟩ => ⟨h1, ?_⟩
  subst h2
  exact ⟨⟨j + 1, by omega, by simp [List.getElem?_set, hlen]⟩, by simp, fun i o hi e => by rw [List.getElem?_set_ne (by omega)]; exact e⟩
end
end Mine.L04
end
section
set_option autoImplicit false
set_option maxRecDepth 10000
set_option linter.unusedSimpArgs false
set_option linter.unusedVariables false
namespace Mine.L04
noncomputable section
open PySem Mine.Ltl

noncomputable def abc : Str := Str.ofString "abcdefghijklmnopqrstuvwxyz"
theorem abc_len : abc.length = 26 := by decide +kernel
theorem abc_ok : abc.cps.all (· < 0x110000) = true := by decide +kernel
theorem mod26 {μ : Mem} {a : Int} : ∃ k : Nat, opMod (.int a) (.int 26) μ = .ok (.int (k : Int)) μ ∧ k < 26 := by
  obtain ⟨k, h1, h2⟩ := fmod_nat (a := a) (n := 26) (by decide)
  refine ⟨k, ?_, h2⟩
  simp only [opMod]
  rw [if_neg (by decide)]
  exact congrArg (fun z => R.ok (V.int z) μ) h1
theorem modk {μ : Mem} {a : Int} {n : Nat} (hn : 0 < n) : ∃ k : Nat, opMod (.int a) (.int (n : Int)) μ = .ok (.int (k : Int)) μ ∧ k < n := by
  obtain ⟨k, h1, h2⟩ := fmod_nat (a := a) hn
  refine ⟨k, ?_, h2⟩
  simp only [opMod]
  rw [if_neg (by omega)]
  exact congrArg (fun z => R.ok (V.int z) μ) h1
theorem div_k {μ : Mem} {a : Int} {n : Nat} (h : 0 < n) (h' : n < 1000) : opDiv (.int a) (.int (n : Int)) μ = .ok (.int (a.fdiv n)) μ := by
  simp only [opDiv]
  rw [if_neg (by omega)]
theorem mul_k {μ : Mem} {a : Int} {n : Nat} (h : n < 1000) : opMul (.int (n : Int)) (.int a) μ = .ok (.int (n * a)) μ := by
  have : small (n : Int) = true := small_nat (by have : lim = 1000000 := rfl; omega)
  simp only [opMul, this, Bool.true_or, if_true]
/-- a letter, whatever it is -/
theorem letter {μ : Mem} {k : Nat} (h : k < 26) : ∃ c, c < 0x110000 ∧ item μ (.str abc) (.int (k : Int)) = .ok (.str ⟨#[c]⟩) μ := by
  obtain ⟨c, h1, h2⟩ := item_str (μ := μ) (x := abc) (i := k) (by rw [abc_len]; exact h) (by rw [abc_len]; decide)
  refine ⟨c, ?_, h2⟩
  have := abc_ok
  rw [Array.all_eq_true] at this
  obtain ⟨hk, e⟩ := Array.getElem?_eq_some_iff.mp h1
  have := this k hk
  rw [e] at this
  simpa using this

/-- a short text -/
noncomputable def Sh (n : Nat) (v : V) : Prop := ∃ x : Str, v = .str x ∧ x.length ≤ n
theorem join_bits : ∀ {ts : List Str}, (∀ t ∈ ts, PyData.strOk t = true ∧ t.length ≤ 1) → ts.length ≤ 100 → JoinOk (Str.ofString "") ts = true ∧ PyData.strOk (Txt.join (Str.ofString "") ts) = true ∧ (Txt.join (Str.ofString "") ts).length ≤ ts.length := by
  intro ts h hl
  have e0 : (Str.ofString "").length = 0 := by decide +kernel
  have hs : (ts.map (·.length)).sum ≤ ts.length := by
    clear hl
    induction ts with
    | nil => simp
    | cons t r ih =>
      have := (h t List.mem_cons_self).2
      have := ih fun u hu => h u (List.mem_cons_of_mem _ hu)
      simp only [List.map_cons, List.sum_cons, List.length_cons]; omega
  refine ⟨?_, ?_, ?_⟩
  · unfold JoinOk
    rw [StrLaws.joinTotal, e0, Builtin.Str.tooLong]
    have : sizeLine ≥ 1000 := by decide
    simp only [Nat.mul_zero, Nat.add_zero, Bool.not_eq_true', decide_eq_false_iff_not]
    omega
  · show PyData.strOk (Builtin.Str.glued _ ts) = true
    rw [StrLaws.glued_eq_join]
    exact strOk_join (by decide +kernel) fun t ht => (h t ht).1
  · show (Builtin.Str.glued _ ts).length ≤ _
    rw [StrLaws.glued_eq_join]
    have := StrLaws.join_length_le (Str.ofString "") ts
    rw [e0] at this
    omega
theorem strsOf_of : ∀ {xs : List V} {p : Str → Prop}, (∀ x ∈ xs, ∃ t, x = .str t ∧ p t) → ∃ ts, strsOf xs = some ts ∧ ts.length = xs.length ∧ ∀ t ∈ ts, p t
  | [], _, _ => ⟨[], rfl, rfl, fun _ h => by cases h⟩
  | x :: r, p, h => by
    obtain ⟨t, rfl, ht⟩ := h x List.mem_cons_self
    obtain ⟨ts, h1, h2, h3⟩ := strsOf_of (xs := r) (p := p) fun y hy => h y (List.mem_cons_of_mem _ hy)
    refine ⟨t :: ts, by rw [strsOf, h1]; rfl, by simp [h2], fun u hu => ?_⟩
    rcases List.mem_cons.mp hu with rfl | hu
    · exact ht
    · exact h3 u hu

/-- three names in a new list -/
noncomputable def Names (μ : Mem) (v : V) (μ' : Mem) : Prop := μ <+: μ' ∧ ∃ r xs, v = .ref r ∧ μ.length ≤ r ∧ μ'[r]? = some (.list xs) ∧ xs.length = 3 ∧ ∀ x ∈ xs, Sh 20 x
theorem joinD {c : Cx} {ρ : Fr} {μ : Mem} {cell : Int} (h0 : ρ 0 = some (.int cell)) (h1 : ρ 1 = some (.str abc)) (h8 : ρ 8 = none) :
    ok (dM1 .str bJoin (dC (.str (Str.ofString ""))) (dComp [8] (iRange (dCons (dC (.int 6)) (dNil))) (cb1 8) (tTrue) (dIdx (dV 1) (dBin opMod (dBin opAdd (dBin opDiv (dV 0) (dC (.int 7))) (dBin opMul (dC (.int 5)) (dV 8))) (dC (.int 26))))) c ρ μ) fun v μ' => (∃ x : Str, v = .str x ∧ x.length ≤ 6) ∧ μ <+: μ' := by
  have hlim' : lim = 1000000 := rfl
  have r6 := range1 (μ := μ) (n := 6) (by omega)
  rw [show ((6 : Nat) : Int) = (6 : Int) from rfl] at r6
  simp only [ok_dM1, ok_dC, ok_dComp, ok_iRange, ok_dCons, ok_dNil, r6, ok_ok]
  refine ⟨rfl, by simp [h8], ok_compP (fun v => ∃ t, v = .str t ∧ (PyData.strOk t = true ∧ t.length ≤ 1)) (fun ν => ν = μ) _ [] μ rfl (by simp; omega) (fun _ h => by cases h) (fun _ _ => rfl) (fun v hv ν hν => ?_) fun xs ν hx hp hν => ?_⟩
  · obtain ⟨j, hj, rfl⟩ := List.mem_map.mp hv
    refine ⟨_, cb1_none h8, ?_⟩
    have d7 := div_k (μ := ν) (a := cell) (n := 7) (by decide) (by decide)
    have m5 := mul_k (μ := ν) (a := (j : Int)) (n := 5) (by decide)
    rw [show ((7 : Nat) : Int) = (7 : Int) from rfl] at d7
    rw [show ((5 : Nat) : Int) = (5 : Int) from rfl] at m5
    simp only [ok_dIdx, ok_dBin, ok_dV, ok_dC, set_apply, Nat.reduceEqDiff, reduceIte, if_true, h0, h1, d7, m5, ok_ok, add_int]
    have hk := mod26 (μ := ν) (a := cell.fdiv 7 + 5 * (j : Int))
    cases hk with
    | intro k hk =>
    rw [hk.1]
    simp only [ok_ok]
    have hc := letter (μ := ν) hk.2
    cases hc with
    | intro cc hc =>
    rw [hc.2]
    exact ⟨⟨_, rfl, by simp [PyData.strOk, hc.1], Nat.le_refl _⟩, hν⟩
  · subst hν
    simp at hx
    obtain ⟨ts, t1, t2, t3⟩ := strsOf_of hp
    obtain ⟨j1, j2, j3⟩ := join_bits t3 (by omega)
    rw [ok_newL]
    refine ⟨by omega, ?_⟩
    simp only [bJoin, new_get, t1, j1, j2, Bool.true_and, decide_eq_true_eq]
    rw [if_pos (by omega)]
    exact ⟨⟨_, rfl, by omega⟩, pre_new _ _⟩
theorem str_add {μ : Mem} {a b : Str} {Q : V → Mem → Prop} (h : a.length + b.length ≤ 1000) (hq : Q (.str (a ++ b)) μ) : ok (opAdd (.str a) (.str b) μ) Q := by
  have e : (a ++ b).length = a.length + b.length := by
    show (a.cps ++ b.cps).size = _
    simp [Str.length]
  simp only [opAdd, ok_newS]
  exact ⟨by rw [e]; have : lim = 1000000 := rfl; omega, hq⟩
theorem str_len {a b : Str} : (a ++ b).length = a.length + b.length := by
  show (a.cps ++ b.cps).size = _
  simp [Str.length]
structure FrN (cell : Int) (rest : Str) (z at' : Nat) (l : Nat) (ρ : Fr) : Prop where
  h0 : ρ 0 = some (.int cell)
  h1 : ρ 1 = some (.str abc)
  h2 : ρ 2 = some (.str rest)
  h3 : ρ 3 = some (.int (z : Int))
  h4 : ρ 4 = some (.int (at' : Int))
  h5 : ρ 5 = some (.ref l)
theorem FrN.set {cell : Int} {rest : Str} {z at' l : Nat} {ρ : Fr} (h : FrN cell rest z at' l ρ) {i : Nat} {v : V} (hi : 5 < i) : FrN cell rest z at' l (ρ.set i v) := by
  refine ⟨?_, ?_, ?_, ?_, ?_, ?_⟩ <;> rw [set_apply, if_neg (by omega)]
  · exact h.h0
  · exact h.h1
  · exact h.h2
  · exact h.h3
  · exact h.h4
  · exact h.h5
noncomputable def bodyN : DS := sSeq (sSet 7 (dIdx (dV 1) (dBin opMod (dBin opAdd (dBin opDiv (dV 0) (dC (V.int 90))) (dBin opMul (dC (V.int 7)) (dV 6))) (dC (V.int 26)))))
  (sSeq (sExpr (dM1 MK.list bAppend (dV 5) (dBin opAdd (dBin opAdd (dSlc (dV 2) oNone (oSome (dV 4))) (dV 7)) (dSlc (dV 2) (oSome (dV 4)) (oSome (dV 3)))))) sNil)
theorem turnN {c : Cx} {ρ : Fr} {μ : Mem} {cell : Int} {rest : Str} {z at' k : Nat} {xs : List V} {T : V → Mem → Prop} {Q : Fr → Mem → Prop} (hr : rest.length ≤ 6) (F : FrN cell rest z at' μ.length ρ) (hx : xs.length ≤ 3) (h : ∀ x ρ', Sh 20 x → FrN cell rest z at' μ.length ρ' → Q ρ' (μ ++ [.list (xs ++ [x])])) :
    okS (bodyN c (ρ.set 6 (.int (k : Int))) (μ ++ [.list xs])) Q T := by
  have hlim' : lim = 1000000 := rfl
  have F1 := F.set (i := 6) (v := .int (k : Int)) (by omega)
  have e6 : (ρ.set 6 (.int (k : Int))) 6 = some (.int (k : Int)) := by rw [set_apply, if_pos rfl]
  generalize hρ : ρ.set 6 (.int (k : Int)) = ρ₁ at F1 e6
  have d90 := div_k (μ := μ ++ [.list xs]) (a := cell) (n := 90) (by decide) (by decide)
  rw [show ((90 : Nat) : Int) = (90 : Int) from rfl] at d90
  have m7 := mul_k (μ := μ ++ [.list xs]) (a := (k : Int)) (n := 7) (by decide)
  rw [show ((7 : Nat) : Int) = (7 : Int) from rfl] at m7
  have hk := mod26 (μ := μ ++ [.list xs]) (a := cell.fdiv 90 + 7 * (k : Int))
  cases hk with
  | intro q hq =>
  have hc := letter (μ := μ ++ [.list xs]) hq.2
  cases hc with
  | intro cc hc =>
  unfold bodyN
  simp only [okS_seq, okS_set, okS_expr, okS_nil, ok_dIdx, ok_dBin, ok_dV, ok_dC, F1.h0, F1.h1, e6, d90, m7, ok_ok, add_int, hq.1, hc.2]
  have F2 := F1.set (i := 7) (v := .str ⟨#[cc]⟩) (by omega)
  have e7 : (ρ₁.set 7 (.str ⟨#[cc]⟩)) 7 = some (.str ⟨#[cc]⟩) := by rw [set_apply, if_pos rfl]
  simp only [ok_dM1, ok_dSlc, ok_oNone, ok_oSome, ok_dBin, ok_dV, F2.h2, F2.h3, F2.h4, F2.h5, e7, slc, ok_newS]
  have l1 := cutS_len (lo := none) (hi := some (at' : Int)) (x := rest)
  have l2 := cutS_len (lo := some (at' : Int)) (hi := some (z : Int)) (x := rest)
  have l3 : (⟨#[cc]⟩ : Str).length = 1 := rfl
  refine ⟨by simp [hasK], by omega, str_add (by omega) ⟨by omega, str_add (by rw [str_len]; omega) ?_⟩⟩
  rw [append_last (by omega)]
  exact h _ _ ⟨_, rfl, by rw [str_len, str_len]; omega⟩ F2
theorem names_ok {fu n : Nat} {μ : Mem} {cell : Int} : ok (callF Φ fu (n + 1) 7 [.int cell] μ) (Names μ) := by
  have hlim' : lim = 1000000 := rfl
  refine ok_call rfl rfl ?_
  simp only [d__law_names]
  rw [okS_seq, okS_set, ok_dC, okS_seq, okS_set]
  refine ok_mono (joinD (cell := cell) rfl rfl rfl) fun v μ₁ h => ?_
  obtain ⟨⟨rest, rfl, hr⟩, p₁⟩ := h
  have d3 := div_k (μ := μ₁) (a := cell) (n := 3) (by decide) (by decide)
  rw [show ((3 : Nat) : Int) = (3 : Int) from rfl] at d3
  have d18 := div_k (μ := μ₁) (a := cell) (n := 18) (by decide) (by decide)
  rw [show ((18 : Nat) : Int) = (18 : Int) from rfl] at d18
  have hm3 := modk (μ := μ₁) (a := cell) (n := 3) (by decide)
  cases hm3 with
  | intro m3 hm3 =>
  rw [show ((3 : Nat) : Int) = (3 : Int) from rfl] at hm3
  have hm4 := modk (μ := μ₁) (a := cell.fdiv 3) (n := 4) (by decide)
  cases hm4 with
  | intro m4 hm4 =>
  rw [show ((4 : Nat) : Int) = (4 : Int) from rfl] at hm4
  have hm6 := modk (μ := μ₁) (a := cell.fdiv 3) (n := 6) (by decide)
  cases hm6 with
  | intro m6 hm6 =>
  rw [show ((6 : Nat) : Int) = (6 : Int) from rfl] at hm6
  have hma := modk (μ := μ₁) (a := cell.fdiv 18) (n := m6 + 1) (by omega)
  cases hma with
  | intro ma hma =>
  have e6 : ((m6 : Int) + 1) = ((m6 + 1 : Nat) : Int) := by omega
  simp only [okS_seq, okS_if, okS_set, ok_tCmp, ok_dBin, ok_dV, ok_dC, set_apply, Nat.reduceEqDiff, reduceIte, if_true, List.getElem?_cons_zero, hm3.1, ok_ok, cEq_int, ok_opt_some, d3, hm4.1, add_int, okS_ret, okS_nil, hm6.1, d18, e6, hma.1, ok_dLst, ok_dNil, okS_for]
  have r3 : ∀ ν, rangeArgs ν [.int 3] = .ok ⟨[.int 0, .int 1, .int 2], fun _ => true⟩ ν := fun ν => range1 (μ := ν) (n := 3) (by omega)
  split
  · simp only [ok_dComp, ok_iRange, ok_dCons, ok_dNil, ok_dC, r3, ok_ok]
    refine ⟨rfl, ok_compP (Sh 20) (fun ν => ν = μ₁) _ [] μ₁ rfl (by simp; omega) (fun _ h => by cases h) (fun _ _ => rfl) (fun v hv ν hν => ⟨_, cb1_none rfl, ?_⟩) fun xs ν hx hp hν => ?_⟩
    · have hv' : ∃ k : Nat, v = .int (k : Int) := by
        simp only [List.mem_cons, List.not_mem_nil, or_false] at hv
        rcases hv with rfl | rfl | rfl
        · exact ⟨0, rfl⟩
        · exact ⟨1, rfl⟩
        · exact ⟨2, rfl⟩
      obtain ⟨k, rfl⟩ := hv'
      have l1 := cutS_len (lo := none) (hi := some (1 + (m4 : Int) + (k : Int))) (x := rest)
      simp only [ok_dSlc, ok_oNone, ok_oSome, ok_dBin, ok_dV, set_apply, Nat.reduceEqDiff, reduceIte, if_true, add_int, ok_ok, slc, ok_newS]
      exact ⟨by omega, ⟨_, rfl, by omega⟩, hν⟩
    · subst hν
      simp at hx
      rw [ok_newL]
      exact ⟨by omega, p₁.trans (pre_new _ _), _, xs, rfl, pre_len p₁, new_get _ _, by omega, hp⟩
  · simp only [ok_newL, ok_iRange, ok_dCons, ok_dNil, ok_dC, r3, ok_ok]
    refine ⟨by simp, ?_⟩
    have F : FrN cell rest m6 ma μ₁.length (((((Fr.set (fun i => [V.int cell][i]?) 1 (V.str (Str.ofString "abcdefghijklmnopqrstuvwxyz"))).set 2 (V.str rest)).set 3 (V.int (m6 : Int))).set 4 (V.int (ma : Int))).set 5 (.ref μ₁.length)) := ⟨rfl, rfl, rfl, rfl, rfl, rfl⟩
    refine okS_for_cons rfl rfl (turnN (k := 0) hr F (by simp) fun x ρ₁ hx F₁ => okS_for_cons rfl rfl (turnN (k := 1) hr F₁ (by simp) fun y ρ₂ hy F₂ => okS_for_cons rfl rfl (turnN (k := 2) hr F₂ (by simp) fun u ρ₃ hu F₃ => okS_for_nil rfl ?_)))
    simp only [F₃.h5]
    refine ⟨p₁.trans (pre_new _ _), _, _, rfl, pre_len p₁, new_get _ _, by simp, fun v hv => ?_⟩
    simp only [List.nil_append, List.cons_append, List.mem_cons, List.not_mem_nil, or_false] at hv
    rcases hv with rfl | rfl | rfl
    · exact hx
    · exact hy
    · exact hu
end
end Mine.L04
end
section
set_option autoImplicit false
set_option maxRecDepth 10000
set_option linter.unusedSimpArgs false
set_option linter.unusedVariables false
namespace Mine.L04
noncomputable section
open PySem Mine.Ltl

noncomputable def kinds : Str := Str.ofString "not and or next till always again till always next not"
noncomputable def W11 : List Str := [Str.ofString "not", Str.ofString "and", Str.ofString "or", Str.ofString "next", Str.ofString "till", Str.ofString "always", Str.ofString "again", Str.ofString "till", Str.ofString "always", Str.ofString "next", Str.ofString "not"]
theorem split_kinds : Txt.split kinds (Str.ofString " ") = W11 := by decide +kernel
theorem split_is {μ : Mem} : bSplit μ (.str kinds) (.str (Str.ofString " ")) = newL μ (W11.map V.str) := by
  simp only [bSplit, split_kinds]
  rw [if_pos (by decide +kernel)]
noncomputable def quad : List V := [.str (Str.ofString "not"), .str (Str.ofString "next"), .str (Str.ofString "always"), .str (Str.ofString "again")]
/-- what a drawn word is -/
noncomputable def KindOk (w : Str) : Prop := (∀ μ, cIn μ (.str w) (.tup quad) = some true) ∧ (∀ a, ∃ s, V.tup [.str w, toV a] = toV s ∧ dep s = dep a + 1) ∨ (∀ μ, cIn μ (.str w) (.tup quad) = some false) ∧ ∀ a c, ∃ s, V.tup [.str w, toV a, toV c] = toV s ∧ dep s = max (dep a) (dep c) + 1
theorem in_quad {μ : Mem} {w : Str} : cIn μ (.str w) (.tup quad) = some (PyData.eqv (.str (Str.ofString "not")) (.str w) || (PyData.eqv (.str (Str.ofString "next")) (.str w) || (PyData.eqv (.str (Str.ofString "always")) (.str w) || (PyData.eqv (.str (Str.ofString "again")) (.str w) || false)))) := rfl
theorem k_not : KindOk (Str.ofString "not") := .inl ⟨fun μ => by rw [in_quad]; simp only [e_not_not, e_next_not, e_always_not, e_again_not]; rfl, fun a => ⟨.not a, rfl, rfl⟩⟩
theorem k_and : KindOk (Str.ofString "and") := .inr ⟨fun μ => by rw [in_quad]; simp only [e_not_and, e_next_and, e_always_and, e_again_and]; rfl, fun a c => ⟨.and a c, rfl, rfl⟩⟩
theorem k_or : KindOk (Str.ofString "or") := .inr ⟨fun μ => by rw [in_quad]; simp only [e_not_or, e_next_or, e_always_or, e_again_or]; rfl, fun a c => ⟨.or a c, rfl, rfl⟩⟩
theorem k_next : KindOk (Str.ofString "next") := .inl ⟨fun μ => by rw [in_quad]; simp only [e_not_next, e_next_next, e_always_next, e_again_next]; rfl, fun a => ⟨.next a, rfl, rfl⟩⟩
theorem k_till : KindOk (Str.ofString "till") := .inr ⟨fun μ => by rw [in_quad]; simp only [e_not_till, e_next_till, e_always_till, e_again_till]; rfl, fun a c => ⟨.till a c, rfl, rfl⟩⟩
theorem k_always : KindOk (Str.ofString "always") := .inl ⟨fun μ => by rw [in_quad]; simp only [e_not_always, e_next_always, e_always_always, e_again_always]; rfl, fun a => ⟨.always a, rfl, rfl⟩⟩
theorem k_again : KindOk (Str.ofString "again") := .inl ⟨fun μ => by rw [in_quad]; simp only [e_not_again, e_next_again, e_always_again, e_again_again]; rfl, fun a => ⟨.again a, rfl, rfl⟩⟩
theorem kind_at : ∀ i, i < 11 → ∃ w, (W11.map V.str)[i]? = some (.str w) ∧ KindOk w
  | 0, _ => ⟨_, rfl, k_not⟩
  | 1, _ => ⟨_, rfl, k_and⟩
  | 2, _ => ⟨_, rfl, k_or⟩
  | 3, _ => ⟨_, rfl, k_next⟩
  | 4, _ => ⟨_, rfl, k_till⟩
  | 5, _ => ⟨_, rfl, k_always⟩
  | 6, _ => ⟨_, rfl, k_again⟩
  | 7, _ => ⟨_, rfl, k_till⟩
  | 8, _ => ⟨_, rfl, k_always⟩
  | 9, _ => ⟨_, rfl, k_next⟩
  | 10, _ => ⟨_, rfl, k_not⟩
  | n + 11, h => by omega
theorem fdiv_13 {μ : Mem} {z : Int} : opDiv (.int z) (.int 13) μ = .ok (.int (z.fdiv 13)) μ := div_k (n := 13) (by decide) (by decide)

noncomputable def leafS : DS := sSeq (sIf (tCmp cEq (dBin opMod (dV 5) (dC (.int 9))) (dC (.int 4))) (sSeq (sRet (dTup (dCons (dC (.str (Str.ofString "yes"))) (dNil)))) (sNil)) (sNil))
    (sSeq (sRet (dTup (dCons (dC (.str (Str.ofString "mark"))) (dCons (dIdx (dV 2) (dBin opMod (dV 5) (dC (.int 3)))) (dNil))))) (sNil))
noncomputable def nodeS : DS := sSeq (sSet 6 (dC (.str (Str.ofString "not and or next till always again till always next not"))))
    (sSeq (sSet 7 (dIdx (dM1 .str bSplit (dV 6) (dC (.str (Str.ofString " ")))) (dBin opSub (dBin opMod (dV 4) (dC (.int 13))) (dC (.int 2)))))
    (sSeq (sSet 8 (dCall 8 (dCons (dV 0) (dCons (dV 1) (dCons (dV 2) (dCons (dBin opSub (dV 3) (dC (.int 1))) (dNil)))))))
    (sSeq (sIf (tCmp cIn (dV 7) (dTup (dCons (dC (.str (Str.ofString "not"))) (dCons (dC (.str (Str.ofString "next"))) (dCons (dC (.str (Str.ofString "always"))) (dCons (dC (.str (Str.ofString "again"))) (dNil))))))) (sSeq (sRet (dTup (dCons (dV 7) (dCons (dV 8) (dNil)))))
    (sNil)) (sNil))
    (sSeq (sRet (dTup (dCons (dV 7) (dCons (dV 8) (dCons (dCall 8 (dCons (dV 0) (dCons (dV 1) (dCons (dV 2) (dCons (dBin opSub (dV 3) (dC (.int 1))) (dNil)))))) (dNil))))))
    (sNil)))))
theorem leaf_ok {c : Cx} {ρ : Fr} {μ : Mem} {nm : Nat} {xs : List V} {q : Int} {Q : Fr → Mem → Prop} {T : V → Mem → Prop} (h2 : ρ 2 = some (.ref nm)) (h5 : ρ 5 = some (.int q)) (hx : μ[nm]? = some (.list xs)) (h3 : xs.length = 3) (hp : ∀ x ∈ xs, Sh 20 x) (hT : ∀ s, dep s = 0 → T (toV s) μ) : okS (leafS c ρ μ) Q T := by
  have hlim' : lim = 1000000 := rfl
  have hm9 := modk (μ := μ) (a := q) (n := 9) (by decide)
  cases hm9 with
  | intro m9 hm9 =>
  rw [show ((9 : Nat) : Int) = (9 : Int) from rfl] at hm9
  have hm3 := modk (μ := μ) (a := q) (n := 3) (by decide)
  cases hm3 with
  | intro m3 hm3 =>
  rw [show ((3 : Nat) : Int) = (3 : Int) from rfl] at hm3
  have hi : item μ (.ref nm) (.int (m3 : Int)) = .ok xs[m3] μ := item_list hx (List.getElem?_eq_getElem (by omega)) (by omega)
  obtain ⟨x, ex, _⟩ := hp xs[m3] (List.getElem_mem (by omega))
  rw [ex] at hi
  unfold leafS
  simp only [okS_seq, okS_if, okS_ret, okS_nil, ok_tCmp, ok_dBin, ok_dV, ok_dC, h2, h5, hm9.1, hm3.1, ok_ok, cEq_int, ok_opt_some, ok_dTup, ok_dCons, ok_dNil, ok_newT, ok_dIdx, hi]
  split
  · exact ⟨by simp [lim], hT .yes rfl⟩
  · exact ⟨by simp [lim], hT (.mark x) rfl⟩
theorem node_ok {c : Cx} {ρ : Fr} {μ : Mem} {ns : List Int} {nm d : Nat} {z : Int} {m : Nat} {Q : Fr → Mem → Prop} {T : V → Mem → Prop} (h0 : ρ 0 = some (.scr ns)) (h1 : ρ 1 = some (.ref 0)) (h2 : ρ 2 = some (.ref nm)) (h3 : ρ 3 = some (.int ((d + 1 : Nat) : Int))) (h4 : ρ 4 = some (.int z)) (hm : opMod (.int z) (.int 13) (μ ++ [.list (W11.map V.str)]) = .ok (.int (m : Int)) (μ ++ [.list (W11.map V.str)])) (hm' : 2 ≤ m) (hm13 : m < 13)
    (hs : ∃ j : Nat, 1 ≤ j ∧ μ[0]? = some (.list [.int (j : Int)])) (hrec : ∀ ν, Dr μ ν → ok (c.call 8 [.scr ns, .ref 0, .ref nm, .int (d : Int)] ν) fun v ν' => (∃ s, v = toV s ∧ dep s ≤ d) ∧ Dr ν ν') (hT : ∀ s ν, dep s ≤ d + 1 → Dr μ ν → T (toV s) ν) : okS (nodeS c ρ μ) Q T := by
  have hlim' : lim = 1000000 := rfl
  have hk := kind_at (m - 2) (by omega)
  cases hk with
  | intro w hw =>
  have hi : item (μ ++ [.list (W11.map V.str)]) (.ref μ.length) (.int ((m : Int) - 2)) = .ok (.str w) (μ ++ [.list (W11.map V.str)]) := by
    rw [show ((m : Int) - 2) = ((m - 2 : Nat) : Int) by omega]
    exact item_list (new_get _ _) hw.1 (by decide)
  have D0 : Dr μ (μ ++ [.list (W11.map V.str)]) := ⟨by obtain ⟨j, j1, j2⟩ := hs; exact ⟨j, j1, pre_get (pre_new _ _) j2⟩, by simp, fun i o _ e => pre_get (pre_new _ _) e⟩
  have ed : (((d + 1 : Nat) : Int) - 1) = (d : Int) := by omega
  have sp := split_is (μ := μ)
  unfold kinds at sp
  unfold nodeS
  rw [okS_seq, okS_set, ok_dC, okS_seq, okS_set]
  simp only [ok_dIdx, ok_dM1, ok_dBin, ok_dV, ok_dC, set_apply, Nat.reduceEqDiff, reduceIte, if_true, sp, ok_newL, h4, hm, ok_ok, opSub, hi]
  refine ⟨rfl, by decide, ?_⟩
  rw [okS_seq, okS_set]
  simp only [ok_dCall, ok_dCons, ok_dNil, ok_dBin, ok_dV, ok_dC, set_apply, Nat.reduceEqDiff, reduceIte, if_true, h0, h1, h2, h3, opSub, ok_ok, ed]
  refine ok_mono (hrec _ D0) fun v μ₂ h => ?_
  obtain ⟨⟨a, rfl, ha⟩, D₂⟩ := h
  have D₂' := D0.trans D₂
  rw [okS_seq, okS_if]
  simp only [ok_tCmp, ok_dTup, ok_dCons, ok_dNil, ok_newT, ok_dV, ok_dC, set_apply, Nat.reduceEqDiff, reduceIte, if_true]
  refine ⟨by decide +kernel, ?_⟩
  show ok (R.opt μ₂ (cIn μ₂ (.str w) (.tup quad))) _
  rcases hw.2 with ⟨k1, k2⟩ | ⟨k1, k2⟩
  · rw [k1 μ₂, ok_opt_some, if_pos rfl]
    simp only [okS_seq, okS_ret, ok_dTup, ok_dCons, ok_dNil, ok_newT, ok_dV, set_apply, Nat.reduceEqDiff, reduceIte, if_true]
    obtain ⟨s, e, hd⟩ := k2 a
    exact ⟨by simp [lim], e ▸ hT s μ₂ (by omega) D₂'⟩
  · rw [k1 μ₂, ok_opt_some, if_neg (by decide), okS_nil]
    simp only [okS_seq, okS_ret, ok_dTup, ok_dCons, ok_dNil, ok_newT, ok_dV, ok_dCall, ok_dBin, ok_dC, set_apply, Nat.reduceEqDiff, reduceIte, if_true, h0, h1, h2, h3, opSub, ok_ok, ed]
    refine ok_mono (hrec _ D₂') fun v μ₃ h => ?_
    obtain ⟨⟨b, rfl, hb⟩, D₃⟩ := h
    obtain ⟨s, e, hd⟩ := k2 a b
    exact ⟨by simp [lim], e ▸ hT s μ₃ (by omega) (D₂'.trans D₃)⟩
theorem made_ok {fu : Nat} {ns : List Int} (hl : ns.length ≤ 63) : ∀ (dp k : Nat) (μ : Mem) (nm : Nat) (xs : List V), (∃ j : Nat, 1 ≤ j ∧ μ[0]? = some (.list [.int (j : Int)])) → 1 ≤ nm → μ[nm]? = some (.list xs) → xs.length = 3 → (∀ x ∈ xs, Sh 20 x) →
    ok (callF Φ fu (dp + k + 2) 8 [.scr ns, .ref 0, .ref nm, .int (dp : Int)] μ) fun v μ' => (∃ s, v = toV s ∧ dep s ≤ dp) ∧ Dr μ μ' := by
  have hlim' : lim = 1000000 := rfl
  intro dp
  induction dp with
  | zero =>
    intro k μ nm xs hs hnm hx h3 hp
    rw [show 0 + k + 2 = (k + 1) + 1 by omega]
    refine ok_call rfl rfl ?_
    show okS (sSeq (sSet 4 (dCall 6 (dCons (dV 0) (dCons (dV 1) (dNil))))) (sSeq (sSet 5 (dBin opDiv (dV 4) (dC (.int 13)))) (sSeq (sIf (tOr (tCmp cLt (dV 3) (dC (.int 2))) (tOr (tCmp cLt (dBin opMod (dV 4) (dC (.int 13))) (dC (.int 2))) (tFalse))) leafS sNil) nodeS)) _ _ _) _ _
    rw [okS_seq, okS_set]
    simp only [ok_dCall, ok_dCons, ok_dV, ok_dNil, List.getElem?_cons_zero, List.getElem?_cons_succ]
    refine ok_mono (draw_dr (n := k) hl hs) fun v μ₁ h => ?_
    obtain ⟨⟨z, rfl⟩, d₁⟩ := h
    rw [okS_seq, okS_set]
    simp only [ok_dBin, ok_dV, ok_dC, set_apply, Nat.reduceEqDiff, reduceIte, if_true, fdiv_13, ok_ok]
    rw [okS_seq, okS_if]
    simp only [ok_tOr, ok_tCmp, ok_dV, ok_dC, set_apply, Nat.reduceEqDiff, reduceIte, if_true, List.getElem?_cons_zero, List.getElem?_cons_succ, cLt, ok_opt_some]
    rw [if_pos (by decide)]
    refine leaf_ok rfl rfl (d₁.old nm _ hnm hx) h3 hp fun s hd => ⟨⟨s, rfl, by omega⟩, d₁⟩
  | succ dp ih =>
    intro k μ nm xs hs hnm hx h3 hp
    rw [show dp + 1 + k + 2 = (dp + k + 2) + 1 by omega]
    refine ok_call rfl rfl ?_
    show okS (sSeq (sSet 4 (dCall 6 (dCons (dV 0) (dCons (dV 1) (dNil))))) (sSeq (sSet 5 (dBin opDiv (dV 4) (dC (.int 13)))) (sSeq (sIf (tOr (tCmp cLt (dV 3) (dC (.int 2))) (tOr (tCmp cLt (dBin opMod (dV 4) (dC (.int 13))) (dC (.int 2))) (tFalse))) leafS sNil) nodeS)) _ _ _) _ _
    rw [okS_seq, okS_set]
    simp only [ok_dCall, ok_dCons, ok_dV, ok_dNil, List.getElem?_cons_zero, List.getElem?_cons_succ]
    refine ok_mono (draw_dr (n := dp + k + 1) hl hs) fun v μ₁ h => ?_
    obtain ⟨⟨z, rfl⟩, d₁⟩ := h
    have hx₁ := d₁.old nm _ hnm hx
    have hm13 := fmod_nat (a := z) (n := 13) (by decide)
    cases hm13 with
    | intro m hm =>
    have hmod : ∀ ν : Mem, opMod (.int z) (.int 13) ν = .ok (.int (m : Int)) ν := fun ν => by
      simp only [opMod]
      rw [if_neg (by decide)]
      exact congrArg (fun y => R.ok (V.int y) ν) hm.1
    rw [okS_seq, okS_set]
    simp only [ok_dBin, ok_dV, ok_dC, set_apply, Nat.reduceEqDiff, reduceIte, if_true, fdiv_13, ok_ok]
    rw [okS_seq, okS_if]
    simp only [ok_tOr, ok_tFalse, ok_dBin, ok_tCmp, ok_dV, ok_dC, set_apply, Nat.reduceEqDiff, reduceIte, if_true, List.getElem?_cons_zero, List.getElem?_cons_succ, cLt, ok_opt_some, hmod, ok_ok]
    have leaf : ∀ (Q : Fr → Mem → Prop), okS (leafS ⟨callF Φ fu (dp + k + 2), fu⟩ ((Fr.set (fun i => [V.scr ns, V.ref 0, V.ref nm, V.int ((dp + 1 : Nat) : Int)][i]?) 4 (V.int z)).set 5 (V.int (z.fdiv 13))) μ₁) Q fun v μ' => (∃ s, v = toV s ∧ dep s ≤ dp + 1) ∧ Dr μ μ' := fun Q => leaf_ok rfl rfl hx₁ h3 hp fun s hd => ⟨⟨s, rfl, by omega⟩, d₁⟩
    by_cases c1 : ((dp + 1 : Nat) : Int) < 2
    · rw [if_pos (by simpa using c1)]
      exact leaf _
    · rw [if_neg (by simpa using c1)]
      by_cases c2 : (m : Int) < 2
      · rw [if_pos (by simpa using c2)]
        exact leaf _
      · rw [if_neg (by simpa using c2)]
        simp only [Bool.false_eq_true, if_false, okS_nil]
        refine node_ok (d := dp) (m := m) rfl rfl rfl rfl rfl (hmod _) (by omega) hm.2 d₁.spot (fun ν hν => ?_) fun s ν hd hν => ⟨⟨s, rfl, hd⟩, d₁.trans hν⟩
        exact ih k ν nm xs hν.spot hnm (hν.old nm _ hnm hx₁) h3 hp
end
end Mine.L04
end
section
set_option autoImplicit false
set_option maxRecDepth 10000
set_option linter.unusedSimpArgs false
set_option linter.unusedVariables false
namespace Mine.L04
noncomputable section
open PySem Mine.Ltl

/-- texts in a new list -/
noncomputable def Texts (lo : Nat) (μ : Mem) (v : V) (μ' : Mem) : Prop := Dr μ μ' ∧ ∃ r ms, v = .ref r ∧ 1 ≤ r ∧ μ.length ≤ r ∧ μ'[r]? = some (.list (List.map V.str ms)) ∧ lo ≤ ms.length ∧ ms.length ≤ lo + 5
theorem strs_of : ∀ {xs : List V}, (∀ x ∈ xs, ∃ t, x = .str t) → ∃ ms : List Str, xs = ms.map V.str
  | [], _ => ⟨[], rfl⟩
  | x :: r, h => by
    obtain ⟨t, rfl⟩ := h x List.mem_cons_self
    obtain ⟨ms, rfl⟩ := strs_of (xs := r) fun y hy => h y (List.mem_cons_of_mem _ hy)
    exact ⟨t :: ms, rfl⟩
theorem marks_ok {fu n : Nat} {ns : List Int} {μ : Mem} {nm lo : Nat} {xs : List V} (hl : ns.length ≤ 63) (hlo : lo ≤ 10) (hs : ∃ j : Nat, 1 ≤ j ∧ μ[0]? = some (.list [.int (j : Int)])) (hx : μ[nm]? = some (.list xs)) (h3 : xs.length = 3) (hp : ∀ x ∈ xs, Sh 20 x) :
    ok (callF Φ fu (n + 2) 12 [.scr ns, .ref 0, .ref nm, .int (lo : Int)] μ) (Texts lo μ) := by
  have hlim' : lim = 1000000 := rfl
  refine ok_call rfl rfl ?_
  obtain ⟨x2, e2, l2⟩ := hp xs[2] (List.getElem_mem (by omega))
  have hi : item μ (.ref nm) (.int 2) = .ok (.str x2) μ := by
    have : item μ (.ref nm) (.int ((2 : Nat) : Int)) = .ok xs[2] μ := item_list hx (List.getElem?_eq_getElem (by omega)) (by omega)
    rw [e2] at this; exact this
  have c1 := cutS_len (lo := none) (hi := some 1) (x := x2)
  have zq : (Str.ofString "zq").length = 2 := by decide +kernel
  simp only [d__law_marks]
  rw [okS_seq, okS_set]
  simp only [ok_dBin, ok_dV, List.getElem?_cons_zero, List.getElem?_cons_succ, ok_dLst, ok_dCons, ok_dNil, ok_dC, ok_dSlc, ok_dIdx, hi, ok_ok, ok_oNone, ok_oSome, slc, ok_newS]
  refine ⟨by omega, str_add (by omega) ?_⟩
  rw [ok_newL]
  refine ⟨by simp [lim], ?_⟩
  generalize hex : cutS none (some 1) x2 ++ Str.ofString "zq" = ex
  rw [add_list (pre_get (pre_new _ _) hx) (new_get _ _), ok_newL]
  refine ⟨by simp; omega, ?_⟩
  rw [add_list (new_get _ _) (pre_get ((pre_new _ _).trans (pre_new _ _)) hx), ok_newL]
  refine ⟨by simp; omega, ?_⟩
  generalize hys : xs ++ [V.str (Str.ofString ""), V.str ex] ++ xs = ys
  have hyl : ys.length = 8 := by rw [← hys]; simp [h3]
  have hyp : ∀ y ∈ ys, ∃ t, y = .str t := fun y hy => by
    rw [← hys] at hy
    simp only [List.mem_append, List.mem_cons, List.not_mem_nil, or_false] at hy
    rcases hy with (hy | rfl | rfl) | hy
    · obtain ⟨t, e, _⟩ := hp y hy; exact ⟨t, e⟩
    · exact ⟨_, rfl⟩
    · exact ⟨_, rfl⟩
    · obtain ⟨t, e, _⟩ := hp y hy; exact ⟨t, e⟩
  have hlen : 0 < μ.length := by obtain ⟨j, _, e⟩ := hs; exact (List.getElem?_eq_some_iff.mp e).1
  have pp : μ <+: ((μ ++ [O.list [V.str (Str.ofString ""), V.str ex]]) ++ [O.list (xs ++ [V.str (Str.ofString ""), V.str ex])]) ++ [O.list ys] := ((pre_new _ _).trans (pre_new _ _)).trans (pre_new _ _)
  have hY : (((μ ++ [O.list [V.str (Str.ofString ""), V.str ex]]) ++ [O.list (xs ++ [V.str (Str.ofString ""), V.str ex])]) ++ [O.list ys])[((μ ++ [O.list [V.str (Str.ofString ""), V.str ex]]) ++ [O.list (xs ++ [V.str (Str.ofString ""), V.str ex])]).length]? = some (.list ys) := new_get _ _
  have hYl : 1 ≤ ((μ ++ [O.list [V.str (Str.ofString ""), V.str ex]]) ++ [O.list (xs ++ [V.str (Str.ofString ""), V.str ex])]).length := by simp
  generalize ((μ ++ [O.list [V.str (Str.ofString ""), V.str ex]]) ++ [O.list (xs ++ [V.str (Str.ofString ""), V.str ex])]).length = Y at hY hYl ⊢
  generalize ((μ ++ [O.list [V.str (Str.ofString ""), V.str ex]]) ++ [O.list (xs ++ [V.str (Str.ofString ""), V.str ex])]) ++ [O.list ys] = ν at pp hY ⊢
  have D0 : Dr μ ν := ⟨by obtain ⟨j, j1, j2⟩ := hs; exact ⟨j, j1, pre_get pp j2⟩, pre_len pp, fun i o _ e => pre_get pp e⟩
  simp only [okS_seq, okS_ret, ok_dComp, ok_iRange, ok_dCons, ok_dNil, ok_dBin, ok_dCall, ok_dV, ok_dC, set_apply, Nat.reduceEqDiff, reduceIte, if_true, List.getElem?_cons_zero, List.getElem?_cons_succ]
  refine ok_mono (draw_dr (n := n) hl D0.spot) fun v ν₁ h => ?_
  obtain ⟨⟨z, rfl⟩, D₁⟩ := h
  have hm6 := modk (μ := ν₁) (a := z) (n := 6) (by decide)
  cases hm6 with
  | intro m hm =>
  rw [show ((6 : Nat) : Int) = (6 : Int) from rfl] at hm
  simp only [hm.1, ok_ok, add_int]
  rw [show ((lo : Int) + (m : Int)) = ((lo + m : Nat) : Int) by omega, range1 (n := lo + m) (by omega)]
  simp only [ok_ok]
  have D01 := D0.trans D₁
  refine ⟨rfl, ok_compP (fun v => ∃ t, v = .str t) (fun ν' => Dr ν₁ ν') _ [] ν₁ ⟨D₁.spot, Nat.le_refl _, fun _ _ _ e => e⟩ (by simp; omega) (fun _ h => by cases h) (fun _ _ => rfl) (fun v hv ν' hν => ⟨_, cb1_none rfl, ?_⟩) fun zs ν' hz hpz hν => ?_⟩
  · simp only [ok_dIdx, ok_dBin, ok_dCall, ok_dCons, ok_dNil, ok_dV, ok_dC, set_apply, Nat.reduceEqDiff, reduceIte, if_true, List.getElem?_cons_zero, List.getElem?_cons_succ]
    refine ok_mono (draw_dr (n := n) hl hν.spot) fun v ν₂ h => ?_
    obtain ⟨⟨z2, rfl⟩, D₂⟩ := h
    have hm8 := modk (μ := ν₂) (a := z2) (n := 8) (by decide)
    cases hm8 with
    | intro m8 hm8 =>
    rw [show ((8 : Nat) : Int) = (8 : Int) from rfl] at hm8
    simp only [hm8.1, ok_ok]
    have hY₂ := D₂.old Y _ hYl (hν.old Y _ hYl (D₁.old Y _ hYl hY))
    rw [item_list hY₂ (List.getElem?_eq_getElem (show m8 < ys.length by omega)) (by omega)]
    exact ⟨hyp _ (List.getElem_mem _), hν.trans D₂⟩
  · simp at hz
    obtain ⟨ms, rfl⟩ := strs_of hpz
    simp at hz
    rw [ok_newL]
    have Dn := D01.trans hν
    refine ⟨by simp; omega, Dn.grow (pre_new _ _), ν'.length, ms, rfl, ?_, Dn.len, new_get _ _, by omega, by omega⟩
    have := Dn.len; omega

/- equalities -/
theorem eqvAll_bools : ∀ bs : List Bool, PyData.eqvAll (bs.map PyData.bool) (bs.map PyData.bool) = true
  | [] => rfl
  | b :: r => by simp only [List.map_cons, PyData.eqvAll, PyData.eqv, eqvAll_bools r, beq_self_eq_true, Bool.and_self]
theorem eq_bools {μ : Mem} {a b : Nat} {bs : List Bool} (h1 : μ[a]? = some (.list (bs.map V.bool))) (h2 : μ[b]? = some (.list (bs.map V.bool))) : eqV μ (.ref a) (.ref b) = some true := by
  have e1 : toD deep μ (.ref a) = some (.list (bs.map PyData.bool)) := by simp only [deep, toD, h1, allD_bools]; rfl
  have e2 : toD deep μ (.ref b) = some (.list (bs.map PyData.bool)) := by simp only [deep, toD, h2, allD_bools]; rfl
  simp only [eqV, e1, e2, PyData.eqv, eqvAll_bools]
theorem allD_strs {μ : Mem} {n : Nat} : ∀ ms : List Str, allD (toD n μ) (ms.map V.str) = some (ms.map PyData.str)
  | [] => rfl
  | b :: r => by
    rw [List.map_cons, allD, allD_strs r]
    cases n <;> rfl
theorem eqvAll_strs : ∀ ms : List Str, PyData.eqvAll (ms.map PyData.str) (ms.map PyData.str) = true
  | [] => rfl
  | b :: r => by simp only [List.map_cons, PyData.eqvAll, PyData.eqv, eqvAll_strs r, beq_self_eq_true, Bool.and_self]
theorem eq_pairs {μ : Mem} {A B a b c d : Nat} {xs ys : List Str} (hA : μ[A]? = some (.list [.ref a, .ref b])) (hB : μ[B]? = some (.list [.ref c, .ref d])) (ha : μ[a]? = some (.list (xs.map V.str))) (hb : μ[b]? = some (.list (ys.map V.str))) (hc : μ[c]? = some (.list (xs.map V.str))) (hd : μ[d]? = some (.list (ys.map V.str))) : eqV μ (.ref A) (.ref B) = some true := by
  have e1 : toD deep μ (.ref A) = some (.list [.list (xs.map PyData.str), .list (ys.map PyData.str)]) := by simp only [deep, toD, hA, allD, ha, hb, allD_strs]; rfl
  have e2 : toD deep μ (.ref B) = some (.list [.list (xs.map PyData.str), .list (ys.map PyData.str)]) := by simp only [deep, toD, hB, allD, hc, hd, allD_strs]; rfl
  simp only [eqV, e1, e2, PyData.eqv, PyData.eqvAll, eqvAll_strs, Bool.and_self]
theorem eqvAll_app : ∀ (a b c d : List PyData), PyData.eqvAll a b = true → PyData.eqvAll c d = true → PyData.eqvAll (a ++ c) (b ++ d) = true
  | [], [], _, _, _, h => h
  | x :: a, y :: b, c, d, h1, h2 => by
    simp only [PyData.eqvAll, Bool.and_eq_true] at h1
    simp only [List.cons_append, PyData.eqvAll, h1.1, eqvAll_app a b c d h1.2 h2, Bool.and_self]
  | [], _ :: _, _, _, h, _ => by cases h
  | _ :: _, [], _, _, h, _ => by cases h
theorem allD_app {μ : Mem} {n : Nat} : ∀ {xs ys : List V} {a b : List PyData}, allD (toD n μ) xs = some a → allD (toD n μ) ys = some b → allD (toD n μ) (xs ++ ys) = some (a ++ b)
  | [], _, _, _, h1, h2 => by cases h1; exact h2
  | x :: r, ys, a, b, h1, h2 => by
    simp only [allD] at h1
    cases hx : toD n μ x with
    | none => rw [hx] at h1; cases h1
    | some d =>
      rw [hx] at h1
      cases hr : allD (toD n μ) r with
      | none => rw [hr] at h1; cases h1
      | some ds =>
        rw [hr] at h1; cases h1
        simp only [List.cons_append, allD, hx, allD_app hr h2]; rfl
theorem eq_nones {μ : Mem} {a b : Nat} {bs : List Bool} (h1 : μ[a]? = some (.list (bs.map V.bool ++ [.none]))) (h2 : μ[b]? = some (.list (bs.map V.bool ++ [.none]))) : eqV μ (.ref a) (.ref b) = some true := by
  have k : allD (toD 49 μ) (bs.map V.bool ++ [.none]) = some (bs.map PyData.bool ++ [.none]) := allD_app (allD_bools bs) rfl
  have e1 : toD deep μ (.ref a) = some (.list (bs.map PyData.bool ++ [.none])) := by simp only [deep, toD, h1, k]; rfl
  have e2 : toD deep μ (.ref b) = some (.list (bs.map PyData.bool ++ [.none])) := by simp only [deep, toD, h2, k]; rfl
  simp only [eqV, e1, e2, PyData.eqv]
  exact congrArg some (eqvAll_app _ _ _ _ (eqvAll_bools bs) rfl)
end
end Mine.L04
end
section
set_option autoImplicit false
set_option maxRecDepth 10000
set_option linter.unusedSimpArgs false
set_option linter.unusedVariables false
namespace Mine.L04
noncomputable section
open PySem Mine.Ltl
noncomputable def depth : Nat := 30

theorem isi_comp {c : Cx} {ρ : Fr} {μ : Mem} {a : Nat} {bs : List Bool} (h8 : ρ 8 = some (.ref a)) (hi : ρ 10 = none) (ha : μ[a]? = some (.list (bs.map V.bool))) (hl : bs.length ≤ 1000) :
    ok (tCmp cIn (dC (.bool false)) (dComp [10] (iSeq (dV 8)) (cb1 10) (tTrue) (dB1 (bIsi .bool) (dV 10))) c ρ μ) fun t μ' => t = false ∧ μ <+: μ' := by
  have hlim' : lim = 1000000 := rfl
  simp only [ok_tCmp, ok_dC, ok_dComp, ok_iSeq, ok_dV, h8, ha]
  refine ⟨by simp [hi], ok_compS (fun _ => .bool true) (fun ν => ν = μ) _ [] μ rfl (by simp; omega) (fun ν h => by subst h; simp [ha]) (fun v hv ν h => ?_) fun ν h => ?_⟩
  · obtain ⟨b, _, rfl⟩ := List.mem_map.mp hv
    refine ⟨_, cb1_none hi, ?_⟩
    simp only [ok_dB1, ok_dV, set_apply, if_true, bIsi, isT, ok_bind, ok_opt_some, ok_ok]
    exact ⟨trivial, h⟩
  · subst h
    have e : [] ++ (bs.map V.bool).map (fun _ => V.bool true) = (bs.map fun _ => true).map V.bool := by simp [List.map_map, Function.comp_def]
    rw [e, ok_newL]
    refine ⟨by simp; omega, ?_⟩
    rw [in_bools (new_get _ _), ok_opt_some]
    refine ⟨?_, pre_new _ _⟩
    rw [List.any_map]
    simp

theorem ne_of {μ : Mem} {a b : V} (h : eqV μ a b = some true) : cNe μ a b = some false := by rw [cNe, h]; rfl
theorem cut_one {α : Type} {k : Nat} {xs : List α} (h : k + 1 ≤ xs.length) : cut (some (k : Int)) (some ((k + 1 : Nat) : Int)) xs = (xs.drop k).take 1 := by
  simp only [cut, Option.elim, clip_nat h, clip_nat (show k ≤ xs.length by omega)]
  rw [show k + 1 - k = 1 by omega]
theorem isi_list {c : Cx} {ρ : Fr} {μ : Mem} {i a : Nat} {xs : List V} (e1 : ρ i = some (.ref a)) (e : μ[a]? = some (.list xs)) : dB1 (bIsi .list) (dV i) c ρ μ = .ok (.bool true) μ := by
  simp only [dB1, dV, e1, R.opt, R.bind, bIsi, isT, e]
theorem append_run {c : Cx} {ρ : Fr} {μ : Mem} {i a : Nat} {xs : List V} (e1 : ρ i = some (.ref a)) (e : μ[a]? = some (.list xs)) (hl : xs.length < lim) : dM1 .list bAppend (dV i) (dC .none) c ρ μ = .ok .none (μ.set a (.list (xs ++ [.none]))) := by
  simp only [dM1, dV, e1, R.opt, R.bind, hasK, e, dC, bAppend, if_true, if_pos hl]
theorem pair_args {c : Cx} {ρ : Fr} {μ : Mem} {s x y : V} {i j H : Nat} (e1 : ρ i = some s) (e2 : ρ j = some (.ref H)) (hH : μ[H]? = some (.list [x, y])) : dCons (dV i) (dCons (dIdx (dV j) (dC (.int 0))) (dCons (dIdx (dV j) (dC (.int 1))) dNil)) c ρ μ = .ok [s, x, y] μ := by
  have i0 := litem0 hH (show 2 ≤ lim by decide)
  have i1 := litem1 hH (show 2 ≤ lim by decide)
  simp only [dCons, dIdx, dV, dC, dNil, e1, e2, R.opt, R.bind, i0, i1]
theorem plain_ok (ns : List Int) (h : ns.length ≤ 63) : ok (callF Φ 0 depth 13 [.scr ns] []) fun v _ => v = .bool true := by
  have hlim' : lim = 1000000 := rfl
  show ok (callF Φ 0 (29 + 1) 13 [.scr ns] []) _
  refine ok_call rfl rfl ?_
  dsimp only [d_law]
  refine step_run (run_newL (xs := [V.int 1]) (by decide)) ?_
  have hsp : ∃ j : Nat, 1 ≤ j ∧ ([] ++ [O.list [V.int 1]] : Mem)[0]? = some (.list [.int (j : Int)]) := ⟨1, by decide, rfl⟩
  have hl1 : ([] ++ [O.list [V.int 1]] : Mem).length = 1 := rfl
  have e0 : ([] : Mem).length = 0 := rfl
  rw [e0]
  generalize ([] ++ [O.list [V.int 1]] : Mem) = μ₁ at hsp hl1 ⊢
  refine step_set (ok_dCall ▸ ok_dCons ▸ ?_)
  refine ok_mono (at_call (cell_ok (n := 28) h) rfl) fun v ν hh => ?_
  obtain ⟨⟨z, rfl⟩, rfl⟩ := hh
  rw [ok_dNil]
  refine ok_mono (names_ok (n := 28)) fun v μ₂ hh => ?_
  obtain ⟨p₂, nm, xs, rfl, hnm, hx, h3, hp⟩ := hh
  have hsp₂ : ∃ j : Nat, 1 ≤ j ∧ μ₂[0]? = some (.list [.int (j : Int)]) := by obtain ⟨j, j1, j2⟩ := hsp; exact ⟨j, j1, pre_get p₂ j2⟩
  refine step_call (made_ok h 5 22 μ₂ nm xs hsp₂ (by omega) hx h3 hp) rfl fun v μ₃ hh => ?_
  obtain ⟨⟨s, rfl, hd⟩, D₃⟩ := hh
  refine step_call (marks_ok (n := 27) (lo := 0) h (by decide) D₃.spot (D₃.old nm _ (by omega) hx) h3 hp) rfl fun v μ₄ hh => ?_
  obtain ⟨D₄, w, ws, rfl, hw1, _, hw, _, hwl⟩ := hh
  refine step_call (marks_ok (n := 27) (lo := 1) h (by decide) D₄.spot (D₄.old nm _ (by omega) (D₃.old nm _ (by omega) hx)) h3 hp) rfl fun v μ₅ hh => ?_
  obtain ⟨D₅, r, rs, rfl, hr1, _, hr, hrl, hrl'⟩ := hh
  replace hw := D₅.old w _ hw1 hw
  clear D₃ D₄ D₅ hsp₂ hx hp h3 hsp
  refine step_call (means_ok s 28 μ₅ w r ws rs (by omega) hw hr (by omega) (by omega)) rfl fun v μ₆ hh => ?_
  obtain ⟨p₆, due, rfl, hdl, hdue⟩ := hh
  replace hw := pre_get p₆ hw
  replace hr := pre_get p₆ hr
  have lrow : (row (ws ++ rs) ws.length s).length = ws.length + rs.length := by rw [row_len]; simp
  generalize hrow : row (ws ++ rs) ws.length s = R at hdue lrow
  have lwv : (ws.map V.str).length = ws.length := by simp
  -- handed
  rw [okS_seq, okS_set]
  simp only [ok_dLst, ok_dCons, ok_dNil, ok_dB1, ok_dV, set_apply, Nat.reduceEqDiff, reduceIte, if_true, bList, hw, ok_newL, pre_get (pre_new _ _) hr]
  refine ⟨by simp; omega, by simp; omega, by simp [lim], ?_⟩
  have p₉ : μ₆ <+: ((μ₆ ++ [O.list (ws.map V.str)]) ++ [O.list (rs.map V.str)]) ++ [O.list [.ref μ₆.length, .ref (μ₆ ++ [O.list (ws.map V.str)]).length]] := ((pre_new _ _).trans (pre_new _ _)).trans (pre_new _ _)
  have hH : (((μ₆ ++ [O.list (ws.map V.str)]) ++ [O.list (rs.map V.str)]) ++ [O.list [.ref μ₆.length, .ref (μ₆ ++ [O.list (ws.map V.str)]).length]])[((μ₆ ++ [O.list (ws.map V.str)]) ++ [O.list (rs.map V.str)]).length]? = some (.list [.ref μ₆.length, .ref (μ₆ ++ [O.list (ws.map V.str)]).length]) := new_get _ _
  have h1 : (((μ₆ ++ [O.list (ws.map V.str)]) ++ [O.list (rs.map V.str)]) ++ [O.list [.ref μ₆.length, .ref (μ₆ ++ [O.list (ws.map V.str)]).length]])[μ₆.length]? = some (.list (ws.map V.str)) := pre_get ((pre_new _ _).trans (pre_new _ _)) (new_get _ _)
  have h2 : (((μ₆ ++ [O.list (ws.map V.str)]) ++ [O.list (rs.map V.str)]) ++ [O.list [.ref μ₆.length, .ref (μ₆ ++ [O.list (ws.map V.str)]).length]])[(μ₆ ++ [O.list (ws.map V.str)]).length]? = some (.list (rs.map V.str)) := pre_get (pre_new _ _) (new_get _ _)
  generalize (μ₆ ++ [O.list (ws.map V.str)]).length = b at hH h2 p₉ h1 ⊢
  generalize ((μ₆ ++ [O.list (ws.map V.str)]) ++ [O.list (rs.map V.str)]).length = H at hH h2 p₉ h1 ⊢
  generalize μ₆.length = a at hH h2 p₉ h1 ⊢
  generalize ((μ₆ ++ [O.list (ws.map V.str)]) ++ [O.list (rs.map V.str)]) ++ [O.list [V.ref a, V.ref b]] = μ₉ at hH h2 p₉ h1 ⊢
  replace hw := pre_get p₉ hw
  replace hr := pre_get p₉ hr
  replace hdue := pre_get p₉ hdue
  -- found
  refine step_call (row_of_ok (n := 27) (fu := 0) (s := s) (by omega) h1 h2 (by omega) (by omega)) (pair_args rfl rfl hH) fun v μ₁₀ hh => ?_
  obtain ⟨p₁₀, f, rfl, hfl, hf⟩ := hh
  rw [hrow] at hf
  have hw9 := hw
  have hr9 := hr
  replace hw := pre_get p₁₀ hw
  replace hr := pre_get p₁₀ hr
  have hdue₁ := pre_get p₁₀ hdue
  have hH₁ := pre_get p₁₀ hH
  have h1₁ := pre_get p₁₀ h1
  have h2₁ := pre_get p₁₀ h2
  have ltl : ∀ {i : Nat} {o : O}, μ₉[i]? = some o → i < f := fun e => Nat.lt_of_lt_of_le (List.getElem?_eq_some_iff.mp e).1 hfl
  have ne1 := ltl h1
  have ne2 := ltl h2
  have neH := ltl hH
  have ned := ltl hdue
  have new_w := ltl hw9
  have new_r := ltl hr9
  refine step_no (or_no (not_run (b := true) (v := .bool true) (isi_list rfl hf) rfl ⟨rfl, or_no (cmp_run (t := false) rfl rfl (ne_of (eq_bools hf hdue₁)) ⟨rfl, or_no (ok_mono (isi_comp (a := f) (bs := R) rfl rfl hf (by omega)) fun t μ₁₁ hh => ?_)⟩)⟩))
  obtain ⟨rfl, p₁₁⟩ := hh
  refine ⟨rfl, rfl, ?_⟩
  have new := fun {i : Nat} {o : O} (q : i < f) (e : μ₁₀[i]? = some o) => show (μ₁₁.set f (.list (R.map V.bool ++ [.none])))[i]? = some o by
    rw [List.getElem?_set_ne (by omega)]; exact pre_get p₁₁ e
  have hf₂ : (μ₁₁.set f (.list (R.map V.bool ++ [.none])))[f]? = some (.list (R.map V.bool ++ [.none])) := by
    have := (List.getElem?_eq_some_iff.mp (pre_get p₁₁ hf)).1
    simp [List.getElem?_set, this]
  have hw₂ := new new_w hw
  have hr₂ := new new_r hr
  have hdue₂ := new ned hdue₁
  have hH₂ := new neH hH₁
  have h1₂ := new ne1 h1₁
  have h2₂ := new ne2 h2₁
  -- append
  refine step_expr (ok_run (append_run rfl (pre_get p₁₁ hf) (by rw [List.length_map]; omega)) ?_)
  generalize μ₁₁.set f (.list (R.map V.bool ++ [.none])) = μ₁₂ at hf₂ hw₂ hr₂ hdue₂ hH₂ h1₂ h2₂ ⊢
  clear new p₁₁ hf hw hr hdue₁ hH₁ h1₁ h2₁ hdue hH h1 h2 p₁₀ p₉ p₆
  -- holds
  refine step_call (holds_ok (n := 26) (fu := 0) (s := s) (by omega) h1₂ h2₂ (by omega) (by omega)) (pair_args rfl rfl hH₂) fun v μ₁₃ hh => ?_
  obtain ⟨rfl, p₁₃⟩ := hh
  replace hf₂ := pre_get p₁₃ hf₂
  replace hw₂ := pre_get p₁₃ hw₂
  replace hr₂ := pre_get p₁₃ hr₂
  replace hdue₂ := pre_get p₁₃ hdue₂
  replace hH₂ := pre_get p₁₃ hH₂
  replace h1₂ := pre_get p₁₃ h1₂
  replace h2₂ := pre_get p₁₃ h2₂
  have hR0 : R[0]? = some (sem (ws ++ rs) ws.length s 0) := by
    rw [← hrow, row, List.getElem?_map, List.getElem?_range (by simp; omega)]; rfl
  have hit : item μ₁₃ (.ref due) (.int 0) = .ok (.bool (sem (ws ++ rs) ws.length s 0)) μ₁₃ := item_list (i := 0) hdue₂ (by rw [List.getElem?_map, hR0]; rfl) (by simp; omega)
  have heq0 : eqV μ₁₃ (.bool (sem (ws ++ rs) ws.length s 0)) (.bool (sem (ws ++ rs) ws.length s 0)) = some true := by
    cases sem (ws ++ rs) ws.length s 0 <;> rfl
  have hQ := new_get μ₁₃ (.list [.ref w, .ref r])
  have p₁₄ := pre_new μ₁₃ (.list [.ref w, .ref r])
  refine step_no (or_no (not_run (b := true) (v := .bool true) rfl rfl ⟨rfl, or_no (cmp_run (t := false) rfl hit (ne_of heq0) ⟨rfl, or_no (cmp_run (t := false) rfl (run_newL (xs := [.ref w, .ref r]) (show 2 ≤ lim by decide)) (ne_of (eq_pairs (pre_get p₁₄ hH₂) hQ (pre_get p₁₄ h1₂) (pre_get p₁₄ h2₂) (pre_get p₁₄ hw₂) (pre_get p₁₄ hr₂))) ⟨rfl, rfl, ?_⟩)⟩)⟩))
  generalize μ₁₃ ++ [O.list [.ref w, .ref r]] = μ₁₄ at hQ p₁₄ ⊢
  replace hf₂ := pre_get p₁₄ hf₂
  replace hw₂ := pre_get p₁₄ hw₂
  replace hr₂ := pre_get p₁₄ hr₂
  replace hdue₂ := pre_get p₁₄ hdue₂
  clear hQ hH₂ h1₂ h2₂ heq0 hit hR0 p₁₄ p₁₃
  -- twice
  have ll : ∀ {k : Nat}, k ≤ 1000 → k ≤ lim := fun h => Nat.le_trans h (by decide)
  have lr : (R.map V.bool).length = ws.length + rs.length := by rw [List.length_map, lrow]
  have lsv : (rs.map V.str).length = rs.length := List.length_map ..
  have hQ := new_get μ₁₄ (.list (rs.map V.str ++ rs.map V.str))
  have p₁₅ := pre_new μ₁₄ (.list (rs.map V.str ++ rs.map V.str))
  have a1 := fun {ρ : Fr} (e : ρ 5 = some (.ref r)) => run_add (c := ⟨callF Φ 0 29, 0⟩) (l := dV 5) (r := dV 5) (run_var e) (run_var e) hr₂ hr₂ (ll (by rw [List.length_append, lsv]; omega))
  generalize μ₁₄.length = q at hQ a1
  generalize μ₁₄ ++ [O.list (rs.map V.str ++ rs.map V.str)] = μ₁₅ at hQ p₁₅ a1
  rw [← List.map_append] at hQ
  replace hf₂ := pre_get p₁₅ hf₂
  replace hw₂ := pre_get p₁₅ hw₂
  replace hr₂ := pre_get p₁₅ hr₂
  replace hdue₂ := pre_get p₁₅ hdue₂
  refine step_no (cmp_call (row_of_ok (n := 27) (fu := 0) (s := s) (by omega) hw₂ hQ (by rw [List.length_append]; omega) (by rw [List.length_append]; omega)) (run_cons rfl (run_cons rfl (run_cons (a1 rfl) rfl))) fun v μ₁₆ hh => ?_)
  obtain ⟨p₁₆, x, rfl, _, hx⟩ := hh
  clear a1
  replace hf₂ := pre_get p₁₆ hf₂
  replace hw₂ := pre_get p₁₆ hw₂
  replace hr₂ := pre_get p₁₆ hr₂
  replace hdue₂ := pre_get p₁₆ hdue₂
  rw [twice ws rs (by omega) s, hrow] at hx
  have ls : ((R.map V.bool).drop (ws.map V.str).length).length ≤ 1000 := by rw [List.length_drop, lr]; omega
  have e1 : R.map V.bool ++ (R.map V.bool).drop (ws.map V.str).length = (R ++ R.drop ws.length).map V.bool := by rw [List.map_append, List.map_drop, lwv]
  have p₁₇ := (pre_new μ₁₆ (O.list ((R.map V.bool).drop (ws.map V.str).length))).trans (pre_new _ (O.list (R.map V.bool ++ (R.map V.bool).drop (ws.map V.str).length)))
  have hY := new_get (μ₁₆ ++ [O.list ((R.map V.bool).drop (ws.map V.str).length)]) (O.list (R.map V.bool ++ (R.map V.bool).drop (ws.map V.str).length))
  refine ok_run (run_add rfl (run_slc rfl (by rw [oSome, run_len rfl hw₂]; rfl) rfl hdue₂ (cut_from (by rw [lr, lwv]; omega)) (ll ls)) (pre_get (pre_new _ _) hdue₂) (new_get _ _) (ll (by rw [e1, List.length_map, List.length_append, List.length_drop, lrow]; omega))) (ok_some (ne_of (eq_bools (pre_get p₁₇ hx) (e1 ▸ hY))) ⟨rfl, ?_⟩)
  clear hY
  generalize (μ₁₆ ++ [O.list ((R.map V.bool).drop (ws.map V.str).length)]) ++ [O.list (R.map V.bool ++ (R.map V.bool).drop (ws.map V.str).length)] = μ₁₇ at p₁₇ ⊢
  replace hf₂ := pre_get p₁₇ hf₂
  replace hw₂ := pre_get p₁₇ hw₂
  replace hr₂ := pre_get p₁₇ hr₂
  replace hdue₂ := pre_get p₁₇ hdue₂
  clear hQ p₁₅ p₁₆ p₁₇ hx e1
  -- later
  have l1 : ((rs.map V.str).take 1).length ≤ 1000 := by rw [List.length_take, lsv]; omega
  have l2 : ((rs.map V.str).drop 1).length ≤ 1000 := by rw [List.length_drop, lsv]; omega
  have pA := (pre_new μ₁₇ (O.list ((rs.map V.str).take 1))).trans (pre_new _ (O.list (ws.map V.str ++ (rs.map V.str).take 1)))
  have hA := new_get (μ₁₇ ++ [O.list ((rs.map V.str).take 1)]) (O.list (ws.map V.str ++ (rs.map V.str).take 1))
  have a1 := fun {ρ : Fr} (e : ρ 4 = some (.ref w)) (e' : ρ 5 = some (.ref r)) => run_add (c := ⟨callF Φ 0 29, 0⟩) (l := dV 4) (r := dSlc (dV 5) oNone (oSome (dC (.int 1)))) (run_var e) (run_slc (run_var e') rfl rfl hr₂ (cut_to (k := 1)) (ll l1)) (pre_get (pre_new _ _) hw₂) (new_get _ _) (ll (by rw [List.length_append, lwv, List.length_take]; omega))
  generalize (μ₁₇ ++ [O.list ((rs.map V.str).take 1)]).length = A at hA a1
  generalize (μ₁₇ ++ [O.list ((rs.map V.str).take 1)]) ++ [O.list (ws.map V.str ++ (rs.map V.str).take 1)] = μ₁₈ at pA hA a1
  replace hf₂ := pre_get pA hf₂
  replace hw₂ := pre_get pA hw₂
  replace hr₂ := pre_get pA hr₂
  replace hdue₂ := pre_get pA hdue₂
  have pB := ((pre_new μ₁₈ (O.list ((rs.map V.str).drop 1))).trans (pre_new _ (O.list ((rs.map V.str).take 1)))).trans (pre_new _ (O.list ((rs.map V.str).drop 1 ++ (rs.map V.str).take 1)))
  have hB := new_get ((μ₁₈ ++ [O.list ((rs.map V.str).drop 1)]) ++ [O.list ((rs.map V.str).take 1)]) (O.list ((rs.map V.str).drop 1 ++ (rs.map V.str).take 1))
  have a2 := fun {ρ : Fr} (e : ρ 5 = some (.ref r)) => run_add (c := ⟨callF Φ 0 29, 0⟩) (l := dSlc (dV 5) (oSome (dC (.int 1))) oNone) (r := dSlc (dV 5) oNone (oSome (dC (.int 1)))) (run_slc (run_var e) rfl rfl hr₂ (cut_from (k := 1) (by rw [lsv]; omega)) (ll l2)) (run_slc (run_var e) rfl rfl (pre_get (pre_new _ _) hr₂) (cut_to (k := 1)) (ll l1)) (pre_get (pre_new _ _) (new_get _ _)) (new_get _ _) (ll (by rw [List.length_append, List.length_drop, List.length_take, lsv]; omega))
  generalize ((μ₁₈ ++ [O.list ((rs.map V.str).drop 1)]) ++ [O.list ((rs.map V.str).take 1)]).length = B at hB a2
  generalize ((μ₁₈ ++ [O.list ((rs.map V.str).drop 1)]) ++ [O.list ((rs.map V.str).take 1)]) ++ [O.list ((rs.map V.str).drop 1 ++ (rs.map V.str).take 1)] = μ₁₉ at pB hB a2
  replace hf₂ := pre_get pB hf₂
  replace hw₂ := pre_get pB hw₂
  replace hr₂ := pre_get pB hr₂
  replace hdue₂ := pre_get pB hdue₂
  replace hA := pre_get pB hA
  rw [← List.map_take, ← List.map_append] at hA
  rw [← List.map_take, ← List.map_drop, ← List.map_append] at hB
  have lt1 : (rs.take 1).length = 1 := by rw [List.length_take]; omega
  have ld1 : (rs.drop 1).length = rs.length - 1 := List.length_drop ..
  refine step_no (cmp_call (row_of_ok (n := 27) (fu := 0) (s := s) (by omega) hA hB (by rw [List.length_append]; omega) (by rw [List.length_append, List.length_append]; omega)) (run_cons rfl (run_cons (a1 rfl rfl) (run_cons (a2 rfl) rfl))) fun v μ₂₀ hh => ?_)
  obtain ⟨p₂₀, x, rfl, _, hx⟩ := hh
  clear a1 a2
  replace hf₂ := pre_get p₂₀ hf₂
  replace hw₂ := pre_get p₂₀ hw₂
  replace hr₂ := pre_get p₂₀ hr₂
  replace hdue₂ := pre_get p₂₀ hdue₂
  rw [List.length_append, lt1, later ws rs (by omega) s, hrow] at hx
  have e1 : R.map V.bool ++ ((R.map V.bool).drop ws.length).take 1 = (R ++ (R.drop ws.length).take 1).map V.bool := by rw [List.map_append, List.map_take, List.map_drop]
  have p₂₁ := (pre_new μ₂₀ (O.list (((R.map V.bool).drop ws.length).take 1))).trans (pre_new _ (O.list (R.map V.bool ++ ((R.map V.bool).drop ws.length).take 1)))
  have hY := new_get (μ₂₀ ++ [O.list (((R.map V.bool).drop ws.length).take 1)]) (O.list (R.map V.bool ++ ((R.map V.bool).drop ws.length).take 1))
  refine ok_run (run_add rfl (run_slc rfl (by rw [oSome, run_len rfl hw₂, lwv]; rfl) (by rw [oSome, dBin, run_len rfl hw₂, lwv]; rfl) hdue₂ (cut_one (by rw [lr]; omega)) (ll (by rw [List.length_take]; omega))) (pre_get (pre_new _ _) hdue₂) (new_get _ _) (ll (by rw [e1, List.length_map, List.length_append, List.length_take, lrow]; omega))) (ok_some (ne_of (eq_bools (pre_get p₂₁ hx) (e1 ▸ hY))) ⟨rfl, ?_⟩)
  clear hY
  generalize (μ₂₀ ++ [O.list (((R.map V.bool).drop ws.length).take 1)]) ++ [O.list (R.map V.bool ++ ((R.map V.bool).drop ws.length).take 1)] = μ₂₁ at p₂₁ ⊢
  replace hf₂ := pre_get p₂₁ hf₂
  replace hw₂ := pre_get p₂₁ hw₂
  replace hr₂ := pre_get p₂₁ hr₂
  replace hdue₂ := pre_get p₂₁ hdue₂
  clear hA hB pA pB p₂₀ p₂₁ hx e1
  -- the end
  refine step_ret ?_
  rw [ok_dAnd, ok_dCmp]
  refine ok_mono (at_call (row_of_ok (n := 27) (fu := 0) (s := s) (by omega) hw₂ hr₂ (by omega) (by omega)) rfl) fun v μ₂₂ hh => ?_
  obtain ⟨p₂₂, x, rfl, _, hx⟩ := hh
  rw [hrow] at hx
  replace hf₂ := pre_get p₂₂ hf₂
  replace hdue₂ := pre_get p₂₂ hdue₂
  refine ok_run (a := V.ref due) rfl (ok_some (eq_bools hx hdue₂) (ok_some rfl ?_))
  rw [if_pos rfl, ok_dCmp]
  refine ok_run rfl (ok_run (run_add rfl (run_newL (xs := [.none]) (show 1 ≤ lim by decide)) (pre_get (pre_new _ _) hdue₂) (new_get _ _) (ll (by rw [List.length_append, lr]; simp only [List.length_singleton]; omega))) (ok_some (eq_nones (pre_get ((pre_new _ _).trans (pre_new _ _)) hf₂) (new_get _ _)) rfl))
theorem plain (ns : List Int) (h : ns.length ≤ 63) : ∃ μ, callF Φ 0 depth 13 [.scr ns] [] = .ok (.bool true) μ := by
  obtain ⟨v, μ, e, rfl⟩ := ok_of (plain_ok ns h)
  exact ⟨μ, e⟩
end
end Mine.L04
end
open PySem PySem.W PyProof.Rows Mine Mine.L04
set_option Elab.async false
set_option maxRecDepth 100000
set_option maxHeartbeats 8000000
namespace Mine.L04
noncomputable section
noncomputable def q : Program := PySem.W.view PySem.Challenge.pw_uf020006_04 [1, 3, 4, 5, 6, 8, 9, 10, 11, 12, 13, 14, 15, 16]
theorem left : LeftO PySem.Challenge.pw_uf020006_04 q [] (fun s => xlAt q [] s && recOk [] s) (Hook.obs Hook.none) (Hook.val Hook.none) 1004 := fun w => by kernel_rfl
theorem said : PySem.Challenge.rw_uf020006_04.wellSaid = true := by kernel_rfl
theorem okk : (chainsOk q && opensWell PySem.Challenge.rw_uf020006_04.row.prog && (frees PySem.Challenge.rw_uf020006_04.row.toRowW && PySem.Challenge.rw_uf020006_04.row.within.isEmpty)) = true := by kernel_rfl
theorem hbn : bnames.all (freeB q (looseW q [])) = true := by kernel_rfl
noncomputable def paAt (k : Nat) : Arguments := match stAt k with | .FunctionDef _ a _ _ _ _ _ _ _ _ => a | _ => default
theorem r0 : fnRec q (nmOf 0) = some (scAt 1, bodyAt 1, paAt 1) := by kernel_rfl
theorem b0 (pm cd doc : Value) (vals : List Value) (h : vals.length = 1) : bindArgs (Calls.docDef (nmOf 0) (paAt 1) (bodyAt 1) (scAt 1) pm cd doc) ⟨vals, []⟩ = pure (([(Str.ofString "saying")] : List Str).zip vals) := by match vals, h with | [_], _ => rfl
theorem r1 : fnRec q (nmOf 1) = some (scAt 3, bodyAt 3, paAt 3) := by kernel_rfl
theorem b1 (pm cd doc : Value) (vals : List Value) (h : vals.length = 3) : bindArgs (Calls.docDef (nmOf 1) (paAt 3) (bodyAt 3) (scAt 3) pm cd doc) ⟨vals, []⟩ = pure (([(Str.ofString "ones"), (Str.ofString "others"), (Str.ofString "begin")] : List Str).zip vals) := by match vals, h with | [_, _, _], _ => rfl
theorem r2 : fnRec q (nmOf 2) = some (scAt 4, bodyAt 4, paAt 4) := by kernel_rfl
theorem b2 (pm cd doc : Value) (vals : List Value) (h : vals.length = 3) : bindArgs (Calls.docDef (nmOf 2) (paAt 4) (bodyAt 4) (scAt 4) pm cd doc) ⟨vals, []⟩ = pure (([(Str.ofString "saying"), (Str.ofString "marks"), (Str.ofString "begin")] : List Str).zip vals) := by match vals, h with | [_, _, _], _ => rfl
theorem r3 : fnRec q (nmOf 3) = some (scAt 5, bodyAt 5, paAt 5) := by kernel_rfl
theorem b3 (pm cd doc : Value) (vals : List Value) (h : vals.length = 3) : bindArgs (Calls.docDef (nmOf 3) (paAt 5) (bodyAt 5) (scAt 5) pm cd doc) ⟨vals, []⟩ = pure (([(Str.ofString "saying"), (Str.ofString "way"), (Str.ofString "ring")] : List Str).zip vals) := by match vals, h with | [_, _, _], _ => rfl
theorem r4 : fnRec q (nmOf 4) = some (scAt 6, bodyAt 6, paAt 6) := by kernel_rfl
theorem b4 (pm cd doc : Value) (vals : List Value) (h : vals.length = 3) : bindArgs (Calls.docDef (nmOf 4) (paAt 6) (bodyAt 6) (scAt 6) pm cd doc) ⟨vals, []⟩ = pure (([(Str.ofString "saying"), (Str.ofString "way"), (Str.ofString "ring")] : List Str).zip vals) := by match vals, h with | [_, _, _], _ => rfl
theorem r5 : fnRec q (nmOf 5) = some (scAt 8, bodyAt 8, paAt 8) := by kernel_rfl
theorem b5 (pm cd doc : Value) (vals : List Value) (h : vals.length = 2) : bindArgs (Calls.docDef (nmOf 5) (paAt 8) (bodyAt 8) (scAt 8) pm cd doc) ⟨vals, []⟩ = pure (([(Str.ofString "_law_script"), (Str.ofString "_law_k")] : List Str).zip vals) := by match vals, h with | [_, _], _ => rfl
theorem r6 : fnRec q (nmOf 6) = some (scAt 9, bodyAt 9, paAt 9) := by kernel_rfl
theorem b6 (pm cd doc : Value) (vals : List Value) (h : vals.length = 2) : bindArgs (Calls.docDef (nmOf 6) (paAt 9) (bodyAt 9) (scAt 9) pm cd doc) ⟨vals, []⟩ = pure (([(Str.ofString "_law_script"), (Str.ofString "_law_spot")] : List Str).zip vals) := by match vals, h with | [_, _], _ => rfl
theorem r7 : fnRec q (nmOf 7) = some (scAt 10, bodyAt 10, paAt 10) := by kernel_rfl
theorem b7 (pm cd doc : Value) (vals : List Value) (h : vals.length = 1) : bindArgs (Calls.docDef (nmOf 7) (paAt 10) (bodyAt 10) (scAt 10) pm cd doc) ⟨vals, []⟩ = pure (([(Str.ofString "_law_cell")] : List Str).zip vals) := by match vals, h with | [_], _ => rfl
theorem r8 : fnRec q (nmOf 8) = some (scAt 11, bodyAt 11, paAt 11) := by kernel_rfl
theorem b8 (pm cd doc : Value) (vals : List Value) (h : vals.length = 4) : bindArgs (Calls.docDef (nmOf 8) (paAt 11) (bodyAt 11) (scAt 11) pm cd doc) ⟨vals, []⟩ = pure (([(Str.ofString "_law_script"), (Str.ofString "_law_spot"), (Str.ofString "_law_names_here"), (Str.ofString "_law_deep")] : List Str).zip vals) := by match vals, h with | [_, _, _, _], _ => rfl
theorem r9 : fnRec q (nmOf 9) = some (scAt 12, bodyAt 12, paAt 12) := by kernel_rfl
theorem b9 (pm cd doc : Value) (vals : List Value) (h : vals.length = 3) : bindArgs (Calls.docDef (nmOf 9) (paAt 12) (bodyAt 12) (scAt 12) pm cd doc) ⟨vals, []⟩ = pure (([(Str.ofString "_law_way"), (Str.ofString "_law_ring"), (Str.ofString "_law_at")] : List Str).zip vals) := by match vals, h with | [_, _, _], _ => rfl
theorem r10 : fnRec q (nmOf 10) = some (scAt 13, bodyAt 13, paAt 13) := by kernel_rfl
theorem b10 (pm cd doc : Value) (vals : List Value) (h : vals.length = 3) : bindArgs (Calls.docDef (nmOf 10) (paAt 13) (bodyAt 13) (scAt 13) pm cd doc) ⟨vals, []⟩ = pure (([(Str.ofString "_law_ones"), (Str.ofString "_law_others"), (Str.ofString "_law_moments")] : List Str).zip vals) := by match vals, h with | [_, _, _], _ => rfl
theorem r11 : fnRec q (nmOf 11) = some (scAt 14, bodyAt 14, paAt 14) := by kernel_rfl
theorem b11 (pm cd doc : Value) (vals : List Value) (h : vals.length = 3) : bindArgs (Calls.docDef (nmOf 11) (paAt 14) (bodyAt 14) (scAt 14) pm cd doc) ⟨vals, []⟩ = pure (([(Str.ofString "_law_saying"), (Str.ofString "_law_way"), (Str.ofString "_law_ring")] : List Str).zip vals) := by match vals, h with | [_, _, _], _ => rfl
theorem r12 : fnRec q (nmOf 12) = some (scAt 15, bodyAt 15, paAt 15) := by kernel_rfl
theorem b12 (pm cd doc : Value) (vals : List Value) (h : vals.length = 4) : bindArgs (Calls.docDef (nmOf 12) (paAt 15) (bodyAt 15) (scAt 15) pm cd doc) ⟨vals, []⟩ = pure (([(Str.ofString "_law_script"), (Str.ofString "_law_spot"), (Str.ofString "_law_names_here"), (Str.ofString "_law_least")] : List Str).zip vals) := by match vals, h with | [_, _, _, _], _ => rfl
theorem r13 : fnRec q (nmOf 13) = some (scAt 16, bodyAt 16, paAt 16) := by kernel_rfl
theorem b13 (pm cd doc : Value) (vals : List Value) (h : vals.length = 1) : bindArgs (Calls.docDef (nmOf 13) (paAt 16) (bodyAt 16) (scAt 16) pm cd doc) ⟨vals, []⟩ = pure (([(Str.ofString "_law_script")] : List Str).zip vals) := by match vals, h with | [_], _ => rfl
end
end Mine.L04
theorem PySem.Challenge.cw_uf020006_04_holds : PySem.Challenge.rw_uf020006_04.Holds := by
  refine holds_law said fun sd => ?_
  refine holds_open (q := q) (loose := []) (Xt := fun s => xlAt q [] s && recOk [] s) (XP := XL q []) (Yf := Hook.obs Hook.none) (Ya := Hook.val Hook.none) (YP := Hook.says Hook.none) (N := 1004) left (Hook.of _) (Hook.keeps _) (fun s e => xl_of s (Bool.and_eq_true_iff.mp e).1) XL.keeps (by rfl) (by rfl) (by rfl) (fun s e => recFacts_of (Bool.and_eq_true_iff.mp e).2) (by rfl) sd okk ⟨rfl, rfl, rfl, rfl, rfl, by decide +kernel⟩ ?hw ?hc
  case hw => w_witness2
  intro w s₀ s₁ mg mb G Y fa o pm cd doc dV kV ho hd hcd hD hmg hg args vals as hpre hlay hrd hwl hlo
  have T := G.T
  clear Y ho hd hcd hD
  obtain ⟨a0, d0, F0⟩ := fnIn_of T [(Str.ofString "saying")] r0 b0
  obtain ⟨a1, d1, F1⟩ := fnIn_of T [(Str.ofString "ones"), (Str.ofString "others"), (Str.ofString "begin")] r1 b1
  obtain ⟨a2, d2, F2⟩ := fnIn_of T [(Str.ofString "saying"), (Str.ofString "marks"), (Str.ofString "begin")] r2 b2
  obtain ⟨a3, d3, F3⟩ := fnIn_of T [(Str.ofString "saying"), (Str.ofString "way"), (Str.ofString "ring")] r3 b3
  obtain ⟨a4, d4, F4⟩ := fnIn_of T [(Str.ofString "saying"), (Str.ofString "way"), (Str.ofString "ring")] r4 b4
  obtain ⟨a5, d5, F5⟩ := fnIn_of T [(Str.ofString "_law_script"), (Str.ofString "_law_k")] r5 b5
  obtain ⟨a6, d6, F6⟩ := fnIn_of T [(Str.ofString "_law_script"), (Str.ofString "_law_spot")] r6 b6
  obtain ⟨a7, d7, F7⟩ := fnIn_of T [(Str.ofString "_law_cell")] r7 b7
  obtain ⟨a8, d8, F8⟩ := fnIn_of T [(Str.ofString "_law_script"), (Str.ofString "_law_spot"), (Str.ofString "_law_names_here"), (Str.ofString "_law_deep")] r8 b8
  obtain ⟨a9, d9, F9⟩ := fnIn_of T [(Str.ofString "_law_way"), (Str.ofString "_law_ring"), (Str.ofString "_law_at")] r9 b9
  obtain ⟨a10, d10, F10⟩ := fnIn_of T [(Str.ofString "_law_ones"), (Str.ofString "_law_others"), (Str.ofString "_law_moments")] r10 b10
  obtain ⟨a11, d11, F11⟩ := fnIn_of T [(Str.ofString "_law_saying"), (Str.ofString "_law_way"), (Str.ofString "_law_ring")] r11 b11
  obtain ⟨a12, d12, F12⟩ := fnIn_of T [(Str.ofString "_law_script"), (Str.ofString "_law_spot"), (Str.ofString "_law_names_here"), (Str.ofString "_law_least")] r12 b12
  obtain ⟨a13, d13, F13⟩ := fnIn_of T [(Str.ofString "_law_script")] r13 b13
  let P : Pg := { prog := PySem.Challenge.rw_uf020006_04.row.prog, w := w, h₀ := s₁.heap, cls := fun _ => 0, Φ := Mine.L04.Φ, fuel := 0, fnA := fun f => ([a0, a1, a2, a3, a4, a5, a6, a7, a8, a9, a10, a11, a12, a13][f]?).getD 0, fd := fun f => ([d0, d1, d2, d3, d4, d5, d6, d7, d8, d9, d10, d11, d12, d13][f]?).getD d0, mg := mg, mb := mb }
  have H : Like P := ⟨rfl, fun f F h => by
    match f, h with
    | 0, _ => exact F0.name
    | 1, _ => exact F1.name
    | 2, _ => exact F2.name
    | 3, _ => exact F3.name
    | 4, _ => exact F4.name
    | 5, _ => exact F5.name
    | 6, _ => exact F6.name
    | 7, _ => exact F7.name
    | 8, _ => exact F8.name
    | 9, _ => exact F9.name
    | 10, _ => exact F10.name
    | 11, _ => exact F11.name
    | 12, _ => exact F12.name
    | 13, _ => exact F13.name
    | _ + 14, h => cases h⟩
  have hfn : ∀ f F, P.Φ f = some F → ∃ nm sc bd ps, FnIn s₁.heap mg nm sc bd ps (P.fnA f) (P.fd f) := fun f F h => by
    match f, h with
    | 0, _ => exact ⟨_, _, _, _, F0⟩
    | 1, _ => exact ⟨_, _, _, _, F1⟩
    | 2, _ => exact ⟨_, _, _, _, F2⟩
    | 3, _ => exact ⟨_, _, _, _, F3⟩
    | 4, _ => exact ⟨_, _, _, _, F4⟩
    | 5, _ => exact ⟨_, _, _, _, F5⟩
    | 6, _ => exact ⟨_, _, _, _, F6⟩
    | 7, _ => exact ⟨_, _, _, _, F7⟩
    | 8, _ => exact ⟨_, _, _, _, F8⟩
    | 9, _ => exact ⟨_, _, _, _, F9⟩
    | 10, _ => exact ⟨_, _, _, _, F10⟩
    | 11, _ => exact ⟨_, _, _, _, F11⟩
    | 12, _ => exact ⟨_, _, _, _, F12⟩
    | 13, _ => exact ⟨_, _, _, _, F13⟩
    | _ + 14, h => cases h
  have hok : ∀ f F, P.Φ f = some F → ∃ tab ps body, FnOk P f F tab ps body := fun f F h => by
    match f, h with
    | 0, h => cases h; exact ⟨_, _, _, fnOk_in (P := P) (f := 0) F0 (tab := tab_parts_of) (by decide +kernel) rfl (s_parts_of H)⟩
    | 1, h => cases h; exact ⟨_, _, _, fnOk_in (P := P) (f := 1) F1 (tab := tab_till_over) (by decide +kernel) rfl (s_till_over H)⟩
    | 2, h => cases h; exact ⟨_, _, _, fnOk_in (P := P) (f := 2) F2 (tab := tab_over) (by decide +kernel) rfl (s_over H)⟩
    | 3, h => cases h; exact ⟨_, _, _, fnOk_in (P := P) (f := 3) F3 (tab := tab_row_of) (by decide +kernel) rfl (s_row_of H)⟩
    | 4, h => cases h; exact ⟨_, _, _, fnOk_in (P := P) (f := 4) F4 (tab := tab_holds) (by decide +kernel) rfl (s_holds H)⟩
    | 5, h => cases h; exact ⟨_, _, _, fnOk_in (P := P) (f := 5) F5 (tab := tab__law_cell_at) (by decide +kernel) rfl (s__law_cell_at H)⟩
    | 6, h => cases h; exact ⟨_, _, _, fnOk_in (P := P) (f := 6) F6 (tab := tab__law_draw) (by decide +kernel) rfl (s__law_draw H)⟩
    | 7, h => cases h; exact ⟨_, _, _, fnOk_in (P := P) (f := 7) F7 (tab := tab__law_names) (by decide +kernel) rfl (s__law_names H)⟩
    | 8, h => cases h; exact ⟨_, _, _, fnOk_in (P := P) (f := 8) F8 (tab := tab__law_made) (by decide +kernel) rfl (s__law_made H)⟩
    | 9, h => cases h; exact ⟨_, _, _, fnOk_in (P := P) (f := 9) F9 (tab := tab__law_after) (by decide +kernel) rfl (s__law_after H)⟩
    | 10, h => cases h; exact ⟨_, _, _, fnOk_in (P := P) (f := 10) F10 (tab := tab__law_till) (by decide +kernel) rfl (s__law_till H)⟩
    | 11, h => cases h; exact ⟨_, _, _, fnOk_in (P := P) (f := 11) F11 (tab := tab__law_means) (by decide +kernel) rfl (s__law_means H)⟩
    | 12, h => cases h; exact ⟨_, _, _, fnOk_in (P := P) (f := 12) F12 (tab := tab__law_marks) (by decide +kernel) rfl (s__law_marks H)⟩
    | 13, h => cases h; exact ⟨_, _, _, fnOk_in (P := P) (f := 13) F13 (tab := tab_law) (by decide +kernel) rfl (s_law H)⟩
    | _ + 14, h => cases h
  have gd : Good P := good_top (P := P) T hbn hfn
  have hfa : fa = a13 := by
    have q := (hmg.symm.trans F13.ns : some (Value.ref fa) = some (Value.ref a13))
    injection q with q
    injection q
  clear hmg
  subst hfa
  wrow_args hpre hlay hrd hwl hlo
  rename IntsAre _ _ => hI
  rename Heap.IsList _ _ _ => hL
  obtain ⟨μ', hc⟩ := (fun {vs : List Value} {ns : List Int} (_ : IntsAre vs ns) => Mine.L04.plain ns) hI (by omega)
  refine wpAny_mono (law_call (P := P) gd hok (n := Mine.L04.depth) (f := 13) rfl ⟨by decide, by decide, rfl⟩ rfl hL hI (by omega) hc) (fun v s' q => ?_) fun _ _ q => q.elim
  obtain ⟨rfl, h', tk, rfl, hk⟩ := q
  exact good_end (fun _ => rfl) (by first | rfl | wrow_post) (.of_eq hg) hk
