import PyProof.Rows.All
import PyProof.ListOps
import PyProof.Cells
import PyProof.DictRoads
import PyProof.DictIter
import PyProof.DictKinds
import PyProof.SliceList
import PyProof.Rows.Frame
import PyProof.NsCount
import PyProof.DictWalks
import PyProof.StrCalls2
import PyProof.Rows.StrRules
import KE.KIntText
import PyProof.NeKinds
import PyProof.ListCopy
import KE.KDictList
import OpenK.KWalk
import KE.KDictOf
import PyProof.CallStr
import PyProof.ConsumeWalk
import PyProof.Rows.SortWalk
import PyProof.TupleCall
import PyProof.TupleOfSeq
import KE.KListMore
import KE.KDictLaws
import PyProof.Rows.SeqMore2
import KE.KRevIter
import PyProof.StrWalks
import PyProof.Rows.TupMore
import PyProof.SliceSyntax
import OpenK.AllK
import Wide.FinOn
import Wide.All
import PySem.Challenge.RW_uf050008_05
set_option Elab.async false
set_option linter.unusedVariables false
set_option linter.unusedSimpArgs false

namespace Mine
open PySem PyProof.Rows

/-! Values, objects, heaps of the small Python. Tuples are values. -/
inductive V where
  | none | bool (b : Bool) | int (i : Int) | str (s : Str) | ref (a : Addr) | tup (vs : List V) | exc (C : Addr)
  deriving Inhabited

inductive O where
  | list (vs : List V) | flist (vs : List V) | idict (kvs : List (Int × V)) (ep : Nat) | sdict (kvs : List (Str × V)) | inst (C d : Addr)
  deriving Inhabited

abbrev AH := Addr → Option O
def AH.put (h : AH) (a : Addr) (o : O) : AH := fun b => if b = a then some o else h b
abbrev Fm := List (Option V)

inductive Ty where
  | int | bool | str | list | dict | tuple | own (C : Str) | exn (n : Str)
inductive Bi where
  | len | list | dict | tuple | sorted | min | max | int | any | all | str
  deriving DecidableEq
inductive Bm where
  | append | insert | pop | index | get | setdefault | split | join
  deriving DecidableEq

inductive Ex where
  | lit (v : V) | var (i : Nat) | glob (n : Str)
  | bin (op : Operator) (a b : Ex) | cmp (op : CmpOp) (a b : Ex) | not (a : Ex) | neg (a : Ex)
  | bop (op : BoolOp) (es : List Ex)
  | callf (f : Str) (es : List Ex) | newo (C : Str) (es : List Ex)
  | bi (b : Bi) (es : List Ex) | isi (a : Ex) (ts : List Ty) | bm (m : Bm) (o : Ex) (es : List Ex)
  | meth (o : Ex) (m : Str) (es : List Ex) | attr (o : Ex) (n : Str)
  | sub (o i : Ex) | slice (o lo hi : Ex)
  | list (es : List Ex) | tuple (es : List Ex) | dict0 | sdict (ks : List Str) (es : List Ex) | idict1 (k v : Ex)
  | comp (x : Nat) (src : Ex) (conds : List Ex) (elt : Ex)
  | range1 (b : Ex) | range2 (a b : Ex) | rev (a : Ex)

mutual
inductive St where
  | assign (i : Nat) (e : Ex) | setitem (o i e : Ex) | setattr (o : Ex) (n : Str) (e : Ex) | unpack2 (i j : Nat) (e : Ex)
  | expr (e : Ex) | ite (c : Ex) (a b : List St) | whil (c : Ex) (b : List St) | forr (i : Nat) (src : Ex) (b : List St)
  | ret (e : Ex) | raise (C : Str) (e : Ex) | tryx (b : List St) (hs : List Hd) | pass
inductive Hd where
  | mk (C : Str) (n : Option Nat) (b : List St)
end

inductive Out where
  | next | ret (v : V)

def dget {K : Type} [DecidableEq K] (d : List (K × V)) (k : K) : Option V := (d.find? fun kv => kv.1 = k).map (·.2)
/-- no list, tuple or dict is longer -/
def big : Nat := 8388608

/-! How the small values lie in the model's heap. -/
mutual
def RepV (h : Heap) : V → Value → Prop
  | .none, v => v = .none
  | .bool b, v => v = .bool b
  | .int i, v => ∃ t, v = .int i t
  | .str x, v => ∃ t, v = .str x t
  | .ref a, v => v = .ref a
  | .tup xs, v => ∃ a n items, v = .ref a ∧ h.get? a = some { cls := .type "tuple", data := .seq (List.toArray items) n } ∧ RepVs h xs items ∧ xs.length ≤ big
  | .exc C, v => ∃ a o, v = .ref a ∧ h.get? a = some o ∧ o.cls = .ref C ∧ ∃ fs, o.data = .fields fs
def RepVs (h : Heap) : List V → List Value → Prop
  | [], vs => vs = []
  | x :: xs, vs => ∃ v r, vs = v :: r ∧ RepV h x v ∧ RepVs h xs r
end

def RepF (h : Heap) : Option V → Option Value → Prop
  | some x, v => ∃ u, v = some u ∧ RepV h x u
  | none, v => v = none
def RepO (prog : Program) (w : World) (h : Heap) (a : Addr) : O → Prop
  | .list xs => ∃ n items, h.get? a = some { cls := .type "list", data := .seq (List.toArray items) n } ∧ RepVs h xs items ∧ xs.length ≤ big
  | .flist xs => ∃ items, h.IsList a (List.toArray items) ∧ RepVs h xs items ∧ xs.length ≤ big
  | .idict kvs ep => ∃ vs, h.DictAt (intKind prog w) a ((kvs.map (·.1)).zip vs) ep ∧ RepVs h (kvs.map (·.2)) vs ∧ kvs.length ≤ big ∧ a ≠ sysModules
  | .sdict kvs => ∃ m, h.Ns1 a m ∧ ∀ n, RepF h (dget kvs n) (m n)
  | .inst C d => ∃ o, h.get? a = some o ∧ o.cls = .ref C ∧ o.dict = some d ∧ o.data = .plain
end Mine

namespace Mine
open PySem PyProof.Rows

structure Ctx where
  prog : Program
  w : World
  base : Heap
  mg : Str → Option Value
  mb : Str → Option Value
  fa : Str → Option Addr
  cls : Str → Option Addr
  glob : Str → Option V
  meth : Addr → Str → Option Str
  attr : Addr → Str → Bool
  sub : Addr → Str → Bool

abbrev Ctx.M (X : Ctx) : Model := model X.prog X.w

def SameO (o o' : Obj) : Prop := o' = o ∨ ((∃ es ep, o.data = .dict es ep) ∧ o'.cls = o.cls ∧ o'.dict = o.dict ∧ o'.data = o.data)
theorem SameO.refl (o : Obj) : SameO o o := .inl rfl
theorem SameO.trans {a b c : Obj} (x : SameO a b) (y : SameO b c) : SameO a c := by
  rcases x with rfl | x
  · exact y
  · rcases y with rfl | y
    · exact .inr x
    · exact .inr ⟨x.1, y.2.1.trans x.2.1, y.2.2.1.trans x.2.2.1, y.2.2.2.trans x.2.2.2⟩
theorem SameO.data {o o' : Obj} (x : SameO o o') : o'.data = o.data := by rcases x with rfl | x; rfl; exact x.2.2.2
theorem SameO.eq {o o' : Obj} (x : SameO o o') (h : ∀ es ep, o.data ≠ .dict es ep) : o' = o := by
  rcases x with e | ⟨⟨es, ep, e⟩, _⟩
  · exact e
  · exact absurd e (h es ep)

def Kept (T : Addr → Prop) (h h' : Heap) : Prop := ∀ b o, h.get? b = some o → ¬ T b → ∃ o', h'.get? b = some o' ∧ SameO o o'
theorem Kept.of_keeps {T : Addr → Prop} {h h' : Heap} (k : ∀ b o, h.get? b = some o → h'.get? b = some o) : Kept T h h' := fun b o e _ => ⟨o, k b o e, .refl o⟩

structure Rel (X : Ctx) (ah : AH) (h : Heap) : Prop where
  base : ∀ b o, X.base.get? b = some o → h.get? b = some o
  rep : ∀ a o, ah a = some o → RepO X.prog X.w h a o
  own : ∀ a o, ah a = some o → (∃ xs, o = .flist xs) ∨ X.base.get? a = none

structure Step (X : Ctx) (ah : AH) (s : Shared) (ah' : AH) (s' : Shared) : Prop where
  rel : Rel X ah' s'.heap
  kept : Kept (fun b => ah b ≠ none) s.heap s'.heap
  fresh : ∀ b o, s.heap.get? b = some o → ah b = none → ah' b = none
  there : ∀ b o, s.heap.get? b = some o → ∃ o', s'.heap.get? b = some o'
  rest : s'.gens = s.gens ∧ s'.drawn = s.drawn ∧ s'.os = s.os

/-- what values lean on stays -/
def Lean (o : Obj) : Prop := (o.cls = .type "tuple" ∧ ∃ xs n, o.data = .seq xs n) ∨ ((∃ C, o.cls = .ref C) ∧ ∃ fs, o.data = .fields fs)
theorem Lean.notDict {o : Obj} (l : Lean o) : ∀ es ep, o.data ≠ .dict es ep := fun es ep e => by
  rcases l with ⟨_, xs, n, q⟩ | ⟨_, fs, q⟩ <;> rw [e] at q <;> cases q
theorem Lean.notCell {o : Obj} (l : Lean o) : ∀ v, o.data ≠ .cell v := fun v e => by
  rcases l with ⟨_, xs, n, q⟩ | ⟨_, fs, q⟩ <;> rw [e] at q <;> cases q
def VK (h h' : Heap) : Prop := ∀ b o, h.get? b = some o → Lean o → h'.get? b = some o
theorem VK.of_keeps {h h' : Heap} (k : ∀ b o, h.get? b = some o → h'.get? b = some o) : VK h h' := fun b o e _ => k b o e
theorem VK.refl (h : Heap) : VK h h := fun _ _ e _ => e
theorem VK.trans {a b c : Heap} (x : VK a b) (y : VK b c) : VK a c := fun d o e l => y d o (x d o e l) l

mutual
theorem RepV.mono {h h' : Heap} (k : VK h h') : ∀ {x : V} {v : Value}, RepV h x v → RepV h' x v
  | .none, _, r => r
  | .bool _, _, r => r
  | .int _, _, r => r
  | .str _, _, r => r
  | .ref _, _, r => r
  | .tup _, _, ⟨a, n, items, e, hg, r, z⟩ => ⟨a, n, items, e, k _ _ hg (.inl ⟨rfl, _, _, rfl⟩), RepVs.mono k r, z⟩
  | .exc C, _, ⟨a, o, e, hg, hc, hf⟩ => ⟨a, o, e, k a o hg (.inr ⟨⟨C, hc⟩, hf⟩), hc, hf⟩
theorem RepVs.mono {h h' : Heap} (k : VK h h') : ∀ {xs : List V} {vs : List Value}, RepVs h xs vs → RepVs h' xs vs
  | [], _, r => r
  | _ :: _, _, ⟨v, rr, e, r1, r2⟩ => ⟨v, rr, e, RepV.mono k r1, RepVs.mono k r2⟩
end

theorem RepF.mono {h h' : Heap} (k : VK h h') : ∀ {x : Option V} {v : Option Value}, RepF h x v → RepF h' x v
  | some x, v, ⟨u, e, r⟩ => ⟨u, e, r.mono k⟩
  | none, v, r => r
theorem RepVs.nil {h : Heap} : RepVs h [] [] := rfl
theorem RepVs.cons {h : Heap} {x v xs vs} (a : RepV h x v) (b : RepVs h xs vs) : RepVs h (x :: xs) (v :: vs) := ⟨v, vs, rfl, a, b⟩
theorem RepVs.length {h : Heap} : ∀ {xs : List V} {vs : List Value}, RepVs h xs vs → vs.length = xs.length
  | [], _, r => by cases r; rfl
  | _ :: _, _, ⟨_, _, e, _, r⟩ => by subst e; simp [RepVs.length r]
theorem RepVs.get {h : Heap} : ∀ {xs : List V} {vs : List Value}, RepVs h xs vs → ∀ {i : Nat} {x : V}, xs[i]? = some x → ∃ v, vs[i]? = some v ∧ RepV h x v
  | [], _, _, i, x, e => by simp at e
  | y :: ys, _, ⟨v, r, e, r1, r2⟩, 0, x, h => by subst e; simp at h; subst h; exact ⟨v, rfl, r1⟩
  | y :: ys, _, ⟨v, r, e, r1, r2⟩, i + 1, x, h => by subst e; simp at h; obtain ⟨u, a, b⟩ := RepVs.get r2 h; exact ⟨u, by simpa using a, b⟩
theorem RepVs.get' {h : Heap} : ∀ {xs : List V} {vs : List Value}, RepVs h xs vs → ∀ {i : Nat} {v : Value}, vs[i]? = some v → ∃ x, xs[i]? = some x ∧ RepV h x v
  | [], _, e, i, v, h => by cases e; simp at h
  | y :: ys, _, ⟨v, r, e, r1, r2⟩, 0, x, h => by subst e; simp at h; subst h; exact ⟨y, rfl, r1⟩
  | y :: ys, _, ⟨v, r, e, r1, r2⟩, i + 1, x, h => by subst e; simp at h; obtain ⟨u, a, b⟩ := RepVs.get' r2 h; exact ⟨u, by simpa using a, b⟩
theorem RepVs.append {h : Heap} : ∀ {xs : List V} {vs : List Value} {ys : List V} {us : List Value}, RepVs h xs vs → RepVs h ys us → RepVs h (xs ++ ys) (vs ++ us)
  | [], _, _, _, e, b => by cases e; exact b
  | x :: xs, _, _, _, ⟨v, r, e, r1, r2⟩, b => by subst e; exact ⟨v, r ++ _, rfl, r1, RepVs.append r2 b⟩
theorem RepVs.take {h : Heap} : ∀ (n : Nat) {xs : List V} {vs : List Value}, RepVs h xs vs → RepVs h (xs.take n) (vs.take n)
  | 0, _, _, _ => by simp [RepVs]
  | n + 1, [], _, e => by cases e; simp [RepVs]
  | n + 1, x :: xs, _, ⟨v, r, e, r1, r2⟩ => by subst e; exact ⟨v, r.take n, rfl, r1, RepVs.take n r2⟩
theorem RepVs.drop {h : Heap} : ∀ (n : Nat) {xs : List V} {vs : List Value}, RepVs h xs vs → RepVs h (xs.drop n) (vs.drop n)
  | 0, _, _, r => r
  | n + 1, [], _, e => by cases e; simp [RepVs]
  | n + 1, x :: xs, _, ⟨v, r, e, r1, r2⟩ => by subst e; exact RepVs.drop n r2
theorem RepVs.set {h : Heap} : ∀ (n : Nat) {xs : List V} {vs : List Value} {x : V} {v : Value}, RepVs h xs vs → RepV h x v → RepVs h (xs.set n x) (vs.set n v)
  | _, [], _, _, _, e, _ => by cases e; simp [RepVs]
  | 0, x :: xs, _, _, _, ⟨v, r, e, r1, r2⟩, b => by subst e; exact ⟨_, r, rfl, b, r2⟩
  | n + 1, x :: xs, _, _, _, ⟨v, r, e, r1, r2⟩, b => by subst e; exact ⟨v, r.set n _, rfl, r1, RepVs.set n r2 b⟩
theorem RepVs.reverse {h : Heap} : ∀ {xs : List V} {vs : List Value}, RepVs h xs vs → RepVs h xs.reverse vs.reverse
  | [], _, e => by cases e; simp [RepVs]
  | x :: xs, _, ⟨v, r, e, r1, r2⟩ => by subst e; rw [List.reverse_cons, List.reverse_cons]; exact RepVs.append (RepVs.reverse r2) (RepVs.cons r1 .nil)

theorem DictOf.at' {prog : Program} {w : World} {K : Type} [DecidableEq K] {knd : KeyKind prog w K} {h h' : Heap} {a : Addr} {kvs : List (K × Value)} (x : h.DictOf knd a kvs) (e : ∀ o, h.get? a = some o → h'.get? a = some o) : h'.DictOf knd a kvs :=
  let ⟨o, es, ep, ho, r⟩ := x; ⟨o, es, ep, e o ho, r⟩

section
variable {prog : Program} {w : World} {h h' : Heap} {a : Addr} {o : O}
theorem RepO.mono (r : RepO prog w h a o) (k : VK h h') (e : ∀ ob, h.get? a = some ob → h'.get? a = some ob) : RepO prog w h' a o := by
  cases o with
  | list xs => obtain ⟨n, items, hg, r, z⟩ := r; exact ⟨n, items, e _ hg, r.mono k, z⟩
  | flist xs => obtain ⟨items, ⟨ob, hg, hc⟩, r, z⟩ := r; exact ⟨items, ⟨ob, e _ hg, hc⟩, r.mono k, z⟩
  | idict kvs ep => obtain ⟨vs, hd, r, z⟩ := r; exact ⟨vs, hd.at' e, r.mono k, z⟩
  | sdict kvs => obtain ⟨m, hn, r⟩ := r; exact ⟨m, hn.at e, fun n => (r n).mono k⟩
  | inst C d => obtain ⟨ob, hg, r⟩ := r; exact ⟨ob, e _ hg, r⟩
theorem RepO.there (r : RepO prog w h a o) : ∃ ob, h.get? a = some ob ∧ ¬ Lean ob := by
  cases o with
  | list xs => obtain ⟨n, items, hg, r⟩ := r; exact ⟨_, hg, by unfold Lean; simp⟩
  | flist xs => obtain ⟨items, ⟨ob, hg, hc, n, hd⟩, r⟩ := r; exact ⟨ob, hg, by unfold Lean; simp [hc]⟩
  | idict kvs ep => obtain ⟨vs, ⟨ob, es, hg, ⟨hc, _⟩, _⟩, r⟩ := r; exact ⟨ob, hg, by unfold Lean; simp [hc]⟩
  | sdict kvs => obtain ⟨m, ⟨ob, es, ep, hg, hd, _⟩, r⟩ := r; exact ⟨ob, hg, fun l => l.notDict _ _ hd⟩
  | inst C d => obtain ⟨ob, hg, hc, hd, hp⟩ := r; exact ⟨ob, hg, by unfold Lean; simp [hc, hp]⟩
end

section
variable {X : Ctx} {ah ah' ah'' : AH} {s s' s'' : Shared}
theorem Rel.vk (r : Rel X ah s.heap) (k : Kept (fun b => ah b ≠ none) s.heap s'.heap) : VK s.heap s'.heap := fun b o e l => by
  have nt : ¬ ah b ≠ none := fun q => by
    cases hb : ah b with
    | none => exact q hb
    | some ob =>
      obtain ⟨o', e', nl⟩ := (r.rep b ob hb).there
      rw [e] at e'; cases e'; exact nl l
  obtain ⟨o', e', so⟩ := k b o e nt
  have : o' = o := so.eq l.notDict
  rw [← this]; exact e'
theorem Step.vk (r : Rel X ah s.heap) (t : Step X ah s ah' s') : VK s.heap s'.heap := r.vk t.kept
theorem Step.refl (r : Rel X ah s.heap) : Step X ah s ah s := ⟨r, fun _ o e _ => ⟨o, e, .refl o⟩, fun _ _ _ q => q, fun _ o e => ⟨o, e⟩, rfl, rfl, rfl⟩
theorem Step.trans (t : Step X ah s ah' s') (u : Step X ah' s' ah'' s'') : Step X ah s ah'' s'' :=
  ⟨u.rel, fun b o e n => by
      obtain ⟨o', e', so⟩ := t.kept b o e n
      have hn : ah b = none := Classical.byContradiction n
      obtain ⟨o'', e'', so'⟩ := u.kept b o' e' (by simpa using t.fresh b o e hn)
      exact ⟨o'', e'', so.trans so'⟩,
    fun b o e q => by
      obtain ⟨o', e', so⟩ := t.kept b o e (by simpa using q)
      exact u.fresh b o' e' (t.fresh b o e q),
    fun b o e => by obtain ⟨o', e'⟩ := t.there b o e; exact u.there b o' e',
    u.rest.1.trans t.rest.1, u.rest.2.1.trans t.rest.2.1, u.rest.2.2.trans t.rest.2.2⟩
/-- only new objects -/
theorem Step.keeps (r : Rel X ah s.heap) (k : ∀ b o, s.heap.get? b = some o → s'.heap.get? b = some o) (e : s'.gens = s.gens ∧ s'.drawn = s.drawn ∧ s'.os = s.os) : Step X ah s ah s' :=
  ⟨⟨fun b o q => k b o (r.base b o q), fun a o q => (r.rep a o q).mono (.of_keeps k) (fun ob => k a ob), r.own⟩, .of_keeps k, fun _ _ _ q => q, fun b o e => ⟨o, k b o e⟩, e⟩
theorem Step.new {a : Addr} {o : O} (r : Rel X ah s.heap) (k : ∀ b o, s.heap.get? b = some o → s'.heap.get? b = some o) (e : s'.gens = s.gens ∧ s'.drawn = s.drawn ∧ s'.os = s.os)
    (hn : s.heap.get? a = none) (ho : RepO X.prog X.w s'.heap a o) : Step X ah s (ah.put a o) s' :=
  ⟨⟨fun b o q => k b o (r.base b o q), fun b ob q => by
      unfold AH.put at q
      split at q
      · rename_i e; subst e; cases q; exact ho
      · exact (r.rep b ob q).mono (.of_keeps k) (fun ob => k b ob),
    fun b ob q => by
      unfold AH.put at q
      split at q
      · rename_i e; subst e
        cases hb : X.base.get? b with
        | none => exact .inr rfl
        | some x => rw [r.base b x hb] at hn; cases hn
      · exact r.own b ob q⟩, .of_keeps k, fun b o q q' => by
        unfold AH.put
        split
        · rename_i e; subst e; rw [hn] at q; cases q
        · exact q', fun b o e => ⟨o, k b o e⟩, e⟩
theorem Rel.none_of_new {a : Addr} (r : Rel X ah s.heap) (hn : s.heap.get? a = none) : ah a = none := by
  cases h : ah a with
  | none => rfl
  | some o => obtain ⟨ob, e, _⟩ := (r.rep a o h).there; rw [hn] at e; cases e
/-- one tracked object is changed -/
theorem Step.upd {a : Addr} {o o' : O} (r : Rel X ah s.heap) (ha : ah a = some o) (hf : ∀ xs, o ≠ .flist xs) (k : ∀ b, b ≠ a → ∀ ob, s.heap.get? b = some ob → s'.heap.get? b = some ob)
    (e : s'.gens = s.gens ∧ s'.drawn = s.drawn ∧ s'.os = s.os) (ho : RepO X.prog X.w s'.heap a o') : Step X ah s (ah.put a o') s' := by
  have nb : X.base.get? a = none := (r.own a o ha).resolve_left fun ⟨xs, q⟩ => hf xs q
  have vk : VK s.heap s'.heap := fun b ob q l => by
    refine k b (fun z => ?_) ob q
    subst z
    obtain ⟨o₂, e₂, nl⟩ := (r.rep b o ha).there
    rw [q] at e₂; cases e₂; exact nl l
  refine ⟨⟨fun b ob q => k b (fun z => by subst z; rw [nb] at q; cases q) ob (r.base b ob q), fun b ob q => ?_, fun b ob q => ?_⟩, fun b ob q n => ⟨ob, k b (fun z => ?_) ob q, .refl _⟩, fun b ob q n => ?_, fun b ob q => ?_, e⟩
  · unfold AH.put at q
    split at q
    · rename_i z; subst z; cases q; exact ho
    · rename_i z; exact (r.rep b ob q).mono vk (k b z)
  · unfold AH.put at q
    split at q
    · rename_i z; subst z; exact .inr nb
    · exact r.own b ob q
  · subst z; apply n; rw [ha]; exact fun q => by cases q
  · unfold AH.put
    split
    · rename_i z; subst z; rw [ha] at n; cases n
    · exact n
  · by_cases z : b = a
    · subst z; obtain ⟨ob', e', _⟩ := ho.there; exact ⟨ob', e'⟩
    · exact ⟨ob, k b z ob q⟩
end
end Mine

namespace Mine
open PySem PyProof.Rows

structure Cfg where
  k : Nat
  hd : Bool

structure OkA (c : Cfg) (A : Around) : Prop where
  handled : c.hd = true → A.handled = none
  depth : A.depth + c.k < 1000
  units : A.units + 10 * c.k < 9000

/-- an exception in flight (first make: none) -/
def Flight (X : Ctx) (A : Around) (e : Value) (C : Addr) (s : Shared) : Prop := False
def ExcPost (X : Ctx) (A : Around) (ah : AH) (s : Shared) (R : Addr → AH → Prop) (e : Value) (s' : Shared) : Prop :=
  ∃ C ah', Flight X A e C s' ∧ Step X ah s ah' s' ∧ R C ah'
def ValPost (X : Ctx) (ah : AH) (s : Shared) (Q : V → AH → Prop) (v : Value) (s' : Shared) : Prop :=
  ∃ x ah', RepV s'.heap x v ∧ Step X ah s ah' s' ∧ Q x ah'
def CallPost (X : Ctx) (A : Around) (ah : AH) (s : Shared) (Q : V → AH → Prop) (R : Addr → AH → Prop) (r : Result) (s' : Shared) : Prop :=
  match r with
  | .ok (.ret v) => ValPost X ah s Q v s'
  | .ok _ => False
  | .error e => ExcPost X A ah s R e s'

def Ctx.Call (X : Ctx) (k : Nat) (f : Str) (args : List V) (h : AH) (Q : V → AH → Prop) (R : Addr → AH → Prop) : Prop :=
  ∃ fa, X.fa f = some fa ∧ ∀ A s vals, OkA ⟨k, true⟩ A → Rel X h s.heap → RepVs s.heap args vals →
    codeAny X.M A (.call (.ref fa) ⟨vals, []⟩) (CallPost X A h s Q R) s

theorem Ctx.Call.mono {X : Ctx} {k f args h Q R Q' R'} (x : X.Call k f args h Q R) (hQ : ∀ v h', Q v h' → Q' v h') (hR : ∀ v h', R v h' → R' v h') : X.Call k f args h Q' R' := by
  obtain ⟨fa, e, x⟩ := x
  refine ⟨fa, e, fun A s vals oA r rv => codeAny_mono (x A s vals oA r rv) fun res s' y => ?_⟩
  cases res with
  | error e => obtain ⟨C, ah', a, b, c⟩ := y; exact ⟨C, ah', a, b, hR _ _ c⟩
  | ok fl =>
    cases fl with
    | ret v => obtain ⟨x, ah', a, b, c⟩ := y; exact ⟨x, ah', a, b, hQ _ _ c⟩
    | next => exact y
    | brk => exact y
    | cont => exact y

/-! plain helpers -/
def pyIdx {α : Type} (vs : List α) (k : Int) : Option α := if 0 ≤ k then vs[k.toNat]? else if 0 ≤ k + vs.length then vs[(k + vs.length).toNat]? else none
def clampI (k : Int) (n : Nat) : Nat := if k < 0 then (k + n).toNat else min k.toNat n
def loV : V → Nat → Option Nat
  | .none, _ => some 0
  | .int k, n => some (clampI k n)
  | _, _ => none
def hiV : V → Nat → Option Nat
  | .none, n => some n
  | .int k, n => some (clampI k n)
  | _, _ => none
def pySlice {α : Type} (vs : List α) (lo hi : V) : Option (List α) :=
  match loV lo vs.length, hiV hi vs.length with
  | some a, some b => some ((vs.take b).drop a)
  | _, _ => none

def eqL (f : V → V → Option Bool) : List V → List V → Option Bool
  | [], [] => some true
  | x :: xs, y :: ys => match f x y, eqL f xs ys with | some a, some b => some (a && b) | _, _ => none
  | _, _ => some false
def inL (f : V → V → Option Bool) (x : V) : List V → Option Bool
  | [] => some false
  | y :: ys => match f y x, inL f x ys with | some a, some b => some (a || b) | _, _ => none
def eqv (h : AH) : Nat → V → V → Option Bool
  | 0, _, _ => none
  | n + 1, x, y => match x, y with
    | .none, .none => some true
    | .bool a, .bool b => some (a == b)
    | .int a, .int b => some (a == b)
    | .str a, .str b => some (a == b)
    | .tup xs, .tup ys => eqL (eqv h n) xs ys
    | .ref a, .ref b => match h a, h b with
      | some (.list xs), some (.list ys) => if xs.length = ys.length then eqL (eqv h n) xs ys else some false
      | _, _ => none
    | _, _ => none

def truthV (h : AH) : V → Option Bool
  | .none => some false
  | .bool b => some b
  | .int i => some (i != 0)
  | .str x => none
  | .tup vs => some (!vs.isEmpty)
  | .ref a => match h a with
    | some (.list vs) => some (!vs.isEmpty)
    | some (.idict vs _) => some (!vs.isEmpty)
    | _ => none
  | .exc _ => none

def small : Nat := 1000000

def binop (op : Operator) (x y : V) (h : AH) (Q : V → AH → Prop) : Prop :=
  match op, x, y with
  | .Add, .int a, .int b => Q (.int (a + b)) h
  | .Sub, .int a, .int b => Q (.int (a - b)) h
  | .Mult, .int a, .int b => ((-(2 ^ 60) < a ∧ a < 2 ^ 60) ∨ (-(2 ^ 60) < b ∧ b < 2 ^ 60)) ∧ Q (.int (a * b)) h
  | .Mod, .int a, .int b => 0 < b ∧ Q (.int (a % b)) h
  | .FloorDiv, .int a, .int b => (0 < b ∧ b < 10 ^ 100) ∧ Q (.int (a / b)) h
  | .Pow, .int a, .int b => (0 ≤ a ∧ a ≤ 10 ∧ 0 ≤ b ∧ b ≤ 100) ∧ Q (.int (a ^ b.toNat)) h
  | .Add, .tup xs, .tup ys => (xs.length + ys.length ≤ small) ∧ Q (.tup (xs ++ ys)) h
  | .Add, .ref a, .ref b => match h a, h b with
    | some (.list xs), some (.list ys) => (xs.length + ys.length ≤ small) ∧ ∀ c, h c = none → Q (.ref c) (h.put c (.list (xs ++ ys)))
    | _, _ => False
  | _, _, _ => False

def ltV (x y : V) : Option Bool :=
  match x, y with
  | .int a, .int b => some (decide (a < b))
  | _, _ => none
def leV (x y : V) : Option Bool :=
  match x, y with
  | .int a, .int b => some (decide (a ≤ b))
  | _, _ => none
def isV (x y : V) : Option Bool :=
  match x, y with
  | .none, .none => some true
  | .bool a, .bool b => some (a == b)
  | .none, .ref _ | .none, .tup _ | .ref _, .none | .tup _, .none | .none, .bool _ | .bool _, .none | .str _, .none | .str _, .bool _ | .int _, .none => some false
  | _, _ => none
def inV (h : AH) (x y : V) : Option Bool :=
  match y with
  | .tup vs => inL (eqv h 8) x vs
  | .ref a => match h a with
    | some (.list vs) => inL (eqv h 8) x vs
    | some (.idict kvs _) => (match x with | .int k => some (dget kvs k).isSome | _ => none)
    | _ => none
  | _ => none
def cmpV (h : AH) (op : CmpOp) (x y : V) : Option Bool :=
  match op with
  | .Eq => eqv h 8 x y
  | .NotEq => (eqv h 8 x y).map (!·)
  | .Lt => ltV x y
  | .LtE => leV x y
  | .Gt => ltV y x
  | .GtE => leV y x
  | .Is => isV x y
  | .IsNot => (isV x y).map (!·)
  | .In => inV h x y
  | .NotIn => (inV h x y).map (!·)

def getV (h : AH) (x i : V) : Option V :=
  match x, i with
  | .tup vs, .int k => pyIdx vs k
  | .ref a, .int k => match h a with
    | some (.list vs) => pyIdx vs k
    | some (.flist vs) => pyIdx vs k
    | some (.idict d _) => dget d k
    | _ => none
  | _, _ => none

def sliceP (x lo hi : V) (h : AH) (Q : V → AH → Prop) : Prop :=
  match x with
  | .tup vs => match pySlice vs lo hi with | some r => Q (.tup r) h | none => False
  | .ref a => match h a with
    | some (.list vs) => (match pySlice vs lo hi with | some r => ∀ c, h c = none → Q (.ref c) (h.put c (.list r)) | none => False)
    | _ => False
  | _ => False

def lenV (h : AH) : V → Option Nat
  | .tup vs => some vs.length
  | .ref a => match h a with
    | some (.list vs) => some vs.length
    | some (.flist vs) => some vs.length
    | some (.idict d _) => some d.length
    | _ => none
  | _ => none
def newP (o : O) (h : AH) (Q : V → AH → Prop) : Prop := ∀ c, h c = none → Q (.ref c) (h.put c o)

def biP (b : Bi) (vs : List V) (h : AH) (Q : V → AH → Prop) : Prop :=
  match b, vs with
  | .len, [x] => (match lenV h x with | some n => Q (.int n) h | none => False)
  | .tuple, [x] => (match x with | .tup l => Q (.tup l) h | .ref a => (match h a with | some (.list l) => Q (.tup l) h | _ => False) | _ => False)
  | _, _ => False

def bmP (m : Bm) (x : V) (vs : List V) (h : AH) (Q : V → AH → Prop) : Prop :=
  match m, x, vs with
  | .append, .ref a, [v] => (match h a with | some (.list l) => l.length ≤ small ∧ Q .none (h.put a (.list (l ++ [v]))) | _ => False)
  | _, _, _ => False

def bmKind (m : Bm) (x : V) (h : AH) : Prop :=
  match x with
  | .ref a => match m with
    | .append | .insert | .pop | .index => (match h a with | some (.list _) => True | _ => False)
    | .get | .setdefault => (match h a with | some (.idict _ _) => True | _ => False)
    | _ => False
  | _ => False

def tyStr : Ty → Option String
  | .int => some "int" | .bool => some "bool" | .str => some "str" | .list => some "list" | .dict => some "dict" | .tuple => some "tuple" | _ => none
def tyN : Ty → Option Nat
  | .int => some 2 | .bool => some 1 | .str => some 3 | .list => some 4 | .dict => some 5 | .tuple => some 6 | _ => none
def kindO : Option O → Option Nat
  | some (.list _) => some 4
  | some (.idict _ _) => some 5
  | _ => none
def kindV (h : AH) : V → Option Nat
  | .none => some 0 | .bool _ => some 1 | .int _ => some 2 | .str _ => some 3 | .tup _ => some 6 | .ref a => kindO (h a) | .exc _ => none
def isiV (X : Ctx) (h : AH) (x : V) (t : Ty) : Option Bool := match kindV h x, tyN t with
  | some k, some n => some (k == n || (k == 1 && n == 2))
  | _, _ => none

structure Guard where
  ok : AH → Prop
def freeG : Guard := ⟨fun _ => True⟩
def atG (a : Addr) (o : O) : Guard := ⟨fun h => h a = some o⟩

def loopL (F : V → Fm → AH → (Out → Fm → AH → Prop) → Prop) (g : Guard) : List V → Fm → AH → (Out → Fm → AH → Prop) → Prop
  | [], fr, h, Q => g.ok h ∧ Q .next fr h
  | v :: vs, fr, h, Q => g.ok h ∧ F v fr h fun out fr' h' => match out with
    | .next => loopL F g vs fr' h' Q
    | .ret v => Q (.ret v) fr' h'
def srcP (Q : List V → Guard → AH → Prop) (h1 : AH) (x : V) : Prop :=
  match x with
  | .tup vs => Q vs freeG h1
  | .ref l => (match h1 l with
    | some (.list vs) => Q vs (atG l (.list vs)) h1
    | some (.idict d e) => Q (d.map fun kv => .int kv.1) (atG l (.idict d e)) h1
    | _ => False)
  | _ => False

abbrev RX := Addr → AH → Prop

mutual
def wpE (X : Ctx) (c : Cfg) (R : RX) : Ex → Fm → (V → AH → Prop) → AH → Prop
  | .lit v, fr, Q, h => Q v h
  | .var i, fr, Q, h => match fr[i]? with | some (some v) => Q v h | _ => False
  | .glob n, fr, Q, h => match X.glob n with | some v => Q v h | none => False
  | .bin op a b, fr, Q, h => wpE X c R a fr (fun x h1 => wpE X c R b fr (fun y h2 => binop op x y h2 Q) h1) h
  | .cmp op a b, fr, Q, h => wpE X c R a fr (fun x h1 => wpE X c R b fr (fun y h2 => match cmpV h2 op x y with | some r => Q (.bool r) h2 | none => False) h1) h
  | .not a, fr, Q, h => wpE X c R a fr (fun x h1 => match truthV h1 x with | some r => Q (.bool (!r)) h1 | none => False) h
  | .neg a, fr, Q, h => wpE X c R a fr (fun x h1 => match x with | .int i => Q (.int (-i)) h1 | _ => False) h
  | .bop op es, fr, Q, h => wpB X c R op es fr Q h
  | .callf f es, fr, Q, h => (X.fa f).isSome = true ∧ wpEs X c R es fr (fun vs h1 => c.hd = true ∧ ∃ k, c.k = k + 1 ∧ X.Call k f vs h1 Q R) h
  | .newo C es, fr, Q, h => False
  | .bi b es, fr, Q, h => wpEs X c R es fr (fun vs h1 => c.hd = true ∧ biP b vs h1 Q) h
  | .isi a ts, fr, Q, h => wpE X c R a fr (fun x h1 => match ts with | [t] => (match isiV X h1 x t with | some r => Q (.bool r) h1 | none => False) | _ => False) h
  | .bm m o es, fr, Q, h => wpE X c R o fr (fun x h1 => bmKind m x h1 ∧ wpEs X c R es fr (fun vs h2 => bmP m x vs h2 Q) h1) h
  | .meth o m es, fr, Q, h => False
  | .attr o n, fr, Q, h => False
  | .sub o i, fr, Q, h => wpE X c R o fr (fun x h1 => wpE X c R i fr (fun y h2 => match getV h2 x y with | some v => Q v h2 | none => False) h1) h
  | .slice o lo hi, fr, Q, h => wpE X c R o fr (fun x h1 => wpE X c R lo fr (fun y h2 => wpE X c R hi fr (fun z h3 => sliceP x y z h3 Q) h2) h1) h
  | .list es, fr, Q, h => wpEs X c R es fr (fun vs h1 => vs.length ≤ small ∧ newP (.list vs) h1 Q) h
  | .tuple es, fr, Q, h => wpEs X c R es fr (fun vs h1 => vs.length ≤ small ∧ Q (.tup vs) h1) h
  | .dict0, fr, Q, h => ∀ e, newP (.idict [] e) h Q
  | .sdict ks es, fr, Q, h => False
  | .idict1 k v, fr, Q, h => wpE X c R k fr (fun x h1 => wpE X c R v fr (fun y h2 => match x with | .int i => ∀ e, newP (.idict [(i, y)] e) h2 Q | _ => False) h1) h
  | .comp j src conds elt, fr, Q, h => False
  | .range1 _, _, _, _ => False
  | .range2 _ _, _, _, _ => False
  | .rev _, _, _, _ => False
def wpEs (X : Ctx) (c : Cfg) (R : RX) : List Ex → Fm → (List V → AH → Prop) → AH → Prop
  | [], fr, Q, h => Q [] h
  | e :: es, fr, Q, h => wpE X c R e fr (fun x h1 => wpEs X c R es fr (fun xs h2 => Q (x :: xs) h2) h1) h
def wpB (X : Ctx) (c : Cfg) (R : RX) (op : BoolOp) : List Ex → Fm → (V → AH → Prop) → AH → Prop
  | [], fr, Q, h => False
  | e :: es, fr, Q, h => wpE X c R e fr (fun x h1 => match es with
      | [] => Q x h1
      | _ :: _ => (match truthV h1 x with
        | some r => if r = (op == .Or) then Q x h1 else wpB X c R op es fr Q h1
        | none => False)) h
/-- conditions of a comprehension -/
def wpC (X : Ctx) (c : Cfg) (R : RX) : List Ex → Fm → (Bool → AH → Prop) → AH → Prop
  | [], fr, K, h => K true h
  | e :: es, fr, K, h => es = [] ∧ wpT X c R e (wpE X c R e fr) fr K h
/-- truth of a test -/
def wpT (X : Ctx) (c : Cfg) (R : RX) : Ex → ((V → AH → Prop) → AH → Prop) → Fm → (Bool → AH → Prop) → AH → Prop
  | .not a, _, fr, K, h => wpT X c R a (wpE X c R a fr) fr (fun b h1 => K (!b) h1) h
  | .bop op es, _, fr, K, h => wpTs X c R op es fr K h
  | .cmp op a b, _, fr, K, h => wpE X c R a fr (fun x h1 => wpE X c R b fr (fun y h2 => match cmpV h2 op x y with | some r => K r h2 | none => False) h1) h
  | e, whole, fr, K, h => whole (fun x h1 => match truthV h1 x with | some r => K r h1 | none => False) h
def wpTs (X : Ctx) (c : Cfg) (R : RX) (op : BoolOp) : List Ex → Fm → (Bool → AH → Prop) → AH → Prop
  | [], fr, K, h => K (op == .And) h
  | e :: es, fr, K, h => wpT X c R e (wpE X c R e fr) fr (fun b h1 => if b = (op == .Or) then K b h1 else wpTs X c R op es fr K h1) h
/-- what is looped over -/
def wpI (X : Ctx) (c : Cfg) (R : RX) : Ex → ((V → AH → Prop) → AH → Prop) → Fm → (List V → Guard → AH → Prop) → AH → Prop
  | .range1 b, _, fr, Q, h => wpE X c R b fr (fun y h1 => match y with
      | .int n => (0 ≤ n ∧ n ≤ small) ∧ Q ((List.range n.toNat).map fun i => .int (0 + (i : Nat))) freeG h1
      | _ => False) h
  | .range2 a b, _, fr, Q, h => wpE X c R a fr (fun x h1 => wpE X c R b fr (fun y h2 => match x, y with
      | .int m, .int n => (0 ≤ m ∧ m ≤ small ∧ 0 ≤ n ∧ n ≤ small) ∧ Q ((List.range (n - m).toNat).map fun i => .int (m + (i : Nat))) freeG h2
      | _, _ => False) h1) h
  | .rev a, _, fr, Q, h => wpE X c R a fr (fun x h1 => match x with
      | .ref l => (match h1 l with | some (.list vs) => Q vs.reverse (atG l (.list vs)) h1 | _ => False)
      | _ => False) h
  | e, whole, fr, Q, h => whole (fun x h1 => srcP Q h1 x) h
end
end Mine

namespace Mine
open PySem PyProof.Rows

abbrev RS := Addr → Fm → AH → Prop
abbrev QS := Out → Fm → AH → Prop

mutual
def wpS (X : Ctx) (c : Cfg) : St → QS → RS → Fm → AH → Prop
  | .assign i e, Q, R, fr, h => wpE X c (fun C h => R C fr h) e fr (fun v h1 => Q .next (fr.set i (some v)) h1) h
  | .setitem o i e, Q, R, fr, h => False
  | .setattr o n e, Q, R, fr, h => False
  | .unpack2 i j e, Q, R, fr, h => wpE X c (fun C h => R C fr h) e fr (fun v h1 => match v with
      | .tup [x, y] => c.hd = true ∧ Q .next ((fr.set i (some x)).set j (some y)) h1
      | _ => False) h
  | .expr e, Q, R, fr, h => wpE X c (fun C h => R C fr h) e fr (fun v h1 => Q .next fr h1) h
  | .ite e a b, Q, R, fr, h => wpT X c (fun C h => R C fr h) e (wpE X c (fun C h => R C fr h) e fr) fr (fun r h1 => if r = true then wpSs X c a Q R fr h1 else wpSs X c b Q R fr h1) h
  | .whil e b, Q, R, fr, h => False
  | .forr i src b, Q, R, fr, h => c.hd = true ∧ wpI X c (fun C h => R C fr h) src (wpE X c (fun C h => R C fr h) src fr) fr (fun vs g h1 =>
      loopL (fun v fr h K => wpSs X c b K R (fr.set i (some v)) h) g vs fr h1 Q) h
  | .ret e, Q, R, fr, h => wpE X c (fun C h => R C fr h) e fr (fun v h1 => Q (.ret v) fr h1) h
  | .raise C e, Q, R, fr, h => False
  | .tryx b hs, Q, R, fr, h => wpSs X c b Q (fun C fr1 h1 => wpH X c C hs Q R fr1 h1) fr h
  | .pass, Q, R, fr, h => Q .next fr h
def wpSs (X : Ctx) (c : Cfg) : List St → QS → RS → Fm → AH → Prop
  | [], Q, R, fr, h => Q .next fr h
  | s :: r, Q, R, fr, h => wpS X c s (fun out fr1 h1 => match out with | .next => wpSs X c r Q R fr1 h1 | .ret v => Q (.ret v) fr1 h1) R fr h
def wpH (X : Ctx) (c : Cfg) (C : Addr) : List Hd → QS → RS → Fm → AH → Prop
  | [], Q, R, fr, h => R C fr h
  | .mk D n b :: r, Q, R, fr, h => if X.sub C D = true then
      (match n with
        | none => wpSs X ⟨c.k, false⟩ b Q R fr h
        | some i => wpSs X ⟨c.k, false⟩ b (fun out fr1 h1 => Q out (fr1.set i none) h1) (fun _ _ _ => False) (fr.set i (some (.exc C))) h)
    else wpH X c C r Q R fr h
end

/-! frames -/
abbrev Slots := List (Str × Nat)
def RepOpt (h : Heap) : Option (Option V) → Option Value → Prop
  | some (some x), v => ∃ u, v = some u ∧ RepV h x u
  | some none, v => v = none
  | none, _ => True
theorem RepOpt.mono {h h' : Heap} (k : VK h h') : ∀ {x v}, RepOpt h x v → RepOpt h' x v
  | some (some x), v, ⟨u, e, r⟩ => ⟨u, e, r.mono k⟩
  | some none, v, r => r
  | none, _, _ => trivial

structure FRep (σ : Slots) (env : Env) (fr : Fm) (ah : AH) (h : Heap) : Prop where
  loc : ∀ n i, σ.lookup n = some i → env.kindOf n = some .local → ∃ m, h.Ns env.locals m ∧ RepOpt h fr[i]? (m n)
  cel : ∀ n i, σ.lookup n = some i → (env.kindOf n = some .cell ∨ env.kindOf n = some .free) → ∃ c v, env.cells.lookup n = some c ∧ h.IsCell c v ∧ RepOpt h fr[i]? v
  uloc : ah env.locals = none
  ucel : ∀ n c, env.cells.lookup n = some c → ah c = none
  tloc : ∃ o, h.get? env.locals = some o
  tcel : ∀ n c, env.cells.lookup n = some c → ∃ o, h.get? c = some o

theorem Ns.same {h h' : Heap} {a m} (hn : h.Ns a m) (e : ∀ o, h.get? a = some o → ∃ o', h'.get? a = some o' ∧ o'.data = o.data) : h'.Ns a m := by
  obtain ⟨o, es, ep, x, d, r⟩ := hn
  obtain ⟨o', x', d'⟩ := e o x
  exact ⟨o', es, ep, x', d'.trans d, r⟩
theorem IsCell.same {h h' : Heap} {a v} (hn : h.IsCell a v) (e : ∀ o, h.get? a = some o → ∃ o', h'.get? a = some o' ∧ o'.data = o.data) : h'.IsCell a v := by
  obtain ⟨o, x, d⟩ := hn
  obtain ⟨o', x', d'⟩ := e o x
  exact ⟨o', x', d'.trans d⟩

section
variable {X : Ctx} {ah ah' ah'' : AH} {s s' s'' : Shared} {σ : Slots} {env : Env} {fr fr' : Fm}
theorem Kept.data {T : Addr → Prop} {h h' : Heap} (k : Kept T h h') {b : Addr} (n : ¬ T b) : ∀ o, h.get? b = some o → ∃ o', h'.get? b = some o' ∧ o'.data = o.data := fun o e =>
  let ⟨o', a, b⟩ := k b o e n; ⟨o', a, b.data⟩
theorem Heap.Ns.there {h : Heap} {a m} (hn : h.Ns a m) : ∃ o, h.get? a = some o := let ⟨o, _, _, x, _⟩ := hn; ⟨o, x⟩
theorem Heap.IsCell.there {h : Heap} {a m} (hn : h.IsCell a m) : ∃ o, h.get? a = some o := let ⟨o, x, _⟩ := hn; ⟨o, x⟩

/-- a function's own frame: places that it may store to -/
structure SRep (σ : Slots) (env : Env) (fr : Fm) (ah : AH) (h : Heap) : Prop where
  ns : ∃ m, h.Ns env.locals m ∧ ∀ n i, σ.lookup n = some i → env.kindOf n = some .local → RepOpt h fr[i]? (m n)
  cs : ∃ cm : Str → Option Value, (∀ n c, env.cells.lookup n = some c → h.IsCell c (cm n)) ∧ ∀ n i, σ.lookup n = some i → env.kindOf n = some .cell → (∃ c, env.cells.lookup n = some c) ∧ RepOpt h fr[i]? (cm n)
  apart : env.cells.Pairwise fun x y => x.2 ≠ y.2
  above : ∀ n c, (n, c) ∈ env.cells → env.locals < c
  uloc : ah env.locals = none
  ucel : ∀ n c, env.cells.lookup n = some c → ah c = none
  kinds : ∀ n i, σ.lookup n = some i → env.kindOf n = some .local ∨ env.kindOf n = some .cell
  inj : ∀ n n' i, σ.lookup n = some i → σ.lookup n' = some i → n = n'

theorem SRep.frep {h : Heap} (x : SRep σ env fr ah h) : FRep σ env fr ah h :=
  ⟨fun n i hn hk => let ⟨m, a, b⟩ := x.ns; ⟨m, a, b n i hn hk⟩,
   fun n i hn hk => by
    obtain ⟨cm, a, b⟩ := x.cs
    rcases hk with hk | hk
    · obtain ⟨⟨c, hc⟩, r⟩ := b n i hn hk
      exact ⟨c, _, hc, a n c hc, r⟩
    · rcases x.kinds n i hn with q | q <;> rw [q] at hk <;> simp at hk,
   x.uloc, x.ucel, (let ⟨_, a, _⟩ := x.ns; Heap.Ns.there a), fun n c e => let ⟨_, a, _⟩ := x.cs; Heap.IsCell.there (a n c e)⟩

theorem SRep.step (r : Rel X ah s.heap) (x : SRep σ env fr ah s.heap) (t : Step X ah s ah' s') : SRep σ env fr ah' s'.heap := by
  have vk := t.vk r
  obtain ⟨m, hn, hm⟩ := x.ns
  obtain ⟨cm, hc, hcm⟩ := x.cs
  refine ⟨⟨m, Ns.same hn (t.kept.data (by simp [x.uloc])), fun n i a b => (hm n i a b).mono vk⟩,
    ⟨cm, fun n c a => IsCell.same (hc n c a) (t.kept.data (by simp [x.ucel n c a])), fun n i a b => ⟨(hcm n i a b).1, (hcm n i a b).2.mono vk⟩⟩, x.apart, x.above, ?_, ?_, x.kinds, x.inj⟩
  · obtain ⟨o, ho⟩ := Heap.Ns.there hn; exact t.fresh _ o ho x.uloc
  · intro n c a; obtain ⟨o, ho⟩ := Heap.IsCell.there (hc n c a); exact t.fresh _ o ho (x.ucel n c a)

theorem FRep.step (r : Rel X ah s.heap) (x : FRep σ env fr ah s.heap) (t : Step X ah s ah' s') : FRep σ env fr ah' s'.heap := by
  have vk := t.vk r
  refine ⟨fun n i a b => ?_, fun n i a b => ?_, ?_, ?_, ?_, ?_⟩
  · obtain ⟨m, hn, hm⟩ := x.loc n i a b
    exact ⟨m, Ns.same hn (t.kept.data (by simp [x.uloc])), hm.mono vk⟩
  · obtain ⟨c, v, e, hc, rv⟩ := x.cel n i a b
    exact ⟨c, v, e, IsCell.same hc (t.kept.data (by simp [x.ucel n c e])), rv.mono vk⟩
  · obtain ⟨o, ho⟩ := x.tloc; exact t.fresh _ o ho x.uloc
  · intro n c a; obtain ⟨o, ho⟩ := x.tcel n c a; exact t.fresh _ o ho (x.ucel n c a)
  · obtain ⟨o, ho⟩ := x.tloc; obtain ⟨o', a, _⟩ := t.kept _ o ho (by simp [x.uloc]); exact ⟨o', a⟩
  · intro n c a; obtain ⟨o, ho⟩ := x.tcel n c a; obtain ⟨o', a, _⟩ := t.kept _ o ho (by simp [x.ucel n c a]); exact ⟨o', a⟩
end

/-! the text against the small text -/
def biName : Bi → Str
  | .len => "len" | .list => "list" | .dict => "dict" | .tuple => "tuple" | .sorted => "sorted" | .min => "min" | .max => "max" | .int => "int" | .any => "any" | .all => "all" | .str => "str"
def bmName : Bm → Str
  | .append => "append" | .insert => "insert" | .pop => "pop" | .index => "index" | .get => "get" | .setdefault => "setdefault" | .split => "split" | .join => "join"
def isVar (sc : Scope) (n : Str) : Bool := match sc.names.lookup n with
  | some .local | some .cell | some .free => true
  | _ => false
def isGlob (sc : Scope) (n : Str) : Bool := sc.names.lookup n == some .globalImplicit
def tyName : Ty → Str
  | .int => "int" | .bool => "bool" | .str => "str" | .list => "list" | .dict => "dict" | .tuple => "tuple" | .own C => C | .exn C => C
def ckScope (sc : Scope) (x : Str) (j : Nat) (σ : Slots) (scp : Scope) : Bool :=
  scp.kind == .function && !scp.isGenerator && !scp.isCoroutine && scp.names.lookup x == some .local && !(σ.any fun p => p.2 == j) && (σ.lookup (".0" : Str)).isNone &&
  scp.names.all fun p => match p.2 with
    | .local => scp.names.lookup p.1 == some .local && (p.1 == x || p.1 == (".0" : Str))
    | .free => scp.names.lookup p.1 == some .free && sc.names.lookup p.1 == some .cell && !(p.1 == ("__classdict__" : Str))
    | .globalImplicit => scp.names.lookup p.1 == some .globalImplicit
    | _ => false
def litNone : Ex → Bool
  | .lit .none => true
  | _ => false

/-! one view of the text: no other match on the text stands below -/
structure Vw where
  tag : Nat := 0
  s : Str := ⟨#[]⟩
  b : Bool := false
  op : Operator := .Add
  cop : List CmpOp := []
  uop : UnaryOp := .Not
  bop : BoolOp := .And
  c : Const := .none
  es : List Expr := []
  l : Option Expr := none
  u : Option Expr := none
  gs : List Comprehension := []
  scp : Option Scope := none
  ln : Nat := 0
def vw : Expr → Vw
  | .Constant c _ _ => { tag := 1, c := c }
  | .Name n _ => { tag := 2, s := n }
  | .BinOp l o r _ => { tag := 3, op := o, es := [l, r] }
  | .Compare l os rs _ => { tag := 4, cop := os, es := l :: rs }
  | .UnaryOp o x _ => { tag := 5, uop := o, es := [x] }
  | .BoolOp o vs _ => { tag := 6, bop := o, es := vs }
  | .Attribute v n p => { tag := 9, s := n, es := [v], ln := p.endLine }
  | .Subscript v k _ => { tag := 10, es := [v, k] }
  | .Slice l u st _ => { tag := 11, l := l, u := u, b := st.isNone }
  | .List vs _ => { tag := 12, es := vs }
  | .Tuple vs _ _ => { tag := 13, es := vs }
  | .Dict ks vs _ => { tag := 14, b := ks.isEmpty && vs.isEmpty }
  | .ListComp el gs scp _ => { tag := 15, es := [el], gs := gs, scp := some scp }
  | .SetComp _ _ _ _ => { tag := 16 }
  | .DictComp _ _ _ _ _ => { tag := 16 }
  | .Starred _ _ => { tag := 17 }
  | .Set _ _ _ => { tag := 17 }
  | .Call g args kw p => { tag := 20, es := g :: args, b := kw.isEmpty, ln := p.line }
  | _ => {}
def plainE (e : Expr) : Bool := !((vw e).tag == 17) && !((vw e).tag == 11)
def isComp (e : Expr) : Bool := (vw e).tag == 15 || (vw e).tag == 16
def plainO (e : Expr) : Bool := !((vw e).tag == 20 && (vw e).b && (match (vw e).es with | [g] => (vw g).tag == 2 && (vw g).s == ("super" : Str) | _ => false))
theorem tg {a b : Nat} {P : Prop} (h : a = b) (n : Nat.beq a b = false) : P := by subst h; rw [Nat.beq_refl] at n; cases n
section
variable {e : Expr}
theorem vw1 (h : (vw e).tag = 1) : ∃ c k p, e = .Constant c k p := by cases e <;> first | exact ⟨_, _, _, rfl⟩ | exact tg h rfl
theorem vw2 (h : (vw e).tag = 2) : ∃ n p, e = .Name n p := by cases e <;> first | exact ⟨_, _, rfl⟩ | exact tg h rfl
theorem vw3 (h : (vw e).tag = 3) : ∃ l o r p, e = .BinOp l o r p := by cases e <;> first | exact ⟨_, _, _, _, rfl⟩ | exact tg h rfl
theorem vw4 (h : (vw e).tag = 4) : ∃ l o r p, e = .Compare l o r p := by cases e <;> first | exact ⟨_, _, _, _, rfl⟩ | exact tg h rfl
theorem vw5 (h : (vw e).tag = 5) : ∃ o x p, e = .UnaryOp o x p := by cases e <;> first | exact ⟨_, _, _, rfl⟩ | exact tg h rfl
theorem vw6 (h : (vw e).tag = 6) : ∃ o x p, e = .BoolOp o x p := by cases e <;> first | exact ⟨_, _, _, rfl⟩ | exact tg h rfl
theorem vw9 (h : (vw e).tag = 9) : ∃ o x p, e = .Attribute o x p := by cases e <;> first | exact ⟨_, _, _, rfl⟩ | exact tg h rfl
theorem vw10 (h : (vw e).tag = 10) : ∃ o x p, e = .Subscript o x p := by cases e <;> first | exact ⟨_, _, _, rfl⟩ | exact tg h rfl
theorem vw11 (h : (vw e).tag = 11) : ∃ l u st p, e = .Slice l u st p := by cases e <;> first | exact ⟨_, _, _, _, rfl⟩ | exact tg h rfl
theorem vw12 (h : (vw e).tag = 12) : ∃ o p, e = .List o p := by cases e <;> first | exact ⟨_, _, rfl⟩ | exact tg h rfl
theorem vw13 (h : (vw e).tag = 13) : ∃ o k p, e = .Tuple o k p := by cases e <;> first | exact ⟨_, _, _, rfl⟩ | exact tg h rfl
theorem vw14 (h : (vw e).tag = 14) : ∃ o k p, e = .Dict o k p := by cases e <;> first | exact ⟨_, _, _, rfl⟩ | exact tg h rfl
theorem vw15 (h : (vw e).tag = 15) : ∃ l gs scp p, e = .ListComp l gs scp p := by cases e <;> first | exact ⟨_, _, _, _, rfl⟩ | exact tg h rfl
theorem vw20 (h : (vw e).tag = 20) : ∃ g args kw p, e = .Call g args kw p := by cases e <;> first | exact ⟨_, _, _, _, rfl⟩ | exact tg h rfl
end
def ck1 (f : Expr → Bool) : List Expr → Bool
  | [x] => f x
  | _ => false
def ck2 (f g : Expr → Bool) : List Expr → Bool
  | [x, y] => f x && g y
  | _ => false
def ckCons (f : Expr → Bool) (g : List Expr → Bool) : List Expr → Bool
  | x :: xs => plainE x && f x && g xs
  | [] => false
def ckO (x : Ex) (f : Expr → Bool) : Option Expr → Bool
  | none => litNone x
  | some e => f e
def ckCall (k : Str → List Expr → Bool) : List Expr → Bool
  | g :: args => (vw g).tag == 2 && k (vw g).s args
  | [] => false
def ckMeth (k : Expr → Str → Nat → List Expr → Bool) : List Expr → Bool
  | g :: args => (vw g).tag == 9 && ck1 (fun v => k v (vw g).s (vw g).ln args) (vw g).es
  | [] => false
def ckGen (k : Str → Expr → List Expr → Bool) : List Comprehension → Bool
  | [g] => (vw g.target).tag == 2 && g.is_async == 0 && k (vw g.target).s g.iter g.ifs
  | _ => false
theorem ck1_el {f : Expr → Bool} {es : List Expr} (h : ck1 f es = true) : ∃ x, es = [x] ∧ f x = true := by
  match es, h with
  | [x], h => exact ⟨x, rfl, h⟩
theorem ck2_el {f g : Expr → Bool} {es : List Expr} (h : ck2 f g es = true) : ∃ x y, es = [x, y] ∧ f x = true ∧ g y = true := by
  match es, h with
  | [x, y], h => exact ⟨x, y, rfl, (Bool.and_eq_true _ _).mp h⟩
theorem ckCons_el {f : Expr → Bool} {g : List Expr → Bool} {es : List Expr} (h : ckCons f g es = true) : ∃ x xs, es = x :: xs ∧ (plainE x = true ∧ f x = true) ∧ g xs = true := by
  match es, h with
  | x :: xs, h => exact ⟨x, xs, rfl, (by have := (Bool.and_eq_true _ _).mp h; exact ⟨(Bool.and_eq_true _ _).mp this.1, this.2⟩)⟩
theorem ckCall_el {k : Str → List Expr → Bool} {es : List Expr} (h : ckCall k es = true) : ∃ n p args, es = .Name n p :: args ∧ k n args = true := by
  match es, h with
  | g :: args, h =>
    have h := (Bool.and_eq_true _ _).mp h
    obtain ⟨n, p, rfl⟩ := vw2 (beq_iff_eq.mp h.1)
    exact ⟨n, p, args, rfl, h.2⟩
theorem ckMeth_el {k : Expr → Str → Nat → List Expr → Bool} {es : List Expr} (h : ckMeth k es = true) : ∃ v n p args, es = .Attribute v n p :: args ∧ k v n p.endLine args = true := by
  match es, h with
  | g :: args, h =>
    have h := (Bool.and_eq_true _ _).mp h
    obtain ⟨v, n, p, rfl⟩ := vw9 (beq_iff_eq.mp h.1)
    exact ⟨v, n, p, args, rfl, h.2⟩
theorem ckGen_el {k : Str → Expr → List Expr → Bool} {gs : List Comprehension} (h : ckGen k gs = true) : ∃ x p it ifs, gs = [⟨.Name x p, it, ifs, 0⟩] ∧ k x it ifs = true := by
  match gs, h with
  | [⟨t, it, ifs, as⟩], h =>
    have h := (Bool.and_eq_true _ _).mp h
    have h1 := (Bool.and_eq_true _ _).mp h.1
    obtain ⟨n, p, e⟩ := vw2 (beq_iff_eq.mp h1.1)
    have e : t = _ := e
    subst e
    have e2 : as = 0 := beq_iff_eq.mp h1.2
    subst e2
    exact ⟨n, p, it, ifs, rfl, h.2⟩
def litC : V → Option Const
  | .none => some .none
  | .bool b => some (.bool b)
  | .int i => some (.int i)
  | .str s => some (.str s)
  | _ => none
def ckLit (v : V) (e : Expr) : Bool := (vw e).tag == 1 && litC v == some (vw e).c
def ckTy (sc : Scope) (t : Ty) (e : Expr) : Bool := (vw e).tag == 2 && (vw e).s == tyName t && isGlob sc (vw e).s
def ckTys (sc : Scope) : List Ty → Expr → Bool
  | [t], e => ckTy sc t e
  | _, _ => false

mutual
def ckE (sc : Scope) (σ : Slots) : Ex → Expr → Bool
  | .lit v, e => ckLit v e
  | .var i, e => (vw e).tag == 2 && σ.lookup (vw e).s == some i && isVar sc (vw e).s && !((vw e).s == ("__debug__" : Str)) && !((vw e).s == ("__classdict__" : Str))
  | .glob g, e => (vw e).tag == 2 && (vw e).s == g && isGlob sc (vw e).s && !((vw e).s == ("__debug__" : Str))
  | .bin op a b, e => (vw e).tag == 3 && (vw e).op == op && ck2 (ckE sc σ a) (ckE sc σ b) (vw e).es
  | .cmp op a b, e => (vw e).tag == 4 && (vw e).cop == [op] && ck2 (ckE sc σ a) (fun r => !behindInMarks op r && ckE sc σ b r) (vw e).es
  | .not a, e => (vw e).tag == 5 && (vw e).uop == .Not && ck1 (ckE sc σ a) (vw e).es
  | .neg a, e => (vw e).tag == 5 && (vw e).uop == .USub && ck1 (ckE sc σ a) (vw e).es
  | .bop op es, e => (vw e).tag == 6 && (vw e).bop == op && ckEs sc σ es (vw e).es
  | .callf f es, e => (vw e).tag == 20 && (vw e).b && ckCall (fun n args => n == f && isGlob sc n && !(n == ("__debug__" : Str)) && !(n == ("super" : Str)) && !(n.cps.contains 46) && ckEs sc σ es args) (vw e).es
  | .newo _ _, _ => false
  | .bi b es, e => (vw e).tag == 20 && (vw e).b && ckCall (fun n args => n == biName b && isGlob sc n && ckEs sc σ es args) (vw e).es
  | .isi a ts, e => (vw e).tag == 20 && (vw e).b && ckCall (fun n args => n == ("isinstance" : Str) && isGlob sc n && ck2 (fun x => plainE x && ckE sc σ a x) (fun t => ckTys sc ts t) args) (vw e).es
  | .bm m o es, e => (vw e).tag == 20 && (vw e).b && ckMeth (fun v n ln args => plainO v && n == bmName m && ln == (vw e).ln && decide (args.length < 29) && ckE sc σ o v && ckEs sc σ es args) (vw e).es
  | .meth _ _ _, _ => false
  | .attr _ _, _ => false
  | .sub o i, e => (vw e).tag == 10 && ck2 (ckE sc σ o) (fun k => plainE k && ckE sc σ i k) (vw e).es
  | .slice o lo hi, e => (vw e).tag == 10 && ck2 (ckE sc σ o) (fun k => (vw k).tag == 11 && (vw k).b && ckO lo (ckE sc σ lo) (vw k).l && ckO hi (ckE sc σ hi) (vw k).u) (vw e).es
  | .list es, e => (vw e).tag == 12 && ckEs sc σ es (vw e).es
  | .tuple es, e => (vw e).tag == 13 && ckEs sc σ es (vw e).es
  | .dict0, e => (vw e).tag == 14 && (vw e).b
  | .comp j src conds elt, e => (vw e).tag == 15 && (match (vw e).scp with
    | some scp => ckGen (fun x it ifs => false && ckScope sc x j σ scp && ckI sc σ src it (ckE sc σ src it) && ckEs scp ((x, j) :: σ) conds ifs && ck1 (ckE scp ((x, j) :: σ) elt) (vw e).es) (vw e).gs
    | none => false)
  | .sdict _ _, _ => false
  | .idict1 _ _, _ => false
  | .range1 _, _ => false
  | .range2 _ _, _ => false
  | .rev _, _ => false
def ckEs (sc : Scope) (σ : Slots) : List Ex → List Expr → Bool
  | [], es => es.isEmpty
  | x :: xs, es => ckCons (ckE sc σ x) (ckEs sc σ xs) es
def ckI (sc : Scope) (σ : Slots) : Ex → Expr → Bool → Bool
  | .range1 b, e, _ => (vw e).tag == 20 && (vw e).b && ckCall (fun n args => n == ("range" : Str) && isGlob sc n && ck1 (fun y => plainE y && ckE sc σ b y) args) (vw e).es
  | .range2 a b, e, _ => (vw e).tag == 20 && (vw e).b && ckCall (fun n args => n == ("range" : Str) && isGlob sc n && ck2 (fun x => plainE x && ckE sc σ a x) (fun y => plainE y && ckE sc σ b y) args) (vw e).es
  | .rev a, e, _ => (vw e).tag == 20 && (vw e).b && ckCall (fun n args => n == ("reversed" : Str) && isGlob sc n && ck1 (fun y => plainE y && ckE sc σ a y) args) (vw e).es
  | _, _, w => w
end
end Mine

namespace Mine
open PySem PyProof.Rows PySem.Calls

theorem rep_none {h : Heap} : RepV h .none .none := by simp [RepV]
theorem rep_bool {h : Heap} {b : Bool} : RepV h (.bool b) (.bool b) := by simp [RepV]
theorem rep_int {h : Heap} {i : Int} {t : Tok} : RepV h (.int i) (.int i t) := by simp [RepV]
theorem rep_str {h : Heap} {x : Str} {t : Tok} : RepV h (.str x) (.str x t) := by simp [RepV]
theorem rep_ref {h : Heap} {a : Addr} : RepV h (.ref a) (.ref a) := by simp [RepV]

structure EnvOk (sc : Scope) (env : Env) : Prop where
  kind : env.scope.kind = .function
  loc : ∀ n, sc.names.lookup n = some .local → env.kindOf n = some .local
  cf : ∀ n, sc.names.lookup n = some .cell ∨ sc.names.lookup n = some .free → env.kindOf n = some .cell ∨ env.kindOf n = some .free
  cell : ∀ n, sc.names.lookup n = some .cell → env.kindOf n = some .cell ∧ ∃ c, env.cells.lookup n = some c
  glob : ∀ n, sc.names.lookup n = some .globalImplicit → env.kindOf n = some .globalImplicit
  globals : env.globals = mainGlobals
  builtins : env.builtins = builtinsNs

structure In (X : Ctx) (c : Cfg) (sc : Scope) (σ : Slots) (env : Env) (fr : Fm) (A : Around) (ah : AH) (s : Shared) : Prop where
  a : OkA c A
  e : EnvOk sc env
  f : FRep σ env fr ah s.heap
  r : Rel X ah s.heap

section
variable {X : Ctx} {c : Cfg} {sc : Scope} {σ : Slots} {env : Env} {fr : Fm} {A : Around} {ah ah' ah'' : AH} {s s' s'' : Shared}
theorem In.step (x : In X c sc σ env fr A ah s) (t : Step X ah s ah' s') : In X c sc σ env fr A ah' s' := ⟨x.a, x.e, x.f.step x.r t, t.rel⟩

def BoolPost (X : Ctx) (ah : AH) (s : Shared) (K : Bool → AH → Prop) (b : Bool) (s' : Shared) : Prop := ∃ ah', Step X ah s ah' s' ∧ K b ah'
def ValsPost (X : Ctx) (ah : AH) (s : Shared) (Q : List V → AH → Prop) (vs : List Value) (s' : Shared) : Prop := ∃ xs ah', RepVs s'.heap xs vs ∧ Step X ah s ah' s' ∧ Q xs ah'
def UnitPost (X : Ctx) (ah : AH) (s : Shared) (Q : AH → Prop) (_ : Unit) (s' : Shared) : Prop := ∃ ah', Step X ah s ah' s' ∧ Q ah'

theorem ValPost.back {Q v} (t : Step X ah s ah' s') (p : ValPost X ah' s' Q v s'') : ValPost X ah s Q v s'' :=
  let ⟨x, h, a, b, q⟩ := p; ⟨x, h, a, t.trans b, q⟩
theorem ValsPost.back {Q v} (t : Step X ah s ah' s') (p : ValsPost X ah' s' Q v s'') : ValsPost X ah s Q v s'' :=
  let ⟨x, h, a, b, q⟩ := p; ⟨x, h, a, t.trans b, q⟩
theorem BoolPost.back {Q v} (t : Step X ah s ah' s') (p : BoolPost X ah' s' Q v s'') : BoolPost X ah s Q v s'' :=
  let ⟨h, b, q⟩ := p; ⟨h, t.trans b, q⟩
theorem UnitPost.back {Q v} (t : Step X ah s ah' s') (p : UnitPost X ah' s' Q v s'') : UnitPost X ah s Q v s'' :=
  let ⟨h, b, q⟩ := p; ⟨h, t.trans b, q⟩
theorem ExcPost.back {R e} (t : Step X ah s ah' s') (p : ExcPost X A ah' s' R e s'') : ExcPost X A ah s R e s'' :=
  let ⟨C, h, a, b, q⟩ := p; ⟨C, h, a, t.trans b, q⟩

theorem Step.toks (r : Rel X ah s.heap) (n : Nat) : Step X ah s ah { s with toks := n } := Step.keeps r (fun _ _ e => e) ⟨rfl, rfl, rfl⟩
/-- a value, no object changed -/
theorem ValPost.pure {Q : V → AH → Prop} {x v} (r : Rel X ah s.heap) (rv : RepV s.heap x v) (q : Q x ah) : ValPost X ah s Q v s := ⟨x, ah, rv, .refl r, q⟩
theorem ValPost.toks {Q : V → AH → Prop} {x v} {n : Nat} (r : Rel X ah s.heap) (rv : RepV s.heap x v) (q : Q x ah) : ValPost X ah s Q v { s with toks := n } := ⟨x, ah, rv, .toks r n, q⟩

variable {R : RX}
def SE (X : Ctx) (sc : Scope) (σ : Slots) (x : Ex) (e : PySem.Expr) : Prop :=
  ∀ c R fr Q h env A s, wpE X c R x fr Q h → In X c sc σ env fr A h s → wpAny X.M A (eval e env) (ValPost X h s Q) (ExcPost X A h s R) s
def SEs (X : Ctx) (sc : Scope) (σ : Slots) : List Ex → List PySem.Expr → Prop
  | [], [] => True
  | x :: xs, e :: es => SE X sc σ x e ∧ SEs X sc σ xs es
  | _, _ => False
def ST (X : Ctx) (sc : Scope) (σ : Slots) (x : Ex) (e : PySem.Expr) : Prop :=
  ∀ c R fr K h env A s, wpT X c R x (wpE X c R x fr) fr K h → In X c sc σ env fr A h s → wpAny X.M A (isTrue e env (eval e env)) (BoolPost X h s K) (ExcPost X A h s R) s

/-! plain leaves -/
theorem se_lit {v : V} {e : PySem.Expr} (ck : ckLit v e = true) : SE X sc σ (.lit v) e := by
  intro c R fr Q h env A s w i
  unfold wpE at w
  have ck := (Bool.and_eq_true _ _).mp ck
  obtain ⟨c, k, p, rfl⟩ := vw1 (beq_iff_eq.mp ck.1)
  have ck : litC v = some c := beq_iff_eq.mp ck.2
  cases v <;> cases ck
  · exact fun _ _ _ => ValPost.pure i.r rep_none w
  · exact fun _ _ _ => ValPost.pure i.r rep_bool w
  · exact fun _ _ _ => ValPost.toks i.r rep_int w
  · exact fun _ _ _ => ValPost.toks i.r rep_str w

theorem se_var {k : Nat} {n : Str} {pos : Pos} (hn : σ.lookup n = some k) (hv : isVar sc n = true) (hd : (n == ("__debug__" : Str)) = false) (hd' : (n == ("__classdict__" : Str)) = false) : SE X sc σ (.var k) (.Name n pos) := by
  intro c R fr Q h env A s w i
  unfold wpE at w
  split at w
  · rename_i v hv'
    refine wpAny_Name ?_ hd
    have hk : env.kindOf n = some .local ∨ (env.kindOf n = some .cell ∨ env.kindOf n = some .free) := by
      unfold isVar at hv
      split at hv
      · exact .inl (i.e.loc n (by assumption))
      · exact .inr (i.e.cf n (.inl (by assumption)))
      · exact .inr (i.e.cf n (.inr (by assumption)))
      · cases hv
    rcases hk with hk | hk
    · obtain ⟨m, hns, ro⟩ := i.f.loc n k hn hk
      rw [hv'] at ro
      obtain ⟨u, e, rv⟩ := ro
      exact wpAny_loadName_local i.e.kind hk hns e (ValPost.pure i.r rv w)
    · obtain ⟨cc, o, hc, hcell, ro⟩ := i.f.cel n k hn hk
      rw [hv'] at ro
      obtain ⟨u, e, rv⟩ := ro
      subst e
      rcases hk with hk | hk
      · exact wpAny_loadName_cell i.e.kind hk hc hcell (ValPost.pure i.r rv w)
      · exact wpAny_loadName_free i.e.kind hk hc hcell (ValPost.pure i.r rv w) hd'
  · exact w.elim
end
end Mine

namespace Mine
open PySem PyProof.Rows PySem.Calls

theorem big_size {n : Nat} (h : n ≤ big) : n ≤ sizeLine := by unfold big at h; rw [sizeLine_eq]; omega
theorem small_big {n : Nat} (h : n ≤ small) : n ≤ big := by unfold small at h; unfold big; omega
theorem big_fit {n : Nat} (h : n ≤ big) : (n : Int) < 2 ^ 63 := by unfold big at h; omega
theorem small_size {n : Nat} (h : n ≤ small) : n ≤ sizeLine := by unfold small at h; rw [sizeLine_eq]; omega

theorem bits_le {a : Int} (h : -(2 ^ 60) < a ∧ a < 2 ^ 60) : Builtin.Int.intBits a ≤ 64 := by
  unfold Builtin.Int.intBits
  split
  · omega
  · rename_i q
    have hne : a.natAbs ≠ 0 := by intro e; exact q (by have := Int.natAbs_eq_zero.mp e; simp [this])
    have : a.natAbs.log2 < 60 := (Nat.log2_lt hne).mpr (by omega)
    omega
theorem log_lt {b : Int} (h : 0 < b ∧ b < 10 ^ 100) : b.natAbs.log2 < 9000 := by
  have hne : b.natAbs ≠ 0 := by omega
  have h1 : (b.natAbs : Int) < 10 ^ 100 := by omega
  have h2 : b.natAbs < 10 ^ 100 := by exact_mod_cast h1
  have h3 : (10 : Nat) ^ 100 < 2 ^ 400 := by decide +kernel
  have : b.natAbs.log2 < 400 := (Nat.log2_lt hne).mpr (Nat.lt_trans h2 h3)
  omega

section
variable {X : Ctx} {c : Cfg} {sc : Scope} {σ : Slots} {env : Env} {fr : Fm} {A : Around} {h : AH} {s : Shared} {E : Value → Shared → Prop} {Q : V → AH → Prop} {K : Bool → AH → Prop}

/-- a new tracked object -/
theorem ValPost.new {o : O} {ob : Obj} (r : Rel X h s.heap) (hf : ob.isFreed = false) (ho : RepO X.prog X.w (s.heap.push ob) s.heap.objs.size o)
    (q : newP o h Q) : ValPost X h s Q (.ref s.heap.objs.size) { s with heap := s.heap.push ob } := by
  have hn : s.heap.get? s.heap.objs.size = none := by
    cases e : s.heap.get? s.heap.objs.size with
    | none => rfl
    | some o => exact absurd (Heap.lt_size e) (Nat.lt_irrefl _)
  exact ⟨_, _, rep_ref, Step.new r (fun b o e => Heap.get?_push_of_some _ e) ⟨rfl, rfl, rfl⟩ hn ho, q _ (r.none_of_new hn)⟩
theorem push_vk (hp : Heap) (ob : Obj) : VK hp (hp.push ob) := .of_keeps fun _ _ e => Heap.get?_push_of_some _ e
/-- a new tuple -/
theorem ValPost.tup {xs : List V} {vs : List Value} (r : Rel X h s.heap) (rv : RepVs s.heap xs vs) (z : xs.length ≤ big) (q : Q (.tup xs) h) :
    ValPost X h s Q (.ref s.heap.objs.size) { s with heap := s.heap.push { cls := .type "tuple", data := .seq vs.toArray } } :=
  ⟨_, _, by rw [RepV]; exact ⟨_, _, vs, rfl, Heap.get?_push_size _ rfl, rv.mono (push_vk _ _), z⟩, Step.keeps r (fun b o e => Heap.get?_push_of_some _ e) ⟨rfl, rfl, rfl⟩, q⟩

theorem binop_ok {op : Operator} {x y : V} {v u : Value} (r : Rel X h s.heap) (rx : RepV s.heap x v) (ry : RepV s.heap y u) (w : binop op x y h Q) :
    wpAny X.M A (binaryOp op v u) (ValPost X h s Q) E s := by
  unfold binop at w
  split at w
  · obtain ⟨t, rfl⟩ := by simpa [RepV] using rx
    obtain ⟨t', rfl⟩ := by simpa [RepV] using ry
    exact add_int (ValPost.toks r rep_int w)
  · obtain ⟨t, rfl⟩ := by simpa [RepV] using rx
    obtain ⟨t', rfl⟩ := by simpa [RepV] using ry
    exact sub_int (ValPost.toks r rep_int w)
  · obtain ⟨t, rfl⟩ := by simpa [RepV] using rx
    obtain ⟨t', rfl⟩ := by simpa [RepV] using ry
    refine mul_int (ValPost.toks r rep_int w.2) ?_
    rcases w.1 with q | q
    · exact .of_left (bits_le q)
    · exact .of_right (bits_le q)
  · obtain ⟨t, rfl⟩ := by simpa [RepV] using rx
    obtain ⟨t', rfl⟩ := by simpa [RepV] using ry
    refine mod_int (by omega) ?_
    rw [Int.fmod_eq_emod_of_nonneg _ (by omega)]
    exact ValPost.toks r rep_int w.2
  · obtain ⟨t, rfl⟩ := by simpa [RepV] using rx
    obtain ⟨t', rfl⟩ := by simpa [RepV] using ry
    refine floordiv_int (by omega) ?_ (.inl (PyProof.noPylong_of_log2 ?_))
    · rw [Int.fdiv_eq_ediv_of_nonneg _ (by omega)]
      exact ValPost.toks r rep_int w.2
    · exact log_lt w.1
  · obtain ⟨t, rfl⟩ := by simpa [RepV] using rx
    obtain ⟨t', rfl⟩ := by simpa [RepV] using ry
    exact pow_int_small (by omega) (by omega) (by omega) (ValPost.toks r rep_int w.2)
  · rename_i xs ys
    rw [RepV] at rx ry
    obtain ⟨a, n, items, rfl, ha, ra, za⟩ := rx
    obtain ⟨b, n', items', rfl, hb, rb, zb⟩ := ry
    have la := ra.length
    have lb := rb.length
    have hsz : items.length + items'.length ≤ sizeLine := by rw [la, lb]; exact small_size w.1
    by_cases hv : items = []
    · refine concat_meets ⟨_, ha, rfl⟩ ⟨_, hb, rfl⟩ noFill_tuple_add seq_tuple_add PySem.F.slot_tuple_add PySem.F.entry_tuple_add (PySem.F.args_tuple_add_2 _ _)
        (tuple_addW0 a b items.toArray items'.toArray n n' none none #[] #[] (by simp [hv])) ⟨ha, hb, ?_⟩
      subst hv
      cases xs with
      | nil => exact ValPost.pure r (by rw [RepV]; exact ⟨_, _, _, rfl, hb, rb, zb⟩) w.2
      | cons x xs => simp at la
    · by_cases hw : items' = []
      · refine concat_meets ⟨_, ha, rfl⟩ ⟨_, hb, rfl⟩ noFill_tuple_add seq_tuple_add PySem.F.slot_tuple_add PySem.F.entry_tuple_add (PySem.F.args_tuple_add_2 _ _)
          (tuple_addW1 a b items.toArray items'.toArray n n' none none #[] #[] (by simpa using hv) (by simp [hw])) ⟨ha, hb, ?_⟩
        subst hw
        cases ys with
        | nil => refine ValPost.pure r (x := .tup xs) (by rw [RepV]; exact ⟨_, _, _, rfl, ha, ra, za⟩) (by simpa using w.2)
        | cons x xs => simp at lb
      · refine concat_meets ⟨_, ha, rfl⟩ ⟨_, hb, rfl⟩ noFill_tuple_add seq_tuple_add PySem.F.slot_tuple_add PySem.F.entry_tuple_add (PySem.F.args_tuple_add_2 _ _)
          (tuple_addW2 a b items.toArray items'.toArray n n' none none #[] #[] (by simpa using hv) (by simpa using hw) (by simpa using hsz)) ⟨ha, hb, ?_⟩
        have e : items.toArray ++ items'.toArray = (items ++ items').toArray := by simp
        rw [e]
        exact ValPost.tup r (ra.append rb) (by simpa using small_big w.1) w.2
  · rename_i a b
    split at w
    · rename_i xs ys ha hb
      simp only [RepV] at rx ry
      subst rx ry
      obtain ⟨n, items, ha', ra, za⟩ := r.rep _ _ ha
      obtain ⟨n', items', hb', rb, zb⟩ := r.rep _ _ hb
      refine P.add_list ha' hb' ?_ (by simp only [List.size_toArray]; rw [ra.length, rb.length]; exact small_size w.1)
      have e : items.toArray ++ items'.toArray = (items ++ items').toArray := by simp
      rw [e]
      exact ValPost.new (o := .list (xs ++ ys)) r rfl ⟨_, _, Heap.get?_push_size _ rfl, (ra.append rb).mono (push_vk _ _), by simpa using small_big w.1⟩ w.2
    · exact w.elim
  · exact w.elim
end
end Mine

namespace Mine
open PySem PyProof.Rows PySem.Calls PySem.SeqAt

theorem EqAt.of_rc {A : Around} {s : Shared} {v u : Value} {b : Bool} (h : RcAt A s v u b) (hs : v = u → b = true) (hv : ∀ f t, v ≠ .float f t) : EqAt A s v u b := fun prog w E Q hq => by
  unfold eqBool
  refine wpAny_holding ?_
  refine wpAny_ite_split (fun hab => ?_) (fun _ => ?_)
  · rw [hs (eq_of_beq hab)] at hq
    exact wpAny_bind (wpAny_rule (wpAny_pure hq))
  · cases v <;> first | exact absurd rfl (hv _ _) | exact wpAny_bind (h prog w E _ (wpAny_truthy_bool hq))

def pairAt (f : V → V → Option Bool) (xs ys : List V) (j : Nat) : Bool := match xs[j]?, ys[j]? with
  | some x, some y => (f x y).getD false
  | _, _ => false
theorem pairAt_cons {f x xs y ys j} : pairAt f (x :: xs) (y :: ys) (j + 1) = pairAt f xs ys j := by simp [pairAt]
theorem pairAt_zero {f x xs y ys} : pairAt f (x :: xs) (y :: ys) 0 = (f x y).getD false := by simp [pairAt]

theorem eqL_spec {f : V → V → Option Bool} : ∀ {xs ys : List V} {b : Bool}, eqL f xs ys = some b →
    (∀ (j : Nat) x y, xs[j]? = some x → ys[j]? = some y → ∃ r, f x y = some r) ∧
    b = ((List.range (min xs.length ys.length)).all (pairAt f xs ys) && xs.length == ys.length)
  | [], [], b, h => by simp [eqL] at h; subst h; simp
  | [], y :: ys, b, h => by simp [eqL] at h; subst h; simp
  | x :: xs, [], b, h => by simp [eqL] at h; subst h; simp
  | x :: xs, y :: ys, b, h => by
    unfold eqL at h
    split at h
    · rename_i a c ha hc
      obtain ⟨i1, i2⟩ := eqL_spec hc
      cases h
      refine ⟨fun j x' y' hx hy => ?_, ?_⟩
      · cases j with
        | zero => simp at hx hy; subst hx hy; exact ⟨a, ha⟩
        | succ j => simp at hx hy; exact i1 j x' y' hx hy
      · rw [i2]
        simp only [List.length_cons, Nat.succ_min_succ, List.range_succ_eq_map, List.all_cons, List.all_map]
        simp [ha, Function.comp_def, Bool.and_assoc, pairAt_cons, pairAt_zero]
    · cases h

theorem inL_spec {f : V → V → Option Bool} {x : V} : ∀ {ys : List V} {b : Bool}, inL f x ys = some b →
    (∀ y, y ∈ ys → ∃ r, f y x = some r) ∧ b = ys.any (fun y => (f y x).getD false)
  | [], b, h => by simp [inL] at h; subst h; simp
  | y :: ys, b, h => by
    unfold inL at h
    split at h
    · rename_i a c ha hc
      obtain ⟨i1, i2⟩ := inL_spec hc
      cases h
      refine ⟨fun z hz => ?_, by simp [i2, ha]⟩
      rcases List.mem_cons.mp hz with rfl | hz
      · exact ⟨a, ha⟩
      · exact i1 z hz
    · cases h

mutual
theorem eqv_same {X : Ctx} {ah : AH} {hp : Heap} (r : Rel X ah hp) : ∀ (n : Nat) {x y : V} {v : Value} {b : Bool}, RepV hp x v → RepV hp y v → eqv ah n x y = some b → b = true
  | 0, x, y, v, b, _, _, h => by simp [eqv] at h
  | n + 1, x, y, v, b, rx, ry, h => by
    unfold eqv at h
    split at h <;> try (simp at h; done)
    · cases h; rfl
    · cases h; simp [RepV] at rx ry; rw [rx] at ry; cases ry; simp
    · cases h; simp [RepV] at rx ry; obtain ⟨t, rfl⟩ := rx; obtain ⟨t', q⟩ := ry; cases q; simp
    · cases h; simp [RepV] at rx ry; obtain ⟨t, rfl⟩ := rx; obtain ⟨t', q⟩ := ry; cases q; simp
    · rw [RepV] at rx ry
      obtain ⟨a, k, items, rfl, ha, ra, _⟩ := rx
      obtain ⟨a', k', items', q, ha', ra', _⟩ := ry
      cases q
      rw [ha] at ha'; cases ha'
      exact eqL_same r n ra ra' h
    all_goals try (simp only [RepV] at rx ry; first | (subst rx; first | (cases ry; done) | (obtain ⟨t, q⟩ := ry; cases q; done) | (obtain ⟨_, _, _, q, _⟩ := ry; cases q; done)) | (obtain ⟨t, rfl⟩ := rx; first | (cases ry; done) | (obtain ⟨t, q⟩ := ry; cases q; done) | (obtain ⟨_, _, _, q, _⟩ := ry; cases q; done)) | (obtain ⟨_, _, _, rfl, _⟩ := rx; first | (cases ry; done) | (obtain ⟨t, q⟩ := ry; cases q; done)))
    · simp only [RepV] at rx ry
      subst rx
      cases ry
      split at h
      · rename_i xs ys h1 h2
        rw [h1] at h2; cases h2
        rw [if_pos rfl] at h
        obtain ⟨k, items, _, ra, _⟩ := r.rep _ _ h1
        exact eqL_same r n ra ra h
      · cases h
theorem eqL_same {X : Ctx} {ah : AH} {hp : Heap} (r : Rel X ah hp) : ∀ (n : Nat) {xs ys : List V} {vs : List Value} {b : Bool}, RepVs hp xs vs → RepVs hp ys vs → eqL (eqv ah n) xs ys = some b → b = true
  | n, [], ys, vs, b, rx, ry, h => by
    cases rx
    cases ys with
    | nil => simp [eqL] at h; first | exact h | exact h.symm
    | cons y ys => obtain ⟨_, _, q, _⟩ := ry; cases q
  | n, x :: xs, ys, vs, b, rx, ry, h => by
    obtain ⟨v, us, rfl, r1, r2⟩ := rx
    cases ys with
    | nil => cases ry
    | cons y ys =>
      obtain ⟨v', us', q, r1', r2'⟩ := ry
      cases q
      unfold eqL at h
      split at h
      · rename_i a c ha hc
        cases h
        rw [eqv_same r n r1 r1' ha, eqL_same r n r2 r2' hc]; rfl
      · cases h
end
end Mine

namespace Mine
open PySem PyProof.Rows PySem.Calls PySem.SeqAt

theorem RepV.notFloat {h : Heap} {x : V} {v : Value} (r : RepV h x v) : ∀ f t, v ≠ .float f t := fun f t e => by
  subst e
  cases x <;> simp [RepV] at r

theorem isTuple_of {h : Heap} {a n} {items : List Value} (e : h.get? a = some { cls := .type "tuple", data := .seq items.toArray n }) : h.IsTuple a items.toArray := ⟨_, e, rfl, n, rfl⟩
theorem isList_of {h : Heap} {a n} {items : List Value} (e : h.get? a = some { cls := .type "list", data := .seq items.toArray n }) : h.IsList a items.toArray := ⟨_, e, rfl, n, rfl⟩

/-- the items of two readings: EqAt from eqv -/
theorem items_eqAt {A : Around} {s : Shared} {ah : AH} {n : Nat} {xs ys : List V} {vs us : List Value}
    (ih : ∀ {x y v u b}, RepV s.heap x v → RepV s.heap y u → eqv ah n x y = some b → EqAt A.in1 s v u b)
    (rx : RepVs s.heap xs vs) (ry : RepVs s.heap ys us) (hd : ∀ (j : Nat) x y, xs[j]? = some x → ys[j]? = some y → ∃ r, eqv ah n x y = some r) :
    ∀ j (h1 : j < vs.toArray.size) (h2 : j < us.toArray.size), EqAt A.in1 s vs.toArray[j] us.toArray[j] (pairAt (eqv ah n) xs ys j) := by
  intro j h1 h2
  have e1 : vs[j]? = some vs.toArray[j] := by simp at h1; simp [h1]
  have e2 : us[j]? = some us.toArray[j] := by simp at h2; simp [h2]
  obtain ⟨x, hx, r1⟩ := rx.get' e1
  obtain ⟨y, hy, r2⟩ := ry.get' e2
  obtain ⟨r, hr⟩ := hd j x y hx hy
  simp only [pairAt, hx, hy, hr, Option.getD_some]
  exact ih r1 r2 hr

theorem in1_units {A : Around} : A.in1.units = A.units + 1 := rfl

theorem eqv_rc {X : Ctx} {ah : AH} {s : Shared} (r : Rel X ah s.heap) : ∀ (n : Nat) {A : Around} {x y : V} {v u : Value} {b : Bool}, A.units + n < cLine → RepV s.heap x v → RepV s.heap y u → eqv ah n x y = some b → RcAt A s v u b
  | 0, A, x, y, v, u, b, _, _, _, h => by simp [eqv] at h
  | n + 1, A, x, y, v, u, b, hu, rx, ry, h => by
    have hu' : A.units < cLine := by omega
    have ih : ∀ {x y v u b}, RepV s.heap x v → RepV s.heap y u → eqv ah n x y = some b → EqAt A.in1 s v u b := fun r1 r2 e =>
      EqAt.of_rc (eqv_rc r n (by rw [in1_units]; omega) r1 r2 e) (fun q => by subst q; exact eqv_same r n r1 r2 e) r1.notFloat
    unfold eqv at h
    split at h <;> try (simp at h; done)
    · simp only [RepV] at rx ry; subst rx ry; cases h; exact RcAt.none_none
    · simp only [RepV] at rx ry; subst rx ry; cases h; exact RcAt.bool_bool _ _
    · simp only [RepV] at rx ry; obtain ⟨t, rfl⟩ := rx; obtain ⟨t', rfl⟩ := ry; cases h; exact RcAt.int_int _ _ _ _
    · simp only [RepV] at rx ry; obtain ⟨t, rfl⟩ := rx; obtain ⟨t', rfl⟩ := ry; cases h; exact RcAt.str_str _ _ _ _
    · rw [RepV] at rx ry
      obtain ⟨a, k, items, rfl, ha, ra, _⟩ := rx
      obtain ⟨a', k', items', rfl, ha', ra', _⟩ := ry
      obtain ⟨hd, hb⟩ := eqL_spec h
      have := RcAt.tuples (isTuple_of ha) (isTuple_of ha') hu' (items_eqAt ih ra ra' hd)
      rw [hb]
      simpa [ra.length, ra'.length] using this
    all_goals try (simp only [RepV] at rx ry)
    · subst rx ry
      split at h
      · rename_i xs ys h1 h2
        obtain ⟨k, items, ha, ra, _⟩ := r.rep _ _ h1
        obtain ⟨k', items', ha', ra', _⟩ := r.rep _ _ h2
        split at h
        · rename_i hl
          obtain ⟨hd, hb⟩ := eqL_spec h
          have := RcAt.lists (isList_of ha) (isList_of ha') (by simp [ra.length, ra'.length, hl]) hu' (items_eqAt ih ra ra' hd)
          rw [hb]
          simpa [ra.length, ra'.length, hl] using this
        · rename_i hl
          cases h
          exact RcAt.lists_lengths (isList_of ha) (isList_of ha') (by simp [ra.length, ra'.length, hl]) hu'
      · cases h

theorem eqv_rcne {X : Ctx} {ah : AH} {s : Shared} (r : Rel X ah s.heap) : ∀ (n : Nat) {A : Around} {x y : V} {v u : Value} {b : Bool}, A.units + n < cLine → RepV s.heap x v → RepV s.heap y u → eqv ah n x y = some b → RcNeAt A s v u (!b)
  | 0, A, x, y, v, u, b, _, _, _, h => by simp [eqv] at h
  | n + 1, A, x, y, v, u, b, hu, rx, ry, h => by
    have hu' : A.units < cLine := by omega
    have ih : ∀ {x y v u b}, RepV s.heap x v → RepV s.heap y u → eqv ah n x y = some b → EqAt A.in1 s v u b := fun r1 r2 e =>
      EqAt.of_rc (eqv_rc r n (by rw [in1_units]; omega) r1 r2 e) (fun q => by subst q; exact eqv_same r n r1 r2 e) r1.notFloat
    unfold eqv at h
    split at h <;> try (simp at h; done)
    · simp only [RepV] at rx ry; subst rx ry; cases h; exact RcNeAt.none_none
    · simp only [RepV] at rx ry; subst rx ry; cases h; exact RcNeAt.bool_bool _ _
    · simp only [RepV] at rx ry; obtain ⟨t, rfl⟩ := rx; obtain ⟨t', rfl⟩ := ry; cases h; exact RcNeAt.int_int _ _ _ _
    · simp only [RepV] at rx ry; obtain ⟨t, rfl⟩ := rx; obtain ⟨t', rfl⟩ := ry; cases h; exact RcNeAt.str_str _ _ _ _
    · rw [RepV] at rx ry
      obtain ⟨a, k, items, rfl, ha, ra, _⟩ := rx
      obtain ⟨a', k', items', rfl, ha', ra', _⟩ := ry
      obtain ⟨hd, hb⟩ := eqL_spec h
      have := RcNeAt.tuples (isTuple_of ha) (isTuple_of ha') hu' (items_eqAt ih ra ra' hd)
      rw [hb]
      simpa [ra.length, ra'.length] using this
    all_goals try (simp only [RepV] at rx ry)
    · subst rx ry
      split at h
      · rename_i xs ys h1 h2
        obtain ⟨k, items, ha, ra, _⟩ := r.rep _ _ h1
        obtain ⟨k', items', ha', ra', _⟩ := r.rep _ _ h2
        split at h
        · rename_i hl
          obtain ⟨hd, hb⟩ := eqL_spec h
          have := RcNeAt.lists (isList_of ha) (isList_of ha') (by simp [ra.length, ra'.length, hl]) hu' (items_eqAt ih ra ra' hd)
          rw [hb]
          simpa [ra.length, ra'.length, hl] using this
        · rename_i hl
          cases h
          exact RcNeAt.lists_lengths (isList_of ha) (isList_of ha') (by simp [ra.length, ra'.length, hl]) hu'
      · cases h
end Mine

namespace Mine
open PySem PyProof.Rows PySem.Calls PySem.SeqAt

section
variable {X : Ctx} {c : Cfg} {sc : Scope} {σ : Slots} {env : Env} {fr : Fm} {A : Around} {h : AH} {s : Shared} {E : Value → Shared → Prop} {Q : V → AH → Prop} {K : Bool → AH → Prop}

theorem isTup_of {h : Heap} {a n} {items : List Value} (e : h.get? a = some { cls := .type "tuple", data := .seq items.toArray n }) : IsTup h a items.toArray := ⟨_, e, rfl, n, rfl⟩
theorem BoolPost.toks {b : Bool} {n : Nat} (r : Rel X h s.heap) (q : K b h) : BoolPost X h s K b { s with toks := n } := ⟨h, .toks r n, q⟩
theorem BoolPost.pure {b : Bool} (r : Rel X h s.heap) (q : K b h) : BoolPost X h s K b s := ⟨h, .refl r, q⟩
theorem ne_sys {a : Addr} (h : a ≠ sysModules) : (a == sysModules) = false := by simpa using h

theorem truth_ok {x : V} {v : Value} (r : Rel X h s.heap) (rx : RepV s.heap x v) (w : match truthV h x with | some b => K b h | none => False) :
    wpAny X.M A (truthy v) (BoolPost X h s K) E s := by
  cases x with
  | none => simp only [RepV] at rx; subst rx; simp only [truthV] at w; exact truthy_none (.pure r w)
  | bool b => simp only [RepV] at rx; subst rx; simp only [truthV] at w; exact wpAny_truthy_bool (.pure r w)
  | int i => simp only [RepV] at rx; obtain ⟨t, rfl⟩ := rx; simp only [truthV] at w; exact PyProof.Rows.truthy_int (.pure r w)
  | str x => exact w.elim
  | tup xs =>
    rw [RepV] at rx
    obtain ⟨a, n, items, rfl, ha, ra, z⟩ := rx
    simp only [truthV] at w
    have e : (!items.toArray.isEmpty) = !xs.isEmpty := by
      have := ra.length
      cases items <;> cases xs <;> simp_all
    refine truthy_tuple (isTup_of ha) (by rw [List.size_toArray, ra.length]; exact big_fit z) ?_
    rw [e]; exact .toks r w
  | exc C => exact w.elim
  | ref a =>
    simp only [RepV] at rx; subst rx
    simp only [truthV] at w
    split at w
    · rename_i b hb
      split at hb
      · rename_i vs ha
        obtain ⟨n, items, ha', ra, z⟩ := r.rep _ _ ha
        have e : (!items.toArray.isEmpty) = !vs.isEmpty := by
          have := ra.length
          cases items <;> cases vs <;> simp_all
        refine wpAny_truthy_list (isList_of ha') (by rw [List.size_toArray, ra.length]; exact big_fit z) ?_
        rw [e]; cases hb; exact .toks r w
      · rename_i vs ep ha
        obtain ⟨us, hd, ra, z, ns⟩ := r.rep _ _ ha
        have l := ra.length
        simp only [List.length_map] at l
        have l2 : ((vs.map (·.1)).zip us).length = vs.length := by simp [l]
        have e : (!((vs.map (·.1)).zip us).isEmpty) = !vs.isEmpty := by
          cases vs <;> cases us <;> simp_all
        refine wpAny_truthy_dict (ne_sys ns) hd.dictOf (by rw [l2]; exact big_fit z) ?_
        rw [e]; cases hb; exact .toks r w
      · cases hb
    · exact w.elim

theorem valueAt_dget {K : Type} [DecidableEq K] {hp : Heap} : ∀ {kvs : List (K × V)} {us : List Value} {k : K}, RepVs hp (kvs.map (·.2)) us →
    (∀ x, dget kvs k = some x → ∃ u, valueAt ((kvs.map (·.1)).zip us) k = some u ∧ RepV hp x u) ∧ (dget kvs k = none → valueAt ((kvs.map (·.1)).zip us) k = none)
  | [], us, k, r => by cases r; simp [dget, valueAt]
  | (k', x) :: kvs, us, k, r => by
    obtain ⟨u, rest, rfl, r1, r2⟩ := r
    obtain ⟨i1, i2⟩ := valueAt_dget (k := k) r2
    by_cases hk : k' = k
    · subst hk
      simp [dget, valueAt]
      exact r1
    · have e1 : dget ((k', x) :: kvs) k = dget kvs k := by simp [dget, hk]
      have e2 : valueAt ((((k', x) :: kvs).map (·.1)).zip (u :: rest)) k = valueAt ((kvs.map (·.1)).zip rest) k := by simp [valueAt, hk]
      rw [e1, e2]; exact ⟨i1, i2⟩

theorem pyIdx_get {hp : Heap} {xs : List V} {items : List Value} {k : Int} {x : V} (ra : RepVs hp xs items) (e : pyIdx xs k = some x) :
    ∃ j u, seqIndex? k items.length = some j ∧ items[j]? = some u ∧ RepV hp x u ∧ ((0 ≤ k ∧ j = k.toNat) ∨ (k < 0 ∧ -(items.length : Int) ≤ k ∧ j = (k + items.length).toNat)) := by
  have l := ra.length
  unfold pyIdx at e
  split at e
  · rename_i h0
    obtain ⟨u, hu, ru⟩ := ra.get e
    have hlt : k.toNat < items.length := (List.getElem?_eq_some_iff.mp hu).1
    exact ⟨k.toNat, u, seqIndex_of h0 (by omega), hu, ru, .inl ⟨h0, rfl⟩⟩
  · split at e
    · rename_i h0 h1
      rw [← l] at e
      obtain ⟨u, hu, ru⟩ := ra.get e
      exact ⟨(k + items.length).toNat, u, seqIndex_neg (by omega) (by omega), hu, ru, .inr ⟨by omega, by omega, rfl⟩⟩
    · cases e

theorem get_list {a : Addr} {xs : List V} {items : List Value} {k : Int} {t : Tok} {x : V} (r : Rel X h s.heap) (hl : s.heap.IsList a items.toArray) (ra : RepVs s.heap xs items) (z : xs.length ≤ big)
    (e : pyIdx xs k = some x) (q : Q x h) : wpAny X.M A (getItem (.ref a) (.int k t)) (ValPost X h s Q) E s := by
  have l := ra.length
  obtain ⟨j, u, _, hu, ru, hc⟩ := pyIdx_get ra e
  have hj : j < items.length := (List.getElem?_eq_some_iff.mp hu).1
  unfold big at z
  rcases hc with ⟨h0, rfl⟩ | ⟨h0, h1, rfl⟩
  · exact wpAny_getItem_list hl h0 (by omega) (by simpa using hu) (.pure r ru q)
  · exact wpAny_getItem_list_neg hl h0 (by simpa using h1) (by omega) (by simpa using hu) (.pure r ru q)

theorem getV_ok {x i v : V} {vx vi : Value} (r : Rel X h s.heap) (rx : RepV s.heap x vx) (ri : RepV s.heap i vi) (e : getV h x i = some v) (q : Q v h) :
    wpAny X.M A (getItem vx vi) (ValPost X h s Q) E s := by
  unfold getV at e
  split at e
  · rw [RepV] at rx
    obtain ⟨a, n, items, rfl, ha, ra, z⟩ := rx
    simp only [RepV] at ri; obtain ⟨t, rfl⟩ := ri
    obtain ⟨j, u, hj, hu, ru, hc⟩ := pyIdx_get ra e
    have hlt : j < items.length := (List.getElem?_eq_some_iff.mp hu).1
    have l := ra.length
    unfold big at z
    exact getItem_tuple (isTup_of ha) (by omega) (by omega) (by simpa using hj) (by simpa using hu) (.pure r ru q)
  · simp only [RepV] at rx ri; subst rx; obtain ⟨t, rfl⟩ := ri
    split at e
    · rename_i xs ha
      obtain ⟨n, items, ha', ra, z⟩ := r.rep _ _ ha
      exact get_list r (isList_of ha') ra z e q
    · rename_i xs ha
      obtain ⟨items, ha', ra, z⟩ := r.rep _ _ ha
      exact get_list r ha' ra z e q
    · rename_i d ha
      obtain ⟨us, hd, ra, z, ns⟩ := r.rep _ _ ha
      obtain ⟨u, hu, ru⟩ := (valueAt_dget ra).1 _ e
      exact wpAny_getItem_of (knd := intKind X.prog X.w) (intKind_is X.prog X.w _ _) hd.dictOf.mapOf hu (.toks r ru q)
    · cases e
  · cases e

theorem lt_ok {x y : V} {v u : Value} {b : Bool} (r : Rel X h s.heap) (rx : RepV s.heap x v) (ry : RepV s.heap y u) (e : ltV x y = some b) (hu : A.units + 20 < cLine) :
    (∀ P : Value → Shared → Prop, P (.bool b) s → wpAny X.M A (compareOp .Lt v u) P E s) ∧ ∀ P : Value → Shared → Prop, P (.bool b) s → wpAny X.M A (compareOp .Gt u v) P E s := by
  unfold ltV at e
  split at e
  · simp only [RepV] at rx ry; obtain ⟨t, rfl⟩ := rx; obtain ⟨t', rfl⟩ := ry
    cases e
    exact ⟨fun P q => lt_int q, fun P q => gt_int q⟩
  · cases e
theorem le_ok {x y : V} {v u : Value} {b : Bool} (r : Rel X h s.heap) (rx : RepV s.heap x v) (ry : RepV s.heap y u) (e : leV x y = some b) :
    (∀ P : Value → Shared → Prop, P (.bool b) s → wpAny X.M A (compareOp .LtE v u) P E s) ∧ ∀ P : Value → Shared → Prop, P (.bool b) s → wpAny X.M A (compareOp .GtE u v) P E s := by
  unfold leV at e
  split at e
  · simp only [RepV] at rx ry; obtain ⟨t, rfl⟩ := rx; obtain ⟨t', rfl⟩ := ry
    cases e
    exact ⟨fun P q => le_int q, fun P q => ge_int q⟩
  · cases e

theorem is_plain {v u : Value} (hp : plainIs v u = true) : (∀ P : Value → Shared → Prop, P (.bool (v == u)) s → wpAny X.M A (compareOp .Is v u) P E s) ∧ ∀ P : Value → Shared → Prop, P (.bool (!(v == u))) s → wpAny X.M A (compareOp .IsNot v u) P E s :=
  ⟨fun P q => by show wpAny _ _ (do return .bool (← isSame v u)) P E s; exact wpAny_bind (wpAny_isSame_plain hp (wpAny_pure q)),
   fun P q => by show wpAny _ _ (do return .bool (!(← isSame v u))) P E s; exact wpAny_bind (wpAny_isSame_plain hp (wpAny_pure q))⟩
theorem is_false {v u : Value} (hp : plainIs v u = true) (hne : (v == u) = false) : (∀ P : Value → Shared → Prop, P (.bool false) s → wpAny X.M A (compareOp .Is v u) P E s) ∧ ∀ P : Value → Shared → Prop, P (.bool (!false)) s → wpAny X.M A (compareOp .IsNot v u) P E s := by
  have := is_plain (X := X) (A := A) (s := s) (E := E) hp
  rw [hne] at this; exact this
theorem is_ok {x y : V} {v u : Value} {b : Bool} (rx : RepV s.heap x v) (ry : RepV s.heap y u) (e : isV x y = some b) :
    (∀ P : Value → Shared → Prop, P (.bool b) s → wpAny X.M A (compareOp .Is v u) P E s) ∧ ∀ P : Value → Shared → Prop, P (.bool (!b)) s → wpAny X.M A (compareOp .IsNot v u) P E s := by
  unfold isV at e
  split at e <;> try simp only [RepV] at rx ry
  · subst rx ry; cases e; exact is_plain (v := .none) (u := .none) rfl
  · rename_i a b'; subst rx ry; cases e
    have e2 : ((Value.bool a) == (Value.bool b')) = (a == b') := by cases a <;> cases b' <;> decide
    rw [← e2]; exact is_plain rfl
  · subst rx ry; cases e; exact is_false rfl (by first | rfl | simp)
  · subst rx; obtain ⟨a, n, items, rfl, _⟩ := ry; cases e; exact is_false rfl (by first | rfl | simp)
  · subst rx ry; cases e; exact is_false rfl (by first | rfl | simp)
  · subst ry; obtain ⟨a, n, items, rfl, _⟩ := rx; cases e; exact is_false rfl (by first | rfl | simp)
  · subst rx ry; cases e; exact is_false rfl (by first | rfl | simp)
  · subst rx ry; cases e; exact is_false rfl (by first | rfl | simp)
  · subst ry; obtain ⟨t, rfl⟩ := rx; cases e; exact is_false rfl (by first | rfl | simp)
  · subst ry; obtain ⟨t, rfl⟩ := rx; cases e; exact is_false rfl (by first | rfl | simp)
  · subst ry; obtain ⟨t, rfl⟩ := rx; cases e; exact is_false rfl (by first | rfl | simp)
  · cases e

theorem items_in {x : V} {u : Value} {xs : List V} {vs : List Value} {b : Bool} (r : Rel X h s.heap) (hu : A.units + 20 < cLine) (rx : RepV s.heap x u) (ra : RepVs s.heap xs vs) (e : inL (eqv h 8) x xs = some b) :
    ∃ f : Value → Bool, (∀ y, y ∈ vs.toArray → EqAt A.in1 s y u (f y)) ∧ vs.toArray.any f = b := by
  classical
  obtain ⟨hd, hb⟩ := inL_spec e
  have key : ∀ v ∈ vs, ∃ y ∈ xs, RepV s.heap y v := fun v hv => by
    obtain ⟨i, hi⟩ := List.getElem?_of_mem hv
    obtain ⟨y, hy, ry⟩ := ra.get' hi
    exact ⟨y, List.mem_of_getElem? hy, ry⟩
  have one : ∀ y v, y ∈ xs → RepV s.heap y v → ∃ q, eqv h 8 y x = some q ∧ EqAt A.in1 s v u q := fun y v hy rv => by
    obtain ⟨q, hq⟩ := hd y hy
    exact ⟨q, hq, EqAt.of_rc (eqv_rc r 8 (by rw [in1_units]; omega) rv rx hq) (fun z => by subst z; exact eqv_same r 8 rv rx hq) rv.notFloat⟩
  refine ⟨fun v => decide (∃ y ∈ xs, RepV s.heap y v ∧ eqv h 8 y x = some true), fun v hv => ?_, ?_⟩
  · obtain ⟨y, hy, ry⟩ := key v (by simpa using hv)
    obtain ⟨q, hq, eq⟩ := one y v hy ry
    dsimp only
    by_cases hex : ∃ y ∈ xs, RepV s.heap y v ∧ eqv h 8 y x = some true
    · rw [decide_eq_true hex]
      obtain ⟨y', hy', ry', hq'⟩ := hex
      obtain ⟨q', hq'', eq'⟩ := one y' v hy' ry'
      rw [hq'] at hq''; cases hq''; exact eq'
    · rw [decide_eq_false hex]
      cases q with
      | false => exact eq
      | true => exact absurd ⟨y, hy, ry, hq⟩ hex
  · rw [hb, Bool.eq_iff_iff]
    simp only [List.any_toArray, List.any_eq_true, decide_eq_true_eq]
    constructor
    · rintro ⟨v, hv, y, hy, ry, e⟩
      exact ⟨y, hy, by rw [e]; rfl⟩
    · rintro ⟨y, hy, e⟩
      obtain ⟨i, hi⟩ := List.getElem?_of_mem hy
      obtain ⟨v, hv, rv⟩ := ra.get hi
      obtain ⟨q, hq⟩ := hd y hy
      rw [hq] at e
      exact ⟨v, List.mem_of_getElem? hv, y, hy, rv, by rw [hq]; exact congrArg some e⟩

theorem in_ok {x y : V} {v u : Value} {b : Bool} (r : Rel X h s.heap) (rx : RepV s.heap x v) (ry : RepV s.heap y u) (e : inV h x y = some b) (hu : A.units + 20 < cLine) :
    (∀ P : Value → Shared → Prop, (∀ n, P (.bool b) { s with toks := n }) → wpAny X.M A (compareOp .In v u) P E s) ∧ ∀ P : Value → Shared → Prop, (∀ n, P (.bool (!b)) { s with toks := n }) → wpAny X.M A (compareOp .NotIn v u) P E s := by
  unfold inV at e
  split at e
  · rw [RepV] at ry
    obtain ⟨a, n, items, rfl, ha, ra, z⟩ := ry
    obtain ⟨f, hf, hb⟩ := items_in (A := A) r hu rx ra e
    subst hb
    exact ⟨fun P q => in_tupleAt f (isTuple_of ha) hf (q s.toks), fun P q => notIn_tupleAt f (isTuple_of ha) hf (q s.toks)⟩
  · simp only [RepV] at ry; subst ry
    split at e
    · rename_i xs ha
      obtain ⟨n, items, ha', ra, z⟩ := r.rep _ _ ha
      obtain ⟨f, hf, hb⟩ := items_in (A := A) r hu rx ra e
      subst hb
      exact ⟨fun P q => in_listAt f (isList_of ha') hf (q s.toks), fun P q => notIn_listAt f (isList_of ha') hf (q s.toks)⟩
    · rename_i kvs ep ha
      obtain ⟨us, hd, ra, z, ns⟩ := r.rep _ _ ha
      split at e
      · rename_i k
        simp only [RepV] at rx; obtain ⟨t, rfl⟩ := rx
        cases e
        have e2 : (valueAt ((kvs.map (·.1)).zip us) k).isSome = (dget kvs k).isSome := by
          obtain ⟨i1, i2⟩ := valueAt_dget (k := k) ra
          cases hg : dget kvs k with
          | none => rw [i2 hg]; rfl
          | some x => obtain ⟨u, hu, _⟩ := i1 x hg; rw [hu]; rfl
        rw [← e2]
        exact ⟨fun P q => wpAny_in_of (knd := intKind X.prog X.w) (intKind_is X.prog X.w _ _) (ne_sys ns) hd.dictOf.mapOf (q _),
          fun P q => wpAny_notIn_of (knd := intKind X.prog X.w) (intKind_is X.prog X.w _ _) (ne_sys ns) hd.dictOf.mapOf (q _)⟩
      · cases e
    · cases e
  · cases e

theorem cmp_ok {op : CmpOp} {x y : V} {v u : Value} {b : Bool} (r : Rel X h s.heap) (hu : A.units + 20 < cLine) (rx : RepV s.heap x v) (ry : RepV s.heap y u) (e : cmpV h op x y = some b) (q : Q (.bool b) h) :
    wpAny X.M A (compareOp op v u) (ValPost X h s Q) E s := by
  have qq := ValPost.pure (s := s) r (rep_bool (h := s.heap)) q
  have qt : ∀ n, ValPost X h s Q (.bool b) { s with toks := n } := fun n => ValPost.toks r rep_bool q
  unfold cmpV at e
  cases op <;> simp only at e
  · exact eqv_rc r 8 (by omega) rx ry e X.prog X.w E _ qq
  · obtain ⟨b', hb, rfl⟩ := Option.map_eq_some_iff.mp e
    exact eqv_rcne r 8 (by omega) rx ry hb X.prog X.w E _ qq
  · exact (lt_ok r rx ry e hu).1 _ qq
  · exact (le_ok r rx ry e).1 _ qq
  · exact (lt_ok r ry rx e hu).2 _ qq
  · exact (le_ok r ry rx e).2 _ qq
  · exact (is_ok rx ry e).1 _ qq
  · obtain ⟨b', hb, rfl⟩ := Option.map_eq_some_iff.mp e
    exact (is_ok rx ry hb).2 _ qq
  · exact (in_ok r rx ry e hu).1 _ qt
  · obtain ⟨b', hb, rfl⟩ := Option.map_eq_some_iff.mp e
    exact (in_ok r rx ry hb hu).2 _ qt
end
end Mine

namespace Mine
open PySem PyProof.Rows PySem.Calls PySem.SeqAt

section
variable {X : Ctx} {c : Cfg} {sc : Scope} {σ : Slots} {env : Env} {fr : Fm} {A : Around} {h : AH} {s : Shared} {E : Value → Shared → Prop} {Q : V → AH → Prop} {K : Bool → AH → Prop}

theorem sameBut_keeps {a : Addr} {hp hp' : Heap} (hs : Heap.SameBut a hp hp') : ∀ b, b ≠ a → ∀ ob, hp.get? b = some ob → hp'.get? b = some ob := fun b n ob e => (hs.2 b n).trans e
theorem vk_of_upd {a : Addr} {o : O} {hp hp' : Heap} (r : Rel X h hp) (ha : h a = some o) (k : ∀ b, b ≠ a → ∀ ob, hp.get? b = some ob → hp'.get? b = some ob) : VK hp hp' := fun b ob q l => by
  refine k b (fun z => ?_) ob q
  subst z
  obtain ⟨o₂, e₂, nl⟩ := (r.rep b o ha).there
  rw [q] at e₂; cases e₂; exact nl l

/-! built-in functions -/
theorem RepVs.of {hp : Heap} : ∀ {xs : List V} {vs : List Value}, vs.length = xs.length → (∀ (i : Nat) (x : V) (v : Value), xs[i]? = some x → vs[i]? = some v → RepV hp x v) → RepVs hp xs vs
  | [], [], _, _ => rfl
  | x :: xs, v :: vs, hl, k => ⟨v, vs, rfl, k 0 x v rfl rfl, RepVs.of (by simpa using hl) fun i x' v' a b => k (i + 1) x' v' (by simpa using a) (by simpa using b)⟩
  | [], _ :: _, hl, _ => by simp at hl
  | _ :: _, [], hl, _ => by simp at hl
theorem call_len_ok {x : V} {v : Value} {n : Nat} (r : Rel X h s.heap) (rx : RepV s.heap x v) (e : lenV h x = some n) (q : Q (.int n) h) :
    wpAny X.M A (call (.builtin "len") [v]) (ValPost X h s Q) E s := by
  unfold lenV at e
  split at e
  · cases e
    rw [RepV] at rx
    obtain ⟨a, n, items, rfl, ha, ra, z⟩ := rx
    refine len_tuple (isTup_of ha) (by rw [List.size_toArray, ra.length]; exact big_fit z) ?_
    rw [List.size_toArray, ra.length]; exact .toks r rep_int q
  · simp only [RepV] at rx; subst rx
    split at e
    · rename_i vs ha
      cases e
      obtain ⟨n, items, ha', ra, z⟩ := r.rep _ _ ha
      refine call_len_list (isList_of ha') (by rw [List.size_toArray, ra.length]; exact big_fit z) ?_
      rw [List.size_toArray, ra.length]; exact .toks r rep_int q
    · rename_i vs ha
      cases e
      obtain ⟨items, ha', ra, z⟩ := r.rep _ _ ha
      refine call_len_list ha' (by rw [List.size_toArray, ra.length]; exact big_fit z) ?_
      rw [List.size_toArray, ra.length]; exact .toks r rep_int q
    · rename_i d ep ha
      cases e
      obtain ⟨us, hd, ra, z, ns⟩ := r.rep _ _ ha
      have l := ra.length
      simp only [List.length_map] at l
      have l2 : ((d.map (·.1)).zip us).length = d.length := by simp [l]
      refine call_len_dict (ne_sys ns) hd.dictOf (by rw [l2]; exact big_fit z) ?_
      rw [l2]; exact .toks r rep_int q
    · cases e
  · cases e
end
end Mine

namespace Mine
open PySem PyProof.Rows PySem.Calls PySem.SeqAt

theorem starEach_cons {e : PySem.Expr} {rest : List PySem.Expr} {env : Env} (h : plainE e = true) : starEach (e :: rest) env = (false, eval e env) :: starEach rest env := by
  cases e <;> first | rfl | cases h
theorem foldedSet_plain {e : PySem.Expr} {env : Env} (h : plainE e = true) : ∀ x, foldedSetIterable e env x = pure x := by
  intro x
  cases e <;> first | rfl | cases h
theorem subscripted_plain {e : PySem.Expr} {o i : Value} (h : plainE e = true) : subscripted e false o i = operate [o, i] (getItem o i) := by
  cases e <;> first | rfl | cases h

section
variable {X : Ctx} {sc : Scope} {σ : Slots}

theorem OkA.u {c : Cfg} {A : Around} (a : OkA c A) : A.units + 20 < cLine := by have := a.units; unfold cLine; omega

theorem se_bin {op : Operator} {a b : Ex} {l r : PySem.Expr} {p : Pos} (ha : SE X sc σ a l) (hb : SE X sc σ b r) : SE X sc σ (.bin op a b) (.BinOp l op r p) := by
  intro c R fr Q h env A s w i
  unfold wpE at w
  refine wpAny_BinOp (wpAny_mono (ha _ _ _ _ _ _ _ _ w i) (fun v s1 ⟨x, h1, rv, st, w1⟩ => ?_) fun _ _ e => e)
  have i1 := i.step st
  refine wpAny_mono (hb _ _ _ _ _ _ _ _ w1 i1) (fun u s2 ⟨y, h2, ru, st2, w2⟩ => ?_) fun _ _ e => e.back st
  exact wpAny_mono (binop_ok st2.rel (rv.mono (st2.vk i1.r)) ru w2) (fun _ _ q => q.back (st.trans st2)) fun _ _ e => e

theorem se_cmp {op : CmpOp} {a b : Ex} {l r : PySem.Expr} {p : Pos} (ha : SE X sc σ a l) (hb : SE X sc σ b r) (hm : behindInMarks op r = false) : SE X sc σ (.cmp op a b) (.Compare l [op] [r] p) := by
  intro c R fr Q h env A s w i
  unfold wpE at w
  refine wpAny_Compare1 (wpAny_mono (ha _ _ _ _ _ _ _ _ w i) (fun v s1 ⟨x, h1, rv, st, w1⟩ => ?_) fun _ _ e => e) hm
  have i1 := i.step st
  refine wpAny_mono (hb _ _ _ _ _ _ _ _ w1 i1) (fun u s2 ⟨y, h2, ru, st2, w2⟩ => ?_) fun _ _ e => e.back st
  dsimp only at w2
  split at w2
  · rename_i rr hr
    exact wpAny_mono (cmp_ok st2.rel i.a.u (rv.mono (st2.vk i1.r)) ru hr w2) (fun _ _ q => q.back (st.trans st2)) fun _ _ e => e
  · exact w2.elim

theorem st_cmp {op : CmpOp} {a b : Ex} {l r : PySem.Expr} {p : Pos} (ha : SE X sc σ a l) (hb : SE X sc σ b r) (hm : behindInMarks op r = false) : ST X sc σ (.cmp op a b) (.Compare l [op] [r] p) := by
  intro c R fr K h env A s w i
  unfold wpT at w
  refine wpAny_isTrue_Compare1 (wpAny_mono (ha _ _ _ _ _ _ _ _ w i) (fun v s1 ⟨x, h1, rv, st, w1⟩ => ?_) fun _ _ e => e) hm
  have i1 := i.step st
  refine wpAny_mono (hb _ _ _ _ _ _ _ _ w1 i1) (fun u s2 ⟨y, h2, ru, st2, w2⟩ => ?_) fun _ _ e => e.back st
  dsimp only at w2
  split at w2
  · rename_i rr hr
    refine wpAny_mono (cmp_ok (Q := fun z h' => z = .bool rr ∧ K rr h') st2.rel i.a.u (rv.mono (st2.vk i1.r)) ru hr ⟨rfl, w2⟩) (fun v3 s3 ⟨z, h3, rz, st3, ez, k3⟩ => ?_) fun _ _ e => e
    subst ez
    simp only [RepV] at rz; subst rz
    exact wpAny_truthy_bool ⟨h3, (st.trans st2).trans st3, k3⟩
  · exact w2.elim

theorem se_not {a : Ex} {x : PySem.Expr} {p : Pos} (ha : SE X sc σ a x) : SE X sc σ (.not a) (.UnaryOp .Not x p) := by
  intro c R fr Q h env A s w i
  unfold wpE at w
  rw [arm_eval_UnaryOp]
  refine wpAny_bind (wpAny_mono (ha _ _ _ _ _ _ _ _ w i) (fun v s1 ⟨x, h1, rv, st, w1⟩ => ?_) fun _ _ e => e)
  refine wpAny_bind (wpAny_standAt (wpAny_holding (not_of ?_)))
  dsimp only at w1
  split at w1
  · rename_i rr hr
    refine wpAny_mono (truth_ok (K := fun b h' => b = rr ∧ Q (.bool (!rr)) h') st.rel rv (by rw [hr]; exact ⟨rfl, w1⟩)) (fun b s2 ⟨h2, st2, e, q⟩ => ?_) fun _ _ e => e
    subst e
    exact ⟨_, h2, rep_bool, st.trans st2, q⟩
  · exact w1.elim

theorem st_not {a : Ex} {x : PySem.Expr} {p : Pos} (ha : ST X sc σ a x) : ST X sc σ (.not a) (.UnaryOp .Not x p) := by
  intro c R fr K h env A s w i
  unfold wpT at w
  exact isTrue_not (wpAny_mono (ha _ _ _ _ _ _ _ _ w i) (fun b s1 ⟨h1, st, k⟩ => ⟨h1, st, k⟩) fun _ _ e => e)

theorem se_neg {a : Ex} {x : PySem.Expr} {p : Pos} (ha : SE X sc σ a x) : SE X sc σ (.neg a) (.UnaryOp .USub x p) := by
  intro c R fr Q h env A s w i
  unfold wpE at w
  rw [arm_eval_UnaryOp]
  refine wpAny_bind (wpAny_mono (ha _ _ _ _ _ _ _ _ w i) (fun v s1 ⟨x, h1, rv, st, w1⟩ => ?_) fun _ _ e => e)
  refine wpAny_bind (wpAny_standAt (wpAny_holding ?_))
  dsimp only at w1
  split at w1
  · simp only [RepV] at rv; obtain ⟨t, rfl⟩ := rv
    exact PyProof.Rows.neg_int (ValPost.back st (.toks st.rel rep_int w1))
  · exact w1.elim

/-- a test that is no and, or, not, comparison -/
theorem st_plain {x : Ex} {e : PySem.Expr} (hx : SE X sc σ x e) (h1 : ∀ c R whole fr K h, wpT X c R x whole fr K h = whole (fun v h1 => match truthV h1 v with | some r => K r h1 | none => False) h)
    (h2 : ∀ env whole, isTrue e env whole = (do let v ← whole; standAt e.pos; holding [v] (truthy v))) : ST X sc σ x e := by
  intro c R fr K h env A s w i
  rw [h1] at w
  refine isTrue_plain (wpAny_mono (hx _ _ _ _ _ _ _ _ w i) (fun v s1 ⟨x, h1, rv, st, w1⟩ => ?_) fun _ _ e => e) (h2 _ _)
  exact wpAny_mono (truth_ok st.rel rv w1) (fun b s2 q => q.back st) fun _ _ e => e

theorem se_tuple {es : List Ex} {vs : List PySem.Expr} {k : Nat} {p : Pos} (hs : ∀ c R fr Q h env A s, wpEs X c R es fr Q h → In X c sc σ env fr A h s → wpAny X.M A (spliced (backTo p (starEach vs env))) (ValsPost X h s Q) (ExcPost X A h s R) s) :
    SE X sc σ (.tuple es) (.Tuple vs k p) := by
  intro c R fr Q h env A s w i
  unfold wpE at w
  rw [arm_eval_Tuple]
  refine wpAny_bind (wpAny_standAt (wpAny_bind (wpAny_mono (hs _ _ _ _ _ _ _ _ w i) (fun us s1 ⟨xs, h1, rv, st, z, q⟩ => ?_) fun _ _ e => e)))
  exact wpAny_newTuple (ValPost.back st (ValPost.tup st.rel rv (small_big z) q)) (by rw [rv.length]; exact small_size z)

theorem se_list {es : List Ex} {vs : List PySem.Expr} {p : Pos} (hs : ∀ c R fr Q h env A s, wpEs X c R es fr Q h → In X c sc σ env fr A h s → wpAny X.M A (spliced (backTo p (starEach vs env))) (ValsPost X h s Q) (ExcPost X A h s R) s) :
    SE X sc σ (.list es) (.List vs p) := by
  intro c R fr Q h env A s w i
  unfold wpE at w
  rw [arm_eval_List]
  refine wpAny_bind (wpAny_standAt (wpAny_bind (wpAny_mono (hs _ _ _ _ _ _ _ _ w i) (fun us s1 ⟨xs, h1, rv, st, z, q⟩ => ?_) fun _ _ e => e)))
  exact wpAny_newList (ValPost.back st (ValPost.new (o := .list xs) st.rel rfl ⟨_, _, Heap.get?_push_size _ rfl, rv.mono (push_vk _ _), small_big z⟩ q)) (by rw [rv.length]; exact small_size z)

theorem backTo_false {p : Pos} {t : Sem Value} {r : List (Bool × Sem Value)} : backTo p ((false, t) :: r) = (false, t) :: backTo p r := by simp [backTo]

theorem spliced_ok : ∀ {es : List Ex} {vs : List PySem.Expr} {p : Pos}, SEs X sc σ es vs → (∀ e ∈ vs, plainE e = true) → ∀ c R fr Q h env A s, wpEs X c R es fr Q h → In X c sc σ env fr A h s →
    wpAny X.M A (spliced (backTo p (starEach vs env))) (ValsPost X h s Q) (ExcPost X A h s R) s
  | [], [], p, _, _, c, R, fr, Q, h, env, A, s, w, i => by
    unfold wpEs at w
    exact spliced_nil ⟨[], h, .nil, .refl i.r, w⟩
  | x :: xs, e :: es, p, hs, hp, c, R, fr, Q, h, env, A, s, w, i => by
    unfold wpEs at w
    rw [starEach_cons (hp e (.head _)), backTo_false]
    refine spliced_cons (wpAny_mono (hs.1 _ _ _ _ _ _ _ _ w i) (fun v s1 ⟨y, h1, rv, st, w1⟩ => ?_) fun _ _ e => e)
    have i1 := i.step st
    refine wpAny_mono (spliced_ok hs.2 (fun e he => hp e (.tail _ he)) _ _ _ _ _ _ _ _ w1 i1) (fun us s2 ⟨ys, h2, rus, st2, q⟩ => ?_) fun _ _ e => e.back st
    exact ⟨y :: ys, h2, .cons (rv.mono (st2.vk i1.r)) rus, st.trans st2, q⟩
  | [], _ :: _, _, hs, _, _, _, _, _, _, _, _, _, _, _ => hs.elim
  | _ :: _, [], _, hs, _, _, _, _, _, _, _, _, _, _, _ => hs.elim

theorem evalArgs_ok {f : Value} {args : List (Bool × Sem Value)} {A : Around} {Q : List Value → Shared → Prop} {E : Value → Shared → Prop} {s : Shared} (hp : args.any (·.1) = false) (h : wpAny X.M A (spliced args) Q E s) :
    wpAny X.M A (evalArgs f true args []) (fun a s' => a.kw = [] ∧ Q a.pos s') E s := by
  cases args with
  | nil =>
    show wpAny _ _ (spliced [] >>= fun vs => pure (⟨vs, []⟩ : Args)) _ _ _
    exact wpAny_bind (wpAny_mono h (fun vs s1 q => wpAny_pure ⟨rfl, q⟩) fun _ _ e => e)
  | cons p r =>
    obtain ⟨b, t⟩ := p
    cases b with
    | false => exact evalArgs_plain (wpAny_mono h (fun vs s1 q => ⟨rfl, q⟩) fun _ _ e => e)
    | true => simp at hp
theorem star_any {p : Pos} : ∀ {vs : List PySem.Expr} {env : Env}, (∀ e ∈ vs, plainE e = true) → (backTo p (starEach vs env)).any (·.1) = false
  | [], env, _ => rfl
  | e :: es, env, hp => by rw [starEach_cons (hp e (.head _)), backTo_false]; simpa using star_any fun e he => hp e (.tail _ he)
end
end Mine

namespace Mine
open PySem PyProof.Rows PySem.Calls PySem.SeqAt PySem.W

def biVal : Bi → Value
  | .len => .builtin "len" | .list => .type "list" | .dict => .type "dict" | .tuple => .type "tuple" | .sorted => .builtin "sorted" | .min => .builtin "min" | .max => .builtin "max"
  | .int => .type "int" | .any => .builtin "any" | .all => .builtin "all" | .str => .type "str"

structure Ctx.Good (X : Ctx) : Prop where
  g : X.base.Ns mainGlobals X.mg
  b : X.base.Ns builtinsNs X.mb
  lim : X.base.NoLimit
  bi : ∀ b : Bi, X.mg (biName b) = none ∧ X.mb (biName b) = some (biVal b)
  isi : X.mg "isinstance" = none ∧ X.mb "isinstance" = some (.builtin "isinstance")
  ty : ∀ n ∈ (["int", "bool", "str", "list", "dict", "tuple"] : List String), X.mg (Str.ofString n) = none ∧ X.mb (Str.ofString n) = some (.type n)
  range : X.mg "range" = none ∧ X.mb "range" = some (.type "range")
  reversed : X.mg "reversed" = none ∧ X.mb "reversed" = some (.type "reversed")
  fg : ∀ f a, X.fa f = some a → f.cps.contains 46 = false → X.mg f = some (.ref a)
  fn : ∀ f a, X.fa f = some a → ∃ o fd, X.base.get? a = some o ∧ o.data = .func fd
  sysm : ∃ a o, sysModules < a ∧ X.base.get? a = some o
  gl : ∀ n v, X.glob n = some v → ∃ u, X.mg n = some u ∧ RepV X.base v u

section
variable {X : Ctx} {sc : Scope} {σ : Slots} {c : Cfg} {env : Env} {fr : Fm} {A : Around} {h : AH} {s : Shared} {E : Value → Shared → Prop} {Q : Value → Shared → Prop}

theorem Rel.ns {a m} (r : Rel X h s.heap) (n : X.base.Ns a m) : s.heap.Ns a m := n.keeps r.base
theorem Rel.vkb (r : Rel X h s.heap) : VK X.base s.heap := .of_keeps r.base

theorem load_global (G : X.Good) (i : In X c sc σ env fr A h s) {n : Str} {p : Pos} {v : Value} (hg : isGlob sc n = true) (hd : (n == ("__debug__" : Str)) = false) (hv : X.mg n = some v) (q : Q v s) :
    wpAny X.M A (eval (.Name n p) env) Q E s := by
  refine Name_function_global i.e.kind (i.e.glob n (by simpa [isGlob] using hg)) ?_ hd
  exact loadGlobal_global (by rw [i.e.globals]; exact i.r.ns G.g) hv q
theorem load_builtin (G : X.Good) (i : In X c sc σ env fr A h s) {n : Str} {p : Pos} {v : Value} (hg : isGlob sc n = true) (hd : (n == ("__debug__" : Str)) = false) (hv : X.mg n = none ∧ X.mb n = some v) (q : Q v s) :
    wpAny X.M A (eval (.Name n p) env) Q E s := by
  refine Name_function_global i.e.kind (i.e.glob n (by simpa [isGlob] using hg)) ?_ hd
  exact loadGlobal_builtin (by rw [i.e.globals]; exact i.r.ns G.g) hv.1 (by rw [i.e.builtins]; exact i.r.ns G.b) hv.2 q

theorem se_glob (G : X.Good) {n : Str} {p : Pos} (hg : isGlob sc n = true) (hd : (n == ("__debug__" : Str)) = false) : SE X sc σ (.glob n) (.Name n p) := by
  intro c R fr Q h env A s w i
  unfold wpE at w
  split at w
  · rename_i v hv
    obtain ⟨u, hu, ru⟩ := G.gl n v hv
    exact load_global G i hg hd hu (.pure i.r (ru.mono i.r.vkb) w)
  · exact w.elim

theorem se_sub {o i : Ex} {v k : PySem.Expr} {p : Pos} (ho : SE X sc σ o v) (hi : SE X sc σ i k) (hp : plainE k = true) : SE X sc σ (.sub o i) (.Subscript v k p) := by
  intro c R fr Q h env A s w i
  unfold wpE at w
  refine Subscript_ (wpAny_mono (ho _ _ _ _ _ _ _ _ w i) (fun vo s1 ⟨x, h1, rv, st, w1⟩ => ?_) fun _ _ e => e)
  have i1 := i.step st
  refine wpAny_mono (hi _ _ _ _ _ _ _ _ w1 i1) (fun u s2 ⟨y, h2, ru, st2, w2⟩ => ?_) fun _ _ e => e.back st
  dsimp only at w2
  split at w2
  · rename_i v hv
    have rv2 := rv.mono (st2.vk i1.r)
    have key := getV_ok (A := A) (E := ExcPost X A h s R) (Q := Q) st2.rel rv2 ru hv w2
    have key2 := wpAny_mono key (fun _ _ q => q.back (st.trans st2)) fun _ _ e => e
    have hs : subscripted k false vo u = operate [vo, u] (getItem vo u) := subscripted_plain hp
    unfold getV at hv
    split at hv
    · rw [RepV] at rv2
      obtain ⟨a, n, items, rfl, ha, _⟩ := rv2
      exact tail_any (isTup_of ha).typeIs slot_tuple_getitem.lookup key2 hs
    · simp only [RepV] at rv2; subst rv2
      split at hv
      · rename_i ha; obtain ⟨n, items, ha', _⟩ := st2.rel.rep _ _ ha
        exact tail_any (isList_of ha').typeIs slot_list_getitem.lookup key2 hs
      · rename_i ha; obtain ⟨items, ha', _⟩ := st2.rel.rep _ _ ha
        exact tail_any ha'.typeIs slot_list_getitem.lookup key2 hs
      · rename_i ha; obtain ⟨vs, hd, _⟩ := st2.rel.rep _ _ ha
        exact tail_any hd.dictOf.typeIs slot_dict_getitem.lookup key2 hs
      · cases hv
    · cases hv
  · exact w2.elim

theorem Rel.ne_sys (G : X.Good) (r : Rel X h s.heap) {n : Nat} (hn : s.heap.objs.size ≤ n) : n ≠ sysModules := fun e => by
  obtain ⟨a, o, ha, ho⟩ := G.sysm
  have := Nat.lt_trans ha (Heap.lt_size (r.base _ _ ho))
  subst e
  exact Nat.lt_irrefl _ (Nat.lt_of_lt_of_le this hn)
theorem se_dict0 (G : X.Good) {p : Pos} : SE X sc σ .dict0 (.Dict [] [] p) := by
  intro c R fr Q h env A s w i
  unfold wpE at w
  refine wpAny_Dict_empty ?_
  have hne : s.heap.objs.size ≠ sysModules := i.r.ne_sys G (Nat.le_refl _)
  have hd : (s.heap.push { cls := .type "dict", data := .dict #[] }).DictOf (intKind X.prog X.w) s.heap.objs.size [] := Heap.DictOf.new _
  obtain ⟨e, hd'⟩ := hd.dictAt
  exact ValPost.new (o := .idict [] e) i.r rfl ⟨[], hd', .nil, Nat.zero_le _, hne⟩ (w e)

/-- a call of one of the text's own defs -/
theorem se_callf (G : X.Good) {f : Str} {es : List Ex} {args : List PySem.Expr} {p pos : Pos} (hs : SEs X sc σ es args) (hp : ∀ e ∈ args, plainE e = true) (hg : isGlob sc f = true) (hd : (f == ("__debug__" : Str)) = false) (hdot : f.cps.contains 46 = false) :
    SE X sc σ (.callf f es) (.Call (.Name f p) args [] pos) := by
  intro c R fr Q h env A s w i
  unfold wpE at w
  show wpAny _ _ (eval (.Name f p) env >>= fun v => callWith pos v [] (backTo pos (starEach args env)) []) _ _ _
  obtain ⟨w0, w⟩ := w
  have key := spliced_ok hs hp (p := pos) _ _ _ _ _ _ _ _ w i
  cases hfa : X.fa f with
  | none => rw [hfa] at w0; cases w0
  | some fa =>
    obtain ⟨o, fd, ho, hfd⟩ := G.fn f fa hfa
    refine wpAny_bind (load_global G i hg hd (G.fg f fa hfa hdot) ?_)
    refine callWith_function (o := o) (fd := fd) (wpAny_mono (evalArgs_ok (star_any hp) key) (fun a s1 ⟨hk, xs, h1, rv, st, hh, k, ek, fa', efa, call⟩ => ⟨⟨st.rel.base _ _ ho, hfd⟩, ?_⟩) fun _ _ e => e)
    rw [hfa] at efa; cases efa
    have oA : OkA ⟨k, true⟩ A := ⟨fun _ => i.a.handled hh, by have := i.a.depth; rw [ek] at this; show A.depth + k < 1000; omega, by have := i.a.units; rw [ek] at this; show A.units + 10 * k < 9000; omega⟩
    have cc := call A s1 a.pos oA st.rel rv
    simp only [List.nil_append]
    rw [hk]
    refine wpAny_call (codeAny_mono cc fun res s' y => ?_)
    cases res with
    | error e => exact ExcPost.back st y
    | ok fl =>
      cases fl with
      | ret v => exact ValPost.back st y
      | next => exact y
      | brk => exact y
      | cont => exact y
end
end Mine

namespace Mine
open PySem PyProof.Rows PySem.Calls PySem.SeqAt

section
variable {X : Ctx} {sc : Scope} {σ : Slots}

theorem boolOp_ok {op : BoolOp} {pos : Pos} : ∀ {es : List Ex} {vs : List PySem.Expr}, SEs X sc σ es vs → ∀ c R fr Q h env A s, wpB X c R op es fr Q h → In X c sc σ env fr A h s →
    wpAny X.M A (boolOp pos op (evalEach vs env)) (ValPost X h s Q) (ExcPost X A h s R) s
  | [], [], _, c, R, fr, Q, h, env, A, s, w, i => by unfold wpB at w; exact w.elim
  | [x], [e], hs, c, R, fr, Q, h, env, A, s, w, i => by
    unfold wpB at w
    exact hs.1 _ _ _ _ _ _ _ _ w i
  | x :: y :: xs, e :: e' :: es, hs, c, R, fr, Q, h, env, A, s, w, i => by
    unfold wpB at w
    show wpAny _ _ (do
      let v ← eval e env
      standAt pos
      let t ← holding [v] (truthy v)
      match op, t with
      | .And, false | .Or, true => pure v
      | _, _ => boolOp pos op (evalEach (e' :: es) env)) _ _ _
    refine wpAny_bind (wpAny_mono (hs.1 _ _ _ _ _ _ _ _ w i) (fun v s1 ⟨z, h1, rv, st, w1⟩ => ?_) fun _ _ e => e)
    have i1 := i.step st
    dsimp only at w1
    split at w1
    · rename_i b hb
      refine wpAny_bind (wpAny_standAt (wpAny_bind (wpAny_holding (wpAny_mono (truth_ok (K := fun b' h' => b' = b ∧ h' = h1) st.rel rv (by rw [hb]; exact ⟨rfl, rfl⟩)) (fun b' s2 ⟨h2, st2, e1, e2⟩ => ?_) fun _ _ e => e))))
      subst e1 e2
      have ih := boolOp_ok (pos := pos) (op := op) (es := y :: xs) (vs := e' :: es) hs.2 c R fr Q h2 env A s2
      have rv2 := rv.mono (st2.vk st.rel)
      cases op <;> cases b' <;> simp at w1
      · exact wpAny_pure ⟨z, h2, rv2, st.trans st2, w1⟩
      · exact wpAny_mono (ih w1 (i1.step st2)) (fun _ _ q => q.back (st.trans st2)) fun _ _ e => e.back (st.trans st2)
      · exact wpAny_mono (ih w1 (i1.step st2)) (fun _ _ q => q.back (st.trans st2)) fun _ _ e => e.back (st.trans st2)
      · exact wpAny_pure ⟨z, h2, rv2, st.trans st2, w1⟩
    · exact w1.elim
  | [], _ :: _, hs, _, _, _, _, _, _, _, _, _, _ => hs.elim
  | _ :: _, [], hs, _, _, _, _, _, _, _, _, _, _ => hs.elim
  | [_], _ :: _ :: _, hs, _, _, _, _, _, _, _, _, _, _ => hs.2.elim
  | _ :: _ :: _, [_], hs, _, _, _, _, _, _, _, _, _, _ => hs.2.elim
theorem se_bop {op : BoolOp} {es : List Ex} {vs : List PySem.Expr} {pos : Pos} (hs : SEs X sc σ es vs) : SE X sc σ (.bop op es) (.BoolOp op vs pos) := by
  intro c R fr Q h env A s w i
  unfold wpE at w
  exact boolOp_ok hs _ _ _ _ _ _ _ _ w i

def STs (X : Ctx) (sc : Scope) (σ : Slots) : List Ex → List PySem.Expr → Prop
  | [], [] => True
  | x :: xs, e :: es => ST X sc σ x e ∧ STs X sc σ xs es
  | _, _ => False
theorem allTrue_ok {op : BoolOp} : ∀ {es : List Ex} {vs : List PySem.Expr}, STs X sc σ es vs → ∀ c R fr K h env A s, wpTs X c R op es fr K h → In X c sc σ env fr A h s →
    wpAny X.M A (allTrue op vs env) (BoolPost X h s K) (ExcPost X A h s R) s
  | [], [], _, c, R, fr, K, h, env, A, s, w, i => by unfold wpTs at w; rw [arm_allTrue_nil]; exact wpAny_pure (.pure i.r w)
  | x :: xs, e :: es, hs, c, R, fr, K, h, env, A, s, w, i => by
    unfold wpTs at w
    rw [arm_allTrue_cons]
    refine wpAny_bind (wpAny_mono (hs.1 _ _ _ _ _ _ _ _ w i) (fun b s1 ⟨h1, st, w1⟩ => ?_) fun _ _ e => e)
    have i1 := i.step st
    have ih := allTrue_ok (op := op) hs.2 c R fr K h1 env A s1
    cases op <;> cases b <;> simp at w1
    · exact wpAny_pure ⟨h1, st, w1⟩
    · exact wpAny_mono (ih w1 i1) (fun _ _ q => q.back st) fun _ _ e => e.back st
    · exact wpAny_mono (ih w1 i1) (fun _ _ q => q.back st) fun _ _ e => e.back st
    · exact wpAny_pure ⟨h1, st, w1⟩
  | [], _ :: _, hs, _, _, _, _, _, _, _, _, _, _ => hs.elim
  | _ :: _, [], hs, _, _, _, _, _, _, _, _, _, _ => hs.elim
theorem st_bop {op : BoolOp} {es : List Ex} {vs : List PySem.Expr} {pos : Pos} (hs : STs X sc σ es vs) : ST X sc σ (.bop op es) (.BoolOp op vs pos) := by
  intro c R fr K h env A s w i
  unfold wpT at w
  rw [arm_isTrue_BoolOp]
  exact allTrue_ok hs _ _ _ _ _ _ _ _ w i

/-! built-in calls by name -/
theorem size_none {hp : Heap} {n : Nat} (h : hp.objs.size ≤ n) : hp.get? n = none := by
  cases e : hp.get? n with
  | none => rfl
  | some o => exact absurd (Heap.lt_size e) (Nat.not_lt.mpr h)

theorem RepVs.ints {hp : Heap} : ∀ {ns : List Int} {vs : List Value}, RepVs hp (ns.map .int) vs → IntsAre vs ns
  | [], _, e => by cases e; exact .nil
  | n :: ns, _, ⟨v, r, e, r1, r2⟩ => by subst e; simp only [RepV] at r1; obtain ⟨t, rfl⟩ := r1; exact .cons n t r2.ints
theorem ints_rep {h : Heap} : ∀ {vs : List Value} {ns : List Int}, IntsAre vs ns → RepVs h (ns.map .int) vs
  | _, [], e => by cases e; rfl
  | _, n :: ns, e => by
    cases e
    exact ⟨_, _, rfl, rep_int, ints_rep (by assumption)⟩
theorem bi_ok {b : Bi} {xs : List V} {vs : List Value} {h : AH} {s : Shared} {A : Around} {E : Value → Shared → Prop} {Q : V → AH → Prop} (G : X.Good) (hh : A.handled = none) (r : Rel X h s.heap) (rv : RepVs s.heap xs vs) (w : biP b xs h Q) :
    wpAny X.M A (call (biVal b) vs) (ValPost X h s Q) E s := by
  unfold biP at w
  split at w
  · obtain ⟨v, _, rfl, r1, r2⟩ := rv; cases r2
    split at w
    · rename_i n hn; exact call_len_ok r r1 hn w
    · exact w.elim
  · obtain ⟨v, _, rfl, r1, r2⟩ := rv; cases r2
    split at w
    · have r0 := r1
      simp only [RepV] at r1
      obtain ⟨a, n, items, rfl, ha, ra, z⟩ := r1
      exact call_tuple_same (isTuple_of ha) (.pure r r0 w)
    · simp only [RepV] at r1; subst r1
      split at w
      · rename_i ha
        obtain ⟨n, items, ha', ra, z⟩ := r.rep _ _ ha
        refine call_tuple_list (isList_of ha') (fun h' hk => ?_) (hsz := by rw [List.size_toArray, ra.length]; exact big_size z)
        have kk : ∀ b o, s.heap.get? b = some o → (h'.push { cls := .type "tuple", data := .seq items.toArray }).get? b = some o := fun b o e => Heap.get?_push_of_some _ (hk b o e)
        exact ⟨.tup _, h, ⟨_, _, _, rfl, Heap.get?_push_size _ rfl, ra.mono (.of_keeps kk), z⟩, Step.keeps r kk ⟨rfl, rfl, rfl⟩, w⟩
      · exact w.elim
    · exact w.elim
  · exact w.elim

theorem callWith_bi {b : Bi} {pos : Pos} {args : List (Bool × Sem Value)} {A : Around} {E : Value → Shared → Prop} {s : Shared} {Q : Value → Shared → Prop} (hp : args.any (·.1) = false)
    (h : wpAny X.M A (evalArgs (biVal b) true args []) (fun a s₁ => wpAny X.M A (call (biVal b) a.pos a.kw) Q E s₁) E s) : wpAny X.M A (callWith pos (biVal b) [] args []) Q E s := by
  have hb : ∀ id, wpAny X.M A (evalArgs (.builtin id) true args []) (fun a s₁ => wpAny X.M A (call (.builtin id) a.pos a.kw) Q E s₁) E s → wpAny X.M A (callWith pos (.builtin id) [] args []) Q E s :=
    fun id h => callWith_builtin hp (wpAny_mono h (fun a s1 q => by simpa using q) fun _ _ e => e)
  have ht : ∀ T, wpAny X.M A (evalArgs (.type T) true args []) (fun a s₁ => wpAny X.M A (call (.type T) a.pos a.kw) Q E s₁) E s → wpAny X.M A (callWith pos (.type T) [] args []) Q E s :=
    fun T h => PySem.callWith_type hp (wpAny_mono h (fun a s1 q => by simpa using q) fun _ _ e => e)
  cases b
  · exact hb _ h
  · exact ht _ h
  · exact ht _ h
  · exact ht _ h
  · exact hb _ h
  · exact hb _ h
  · exact hb _ h
  · exact ht _ h
  · exact hb _ h
  · exact hb _ h
  · exact ht _ h

theorem se_bi (G : X.Good) {b : Bi} {es : List Ex} {args : List PySem.Expr} {p pos : Pos} (hs : SEs X sc σ es args) (hp : ∀ e ∈ args, plainE e = true) (hg : isGlob sc (biName b) = true) :
    SE X sc σ (.bi b es) (.Call (.Name (biName b) p) args [] pos) := by
  intro c R fr Q h env A s w i
  unfold wpE at w
  show wpAny _ _ (eval (.Name (biName b) p) env >>= fun v => callWith pos v [] (backTo pos (starEach args env)) []) _ _ _
  have key := spliced_ok hs hp (p := pos) _ _ _ _ _ _ _ _ w i
  refine wpAny_bind (load_builtin G i hg (by cases b <;> decide) (G.bi b) ?_)
  refine callWith_bi (star_any hp) (wpAny_mono (evalArgs_ok (star_any hp) key) (fun a s1 ⟨hk, xs, h1, rv, st, hh, w1⟩ => ?_) fun _ _ e => e)
  rw [hk]
  exact wpAny_mono (bi_ok G (i.a.handled hh) st.rel rv w1) (fun _ _ q => q.back st) fun _ _ e => e

/-! isinstance -/
theorem isi_ok {x : V} {v : Value} {t : Ty} {T : String} {b : Bool} {h : AH} {s : Shared} {A : Around} {E : Value → Shared → Prop} {Q : V → AH → Prop} (r : Rel X h s.heap) (rx : RepV s.heap x v) (ht : tyStr t = some T) (e : isiV X h x t = some b) (q : Q (.bool b) h) :
    wpAny X.M A (call (.builtin "isinstance") [v, .type T]) (ValPost X h s Q) E s := by
  have qq := ValPost.pure (s := s) r (rep_bool (h := s.heap)) q
  have qt : ∀ n, ValPost X h s Q (.bool b) { s with toks := n } := fun n => ValPost.toks r rep_bool q
  unfold isiV at e
  cases x with
  | none =>
    simp only [RepV] at rx; subst rx
    cases t <;> cases ht <;> cases e <;>
      exact call_isinstance (isinstance_false_none (by decide) (by kernel_rfl) (by rw [isSubtype_type]; kernel_rfl)) (qt _)
  | bool z =>
    simp only [RepV] at rx; subst rx
    cases t <;> cases ht <;> cases e <;> first
      | exact call_isinstance (isinstance_true (Tx := "bool") (by kernel_rfl) (by rw [isSubtype_type]; kernel_rfl)) ⟨rfl, qq⟩
      | exact call_isinstance (isinstance_false_bool (by decide) (by kernel_rfl) (by rw [isSubtype_type]; kernel_rfl)) (qt _)
  | int z =>
    simp only [RepV] at rx; obtain ⟨tk, rfl⟩ := rx
    cases t <;> cases ht <;> cases e <;> first
      | exact call_isinstance (isinstance_true (Tx := "int") (by kernel_rfl) (by rw [isSubtype_type]; kernel_rfl)) ⟨rfl, qq⟩
      | exact call_isinstance (isinstance_false_int (by decide) (by kernel_rfl) (by rw [isSubtype_type]; kernel_rfl)) (qt _)
  | str z =>
    simp only [RepV] at rx; obtain ⟨tk, rfl⟩ := rx
    cases t <;> cases ht <;> cases e <;> first
      | exact call_isinstance (isinstance_true (Tx := "str") (by kernel_rfl) (by rw [isSubtype_type]; kernel_rfl)) ⟨rfl, qq⟩
      | exact call_isinstance (isinstance_false_str (by decide) (by kernel_rfl) (by rw [isSubtype_type]; kernel_rfl)) (qt _)
  | tup z =>
    rw [RepV] at rx
    obtain ⟨a, n, items, rfl, ha, _⟩ := rx
    cases t <;> cases ht <;> cases e <;> first
      | exact call_isinstance (isinstance_true (Tx := "tuple") (by kernel_rfl) (by rw [isSubtype_type]; kernel_rfl)) ⟨⟨_, ha, rfl⟩, qq⟩
      | exact call_isinstance (isinstance_false_tuple (by decide) (by kernel_rfl) (by rw [isSubtype_type]; kernel_rfl)) ⟨⟨_, ha, rfl⟩, qt _⟩
  | exc C => cases e
  | ref a =>
    simp only [RepV] at rx; subst rx
    unfold kindV at e
    dsimp only at e
    cases ha : h a with
    | none => rw [ha] at e; cases e
    | some o =>
      rw [ha] at e
      cases o with
      | list vs =>
        obtain ⟨n, items, ha', _⟩ := r.rep _ _ ha
        cases t <;> cases ht <;> cases e <;> first
          | exact call_isinstance (isinstance_true (Tx := "list") (by kernel_rfl) (by rw [isSubtype_type]; kernel_rfl)) ⟨⟨_, ha', rfl⟩, qq⟩
          | exact call_isinstance (isinstance_false_list (by decide) (by kernel_rfl) (by rw [isSubtype_type]; kernel_rfl)) ⟨⟨_, ha', rfl⟩, qt _⟩
      | idict vs ep =>
        obtain ⟨us, hd, _⟩ := r.rep _ _ ha
        obtain ⟨ob, es, ho, hx, _⟩ := id hd
        cases t <;> cases ht <;> cases e <;> first
          | exact call_isinstance (isinstance_true (Tx := "dict") (by kernel_rfl) (by rw [isSubtype_type]; kernel_rfl)) ⟨⟨_, ho, hx.1⟩, qq⟩
          | exact call_isinstance (isinstance_false_dict (by decide) (by kernel_rfl) (by rw [isSubtype_type]; kernel_rfl)) ⟨⟨_, ho, hx.1⟩, qt _⟩
      | flist vs => cases e
      | sdict vs => cases e
      | inst C d => cases e
end
end Mine

namespace Mine
open PySem PyProof.Rows PySem.Calls PySem.SeqAt

theorem attributeBase_plain {o : PySem.Expr} {a : Str} {env : Env} {whole : Sem Value} (h : plainO o = true) : attributeBase o a env whole = whole := by
  cases o
  case Call g args kw p =>
    cases g <;> try rfl
    rename_i id p'
    cases args <;> try rfl
    cases kw <;> try rfl
    have h : (!(id == ("super" : Str))) = true := h
    have : (id != ("super" : Str)) = true := h
    show (if _ then _ else _) = _
    simp [this]
  all_goals rfl

section
variable {X : Ctx} {sc : Scope} {σ : Slots}

theorem evalEach_two {a b : PySem.Expr} {env : Env} {p : Pos} (ha : plainE a = true) (hb : plainE b = true) : backTo p (starEach [a, b] env) = [(false, eval a env), (false, eval b env)] := by
  rw [starEach_cons ha, starEach_cons hb]; rfl

theorem ckTy_name {t : Ty} {e : PySem.Expr} (h : ckTy sc t e = true) : ∃ n p, e = .Name n p ∧ isGlob sc n = true ∧ (∀ T, tyStr t = some T → n = Str.ofString T) ∧ (∀ C, t = .own C ∨ t = .exn C → n = C) := by
  have h := (Bool.and_eq_true _ _).mp h
  have h1 := (Bool.and_eq_true _ _).mp h.1
  obtain ⟨n, p, rfl⟩ := vw2 (beq_iff_eq.mp h1.1)
  have e : n = tyName t := beq_iff_eq.mp h1.2
  refine ⟨n, p, rfl, h.2, fun T hT => ?_, fun C hC => ?_⟩
  · rw [e]; cases t <;> cases hT <;> rfl
  · rw [e]; rcases hC with rfl | rfl <;> rfl

/-- isinstance of a value against a built-in class -/
theorem se_isi (G : X.Good) {a : Ex} {x e : PySem.Expr} {t : Ty} {p pos : Pos} (ha : SE X sc σ a x) (hp : plainE x = true) (hg : isGlob sc ("isinstance" : Str) = true) (ht : ckTy sc t e = true) :
    SE X sc σ (.isi a [t]) (.Call (.Name "isinstance" p) [x, e] [] pos) := by
  intro c R fr Q h env A s w i
  unfold wpE at w
  obtain ⟨n, np, rfl, hgn, hn, hown⟩ := ckTy_name ht
  show wpAny _ _ (eval (.Name "isinstance" p) env >>= fun v => callWith pos v [] (backTo pos (starEach [x, .Name n np] env)) []) _ _ _
  refine wpAny_bind (load_builtin G i hg (by decide) G.isi ?_)
  rw [evalEach_two hp rfl]
  refine callWith_builtin rfl (evalArgs_plain (spliced_cons (wpAny_mono (ha _ _ _ _ _ _ _ _ w i) (fun v s1 ⟨z, h1, rv, st, w1⟩ => ?_) fun _ _ e => e)))
  have i1 := i.step st
  dsimp only at w1
  split at w1
  · rename_i b hb
    cases hT : tyStr t with
    | some T =>
      have hn' := hn T hT
      subst hn'
      have hty := G.ty T (by cases t <;> simp [tyStr] at hT <;> subst hT <;> simp)
      refine spliced_cons (load_builtin G i1 hgn (by cases t <;> simp [tyStr] at hT <;> subst hT <;> decide) hty (spliced_nil ?_))
      simp only [List.nil_append]
      exact wpAny_mono (isi_ok st.rel rv hT hb w1) (fun _ _ q => q.back st) fun _ _ e => e
    | none =>
      have : tyN t = none := by cases t <;> first | (cases hT; done) | rfl
      unfold isiV at hb
      rw [this] at hb
      split at hb
      · rename_i h2; cases h2
      · cases hb
  · exact w1.elim

/-! methods of lists and dicts -/
def bmT : Bm → String
  | .get | .setdefault => "dict"
  | .split | .join => "str"
  | _ => "list"
def bmId : Bm → String
  | .append => "list.append" | .insert => "list.insert" | .pop => "list.pop" | .index => "list.index" | .get => "dict.get" | .setdefault => "dict.setdefault" | .split => "str.split" | .join => "str.join"

theorem bm_ok {m : Bm} {x : V} {v : Value} {xs : List V} {vs : List Value} {h : AH} {s : Shared} {A : Around} {E : Value → Shared → Prop} {Q : V → AH → Prop} (hu : A.units + 20 < cLine) (r : Rel X h s.heap) (rx : RepV s.heap x v) (rv : RepVs s.heap xs vs) (w : bmP m x xs h Q) :
    wpAny X.M A (call (.builtin (bmId m)) (v :: vs)) (ValPost X h s Q) E s := by
  unfold bmP at w
  split at w
  · simp only [RepV] at rx; subst rx
    obtain ⟨u, _, rfl, r1, r2⟩ := rv; cases r2
    split at w
    · rename_i l ha
      obtain ⟨n, items, ha', ra, z⟩ := r.rep _ _ ha
      refine wpAny_list_append_plain (items := items.toArray) ⟨n, ha'⟩ (fun h' hl' hs' => ?_) (by rw [List.size_toArray, ra.length]; exact big_size z)
      have kk := sameBut_keeps hs'
      obtain ⟨n', hg⟩ := hl'
      exact ⟨_, _, rep_none, Step.upd r ha (by simp) kk ⟨rfl, rfl, rfl⟩ (o' := .list (l ++ [_])) ⟨n', items ++ [u], by simpa using hg, (ra.append (.cons r1 .nil)).mono (vk_of_upd r ha kk), by have := w.1; unfold small at this; unfold big; simp; omega⟩, w.2⟩
    · exact w.elim
  · exact w.elim

theorem bmKind_type {m : Bm} {x : V} {v : Value} {h : AH} {s : Shared} (r : Rel X h s.heap) (rx : RepV s.heap x v) (k : bmKind m x h) : s.TypeIs v (bmT m) ∧ (∀ a, v = .ref a → ∃ ob, s.heap.get? a = some ob ∧ ob.dict = none) := by
  unfold bmKind at k
  split at k
  · simp only [RepV] at rx; subst rx
    split at k
    all_goals first
      | (split at k
         · rename_i ha
           first
            | (obtain ⟨n, items, ha', _⟩ := r.rep _ _ ha
               exact ⟨⟨_, ha', rfl⟩, fun a e => by cases e; exact ⟨_, ha', rfl⟩⟩)
            | (obtain ⟨us, hd, _⟩ := r.rep _ _ ha
               obtain ⟨ob, es, ho, hx, _⟩ := id hd
               exact ⟨⟨_, ho, hx.1⟩, fun a e => by cases e; exact ⟨_, ho, hx.2.1⟩⟩)
         · exact k.elim)
      | exact k.elim
  · exact k.elim

theorem bm_slot {m : Bm} : PlainAttrs (bmT m) ∧ Slot (bmT m) (bmName m) (bmId m) ∧ typeOf (.builtin (bmId m)) = pure (.type "method_descriptor") := by
  cases m
  · exact ⟨PySem.F.plainAttrs_list, PySem.F.slot_list_append, PySem.F.type_list_append⟩
  · exact ⟨PySem.F.plainAttrs_list, PySem.F.slot_list_insert, PySem.F.type_list_insert⟩
  · exact ⟨PySem.F.plainAttrs_list, PySem.F.slot_list_pop, PySem.F.type_list_pop⟩
  · exact ⟨PySem.F.plainAttrs_list, PySem.F.slot_list_index, PySem.F.type_list_index⟩
  · exact ⟨PySem.F.plainAttrs_dict, PySem.F.slot_dict_get, PySem.F.type_dict_get⟩
  · exact ⟨PySem.F.plainAttrs_dict, PySem.F.slot_dict_setdefault, PySem.F.type_dict_setdefault⟩
  · exact ⟨PySem.F.plainAttrs_str, PySem.F.slot_str_split, PySem.F.type_str_split⟩
  · exact ⟨PySem.F.plainAttrs_str, PySem.F.slot_str_join, PySem.F.type_str_join⟩

theorem star_few {p : Pos} : ∀ {vs : List PySem.Expr} {env : Env}, (∀ e ∈ vs, plainE e = true) → (backTo p (starEach vs env)).all (fun x => !x.1) = true
  | [], env, _ => rfl
  | e :: es, env, hp => by rw [starEach_cons (hp e (.head _)), backTo_false]; simpa using star_few fun e he => hp e (.tail _ he)

theorem se_bm {m : Bm} {o : Ex} {es : List Ex} {v : PySem.Expr} {args : List PySem.Expr} {apos pos : Pos} (ho : SE X sc σ o v) (hs : SEs X sc σ es args) (hp : ∀ e ∈ args, plainE e = true) (hov : plainO v = true) (hline : (apos.endLine == pos.line) = true) (hlen : args.length < 29) :
    SE X sc σ (.bm m o es) (.Call (.Attribute v (bmName m) apos) args [] pos) := by
  intro c R fr Q h env A s w i
  unfold wpE at w
  refine wpAny_Call_method_late (attributeBase_plain hov) (by rw [star_few hp]; simp [backToKw, keywordEach]; omega) hline rfl (wpAny_mono (ho _ _ _ _ _ _ _ _ w i) (fun ov s1 ⟨x, h1, rv, st, hk, w1⟩ => ?_) fun _ _ e => e)
  have i1 := i.step st
  obtain ⟨ty, dd⟩ := bmKind_type st.rel rv hk
  obtain ⟨pa, sl, tt⟩ := bm_slot (m := m)
  refine ⟨bmT m, bmId m, pa, sl, tt, ty, dd, ?_⟩
  have key := spliced_ok hs hp (p := pos) _ _ _ _ _ _ _ _ w1 i1
  refine callWith_builtin (star_any hp) (wpAny_mono (evalArgs_ok (star_any hp) key) (fun a s2 ⟨hkw, xs, h2, rvs, st2, w2⟩ => ?_) fun _ _ e => e.back st)
  rw [hkw]
  show wpAny _ _ (call (.builtin (bmId m)) (ov :: a.pos)) _ _ _
  exact wpAny_mono (bm_ok i.a.u st2.rel (rv.mono (st2.vk i1.r)) rvs w2) (fun _ _ q => q.back (st.trans st2)) fun _ _ e => e
end
end Mine

namespace Mine
open PySem PyProof.Rows PySem.Calls PySem.SeqAt

def Own (env : Env) (b : Addr) : Prop := b = env.locals ∨ ∃ n, env.cells.lookup n = some b
structure StepF (X : Ctx) (env : Env) (ah : AH) (s : Shared) (ah' : AH) (s' : Shared) : Prop where
  rel : Rel X ah' s'.heap
  kept : Kept (fun b => ah b ≠ none ∨ Own env b) s.heap s'.heap
  fresh : ∀ b o, s.heap.get? b = some o → ah b = none → ah' b = none
  there : ∀ b o, s.heap.get? b = some o → ∃ o', s'.heap.get? b = some o'
  rest : s'.gens = s.gens ∧ s'.drawn = s.drawn ∧ s'.os = s.os

section
variable {X : Ctx} {sc : Scope} {σ : Slots} {c : Cfg} {env : Env} {fr fr' : Fm} {A : Around} {ah ah' ah'' : AH} {s s' s'' : Shared}

theorem SRep.vk {h' : Heap} (r : Rel X ah s.heap) (x : SRep σ env fr ah s.heap) (k : Kept (fun b => ah b ≠ none ∨ Own env b) s.heap h') : VK s.heap h' := fun b o e l => by
  have n1 : ah b = none := by
    cases hb : ah b with
    | none => rfl
    | some ob =>
      obtain ⟨o', e', nl⟩ := (r.rep b ob hb).there
      rw [e] at e'; cases e'; exact absurd l nl
  have n2 : ¬ Own env b := by
    rintro (q | ⟨n, q⟩)
    · obtain ⟨m, ⟨o', es, ep, e', d, _⟩, _⟩ := x.ns
      rw [q] at e; rw [e] at e'; cases e'; exact l.notDict _ _ d
    · obtain ⟨cm, hc, _⟩ := x.cs
      obtain ⟨o', e', d⟩ := hc n b q
      rw [e] at e'; cases e'; exact l.notCell _ d
  obtain ⟨o', e', so⟩ := k b o e (by rintro (q | q); exact q n1; exact n2 q)
  rw [← so.eq l.notDict]; exact e'
theorem StepF.vk (r : Rel X ah s.heap) (x : SRep σ env fr ah s.heap) (t : StepF X env ah s ah' s') : VK s.heap s'.heap := x.vk r t.kept
theorem StepF.refl (r : Rel X ah s.heap) : StepF X env ah s ah s := ⟨r, fun _ o e _ => ⟨o, e, .refl o⟩, fun _ _ _ q => q, fun _ o e => ⟨o, e⟩, rfl, rfl, rfl⟩
theorem StepF.trans (t : StepF X env ah s ah' s') (u : StepF X env ah' s' ah'' s'') : StepF X env ah s ah'' s'' :=
  ⟨u.rel, fun b o e n => by
      obtain ⟨o', e', so⟩ := t.kept b o e n
      have hn : ah b = none := Classical.byContradiction fun q => n (.inl q)
      have hown : ¬ Own env b := fun q => n (.inr q)
      obtain ⟨o'', e'', so'⟩ := u.kept b o' e' (by rintro (q | q); exact q (t.fresh b o e hn); exact hown q)
      exact ⟨o'', e'', so.trans so'⟩,
    fun b o e q => by obtain ⟨o', e'⟩ := t.there b o e; exact u.fresh b o' e' (t.fresh b o e q),
    fun b o e => by obtain ⟨o', e'⟩ := t.there b o e; exact u.there b o' e',
    u.rest.1.trans t.rest.1, u.rest.2.1.trans t.rest.2.1, u.rest.2.2.trans t.rest.2.2⟩
theorem Step.toF (t : Step X ah s ah' s') : StepF X env ah s ah' s' :=
  ⟨t.rel, fun b o e n => t.kept b o e fun q => n (.inl q), t.fresh, t.there, t.rest⟩

structure InS (X : Ctx) (c : Cfg) (sc : Scope) (σ : Slots) (env : Env) (fr : Fm) (A : Around) (ah : AH) (s : Shared) : Prop where
  a : OkA c A
  e : EnvOk sc env
  f : SRep σ env fr ah s.heap
  r : Rel X ah s.heap
  b : ∀ a, Own env a → X.base.get? a = none
theorem InS.inE (x : InS X c sc σ env fr A ah s) : In X c sc σ env fr A ah s := ⟨x.a, x.e, x.f.frep, x.r⟩
theorem InS.step (x : InS X c sc σ env fr A ah s) (t : Step X ah s ah' s') : InS X c sc σ env fr A ah' s' := ⟨x.a, x.e, x.f.step x.r t, t.rel, x.b⟩
theorem InS.stepF (x : InS X c sc σ env fr A ah s) (t : StepF X env ah s ah' s') (f : SRep σ env fr' ah' s'.heap) : InS X c sc σ env fr' A ah' s' := ⟨x.a, x.e, f, t.rel, x.b⟩

def OutRep (h : Heap) : Out → Flow → Prop
  | .next, .next => True
  | .ret x, .ret v => RepV h x v
  | _, _ => False
def StPost (X : Ctx) (σ : Slots) (env : Env) (ah : AH) (s : Shared) (Q : QS) (fl : Flow) (s' : Shared) : Prop :=
  ∃ out fr' ah', OutRep s'.heap out fl ∧ StepF X env ah s ah' s' ∧ SRep σ env fr' ah' s'.heap ∧ Q out fr' ah'
def ExcPostS (X : Ctx) (A : Around) (σ : Slots) (env : Env) (ah : AH) (s : Shared) (R : RS) (e : Value) (s' : Shared) : Prop :=
  ∃ C fr' ah', Flight X A e C s' ∧ StepF X env ah s ah' s' ∧ SRep σ env fr' ah' s'.heap ∧ R C fr' ah'
theorem StPost.back {Q fl} (t : StepF X env ah s ah' s') (p : StPost X σ env ah' s' Q fl s'') : StPost X σ env ah s Q fl s'' :=
  let ⟨o, f, h, a, b, d, q⟩ := p; ⟨o, f, h, a, t.trans b, d, q⟩
theorem ExcPostS.back {R e} (t : StepF X env ah s ah' s') (p : ExcPostS X A σ env ah' s' R e s'') : ExcPostS X A σ env ah s R e s'' :=
  let ⟨C, f, h, a, b, d, q⟩ := p; ⟨C, f, h, a, t.trans b, d, q⟩
theorem ExcPost.toS {R : RS} {e : Value} (r : Rel X ah s.heap) (f : SRep σ env fr ah s.heap) (p : ExcPost X A ah s (fun C h => R C fr h) e s') : ExcPostS X A σ env ah s R e s' :=
  let ⟨C, h, a, b, q⟩ := p; ⟨C, fr, h, a, b.toF, f.step r b, q⟩

def SS (X : Ctx) (sc : Scope) (σ : Slots) (x : St) (e : PySem.Stmt) : Prop :=
  ∀ c Q R fr h env A s, wpS X c x Q R fr h → InS X c sc σ env fr A h s → wpAny X.M A (exec e env) (StPost X σ env h s Q) (ExcPostS X A σ env h s R) s
def SSs (X : Ctx) (sc : Scope) (σ : Slots) (xs : List St) (es : List PySem.Stmt) : Prop :=
  ∀ c Q R fr h env A s, wpSs X c xs Q R fr h → InS X c sc σ env fr A h s → wpAny X.M A (execs es env) (StPost X σ env h s Q) (ExcPostS X A σ env h s R) s

theorem set_get {fr : Fm} {i j : Nat} {x : V} : (fr.set i (some x))[j]? = if i = j then (fr[j]?).map (fun _ => some x) else fr[j]? := by
  rw [List.getElem?_set]
  by_cases h : i = j
  · subst h
    simp only [if_true]
    by_cases hl : i < fr.length
    · simp [hl]
    · simp [hl]
  · simp [h]

/-- a store into the frame -/
theorem store_ok {n : Str} {k : Nat} {x : V} {v : Value} {P : Unit → Shared → Prop} {E : Value → Shared → Prop} (i : InS X c sc σ env fr A ah s) (hn : σ.lookup n = some k) (rv : RepV s.heap x v)
    (hP : ∀ s', StepF X env ah s ah s' → SRep σ env (fr.set k (some x)) ah s'.heap → P () s') : wpAny X.M A (storeName env n v) P E s := by
  obtain ⟨m, hns, hm⟩ := i.f.ns
  obtain ⟨cm, hc, hcm⟩ := i.f.cs
  have fin : ∀ (h' : Heap) (tk : Nat) (b : Addr), Own env b → (∀ b', b' ≠ b → ∀ o, s.heap.get? b' = some o → h'.get? b' = some o) → (∃ o', h'.get? b = some o') → StepF X env ah s ah { s with heap := h', toks := tk } := fun h' tk b ob kk tb => by
    have kp : Kept (fun b => ah b ≠ none ∨ Own env b) s.heap h' := fun b' o e nn => ⟨o, kk b' (fun z => nn (.inr (z ▸ ob))) o e, .refl o⟩
    have vk := i.f.vk i.r kp
    have ub : ah b = none := by
      rcases ob with q | ⟨n, q⟩
      · rw [q]; exact i.f.uloc
      · exact i.f.ucel n b q
    refine ⟨⟨fun b' o q => kk b' (fun z => ?_) o (i.r.base b' o q), fun a o q => (i.r.rep a o q).mono vk fun o' e => kk a (fun z => ?_) o' e, i.r.own⟩, kp, fun _ _ _ q => q, fun b' o e => ?_, rfl, rfl, rfl⟩
    · have := i.b b ob; rw [← z, q] at this; cases this
    · rw [z] at q; rw [ub] at q; cases q
    · by_cases z : b' = b
      · rw [z]; exact tb
      · exact ⟨o, kk b' z o e⟩
  have kinds := i.f.kinds n k hn
  have other : ∀ n' j, σ.lookup n' = some j → n' ≠ n → (fr.set k (some x))[j]? = fr[j]? := fun n' j hj hne => by
    rw [set_get, if_neg]
    rintro rfl
    exact hne (i.f.inj n' n _ hj hn)
  have self : ∀ {hp : Heap}, RepV hp x v → RepOpt hp (fr.set k (some x))[k]? (some v) := fun {hp} r => by
    rw [set_get, if_pos rfl]
    cases fr[k]? with
    | none => trivial
    | some _ => exact ⟨v, rfl, r⟩
  rcases kinds with hk | hk
  · refine wpAny_storeName_local hk hns (fun h' hn' hs' => ?_) (by rw [i.e.kind]; rfl)
    have st := fin h' (s.toks + 1) env.locals (.inl rfl) (fun b' z o e => hs'.extBut b' o z e) (Heap.Ns.there hn')
    have vk := i.f.vk i.r st.kept
    refine hP _ st ⟨⟨_, hn', fun n' j hj hkj => ?_⟩, ⟨cm, fun n' c' hc' => (hc n' c' hc').sameBut hs' (Nat.ne_of_gt (i.f.above n' c' (mem_of_lookup hc'))), fun n' j hj hkj => ⟨(hcm n' j hj hkj).1, ?_⟩⟩, i.f.apart, i.f.above, i.f.uloc, i.f.ucel, i.f.kinds, i.f.inj⟩
    · by_cases z : n' = n
      · subst z
        rw [hn] at hj; cases hj
        simp only [if_true]
        exact self (rv.mono vk)
      · simp only [z, if_false]
        rw [other n' j hj z]
        exact (hm n' j hj hkj).mono vk
    · have z : n' ≠ n := fun z => by subst z; rw [hk] at hkj; cases hkj
      rw [other n' j hj z]
      exact (hcm n' j hj hkj).2.mono vk
  · obtain ⟨⟨cc, hcc⟩, ro⟩ := hcm n k hn hk
    refine wpAny_storeName_cell i.e.kind hk hcc (hc n cc hcc) fun h' hc' hs' => ?_
    have st := fin h' s.toks cc (.inr ⟨n, hcc⟩) (fun b' z o e => hs'.extBut b' o z e) (Heap.IsCell.there hc')
    have vk := i.f.vk i.r st.kept
    refine hP _ st ⟨⟨m, hns.sameBut hs' (Nat.ne_of_lt (i.f.above n cc (mem_of_lookup hcc))), fun n' j hj hkj => ?_⟩, ⟨fun y => if y = n then some v else cm y, fun n' c' hc'' => ?_, fun n' j hj hkj => ⟨(hcm n' j hj hkj).1, ?_⟩⟩, i.f.apart, i.f.above, i.f.uloc, i.f.ucel, i.f.kinds, i.f.inj⟩
    · have z : n' ≠ n := fun z => by subst z; rw [hk] at hkj; cases hkj
      rw [other n' j hj z]
      exact (hm n' j hj hkj).mono vk
    · by_cases z : n' = n
      · subst z
        rw [hcc] at hc''; cases hc''
        simpa using hc'
      · simp only [z, if_false]
        exact (hc n' c' hc'').sameBut hs' fun q => z (name_of_addr i.f.apart (mem_of_lookup hc'') (q ▸ mem_of_lookup hcc))
    · by_cases z : n' = n
      · subst z
        rw [hn] at hj; cases hj
        simp only [if_true]
        exact self (rv.mono vk)
      · simp only [z, if_false]
        rw [other n' j hj z]
        exact (hcm n' j hj hkj).2.mono vk

/-! statements -/
theorem ss_pass {p : Pos} : SS X sc σ .pass (.Pass p) := by
  intro c Q R fr h env A s w i
  unfold wpS at w
  exact wpAny_Pass ⟨.next, fr, h, trivial, .refl i.r, i.f, w⟩

theorem ss_ret {e : Ex} {x : PySem.Expr} {p : Pos} (hx : SE X sc σ e x) : SS X sc σ (.ret e) (.Return (some x) p) := by
  intro c Q R fr h env A s w i
  unfold wpS at w
  exact wpAny_Return_some (wpAny_mono (hx _ _ _ _ _ _ _ _ w i.inE) (fun v s1 ⟨y, h1, rv, st, q⟩ => ⟨.ret y, fr, h1, rv, st.toF, i.f.step i.r st, q⟩) fun _ _ e => e.toS i.r i.f)

theorem ss_ite {e : Ex} {x : PySem.Expr} {a b : List St} {as bs : List PySem.Stmt} {p : Pos} (hx : ST X sc σ e x) (ha : SSs X sc σ a as) (hb : SSs X sc σ b bs) : SS X sc σ (.ite e a b) (.If x as bs p) := by
  intro c Q R fr h env A s w i
  unfold wpS at w
  refine wpAny_If (wpAny_mono (hx _ _ _ _ _ _ _ _ w i.inE) (fun r s1 ⟨h1, st, q⟩ => ?_) fun _ _ e => e.toS i.r i.f)
  cases r
  · exact wpAny_mono (hb _ _ _ _ _ _ _ _ q (i.step st)) (fun _ _ q => q.back st.toF) fun _ _ e => e.back st.toF
  · exact wpAny_mono (ha _ _ _ _ _ _ _ _ q (i.step st)) (fun _ _ q => q.back st.toF) fun _ _ e => e.back st.toF

theorem sss_nil : SSs X sc σ [] [] := by
  intro c Q R fr h env A s w i
  unfold wpSs at w
  exact wpAny_execs_nil ⟨.next, fr, h, trivial, .refl i.r, i.f, w⟩
theorem sss_cons {x : St} {xs : List St} {e : PySem.Stmt} {es : List PySem.Stmt} (hx : SS X sc σ x e) (hs : SSs X sc σ xs es) : SSs X sc σ (x :: xs) (e :: es) := by
  intro c Q R fr h env A s w i
  unfold wpSs at w
  refine wpAny_execs_cons (wpAny_mono (hx _ _ _ _ _ _ _ _ w i) (fun fl s1 ⟨out, fr1, h1, ro, st, f1, q⟩ => ?_) fun _ _ e => e)
  cases out with
  | next =>
    cases fl <;> simp only [OutRep] at ro
    exact wpAny_mono (hs _ _ _ _ _ _ _ _ q (i.stepF st f1)) (fun _ _ q => q.back st) fun _ _ e => e.back st
  | ret v =>
    cases fl <;> simp only [OutRep] at ro
    exact ⟨.ret v, fr1, h1, ro, st, f1, q⟩

end
end Mine

namespace Mine
open PySem PyProof.Rows PySem.Calls PySem.SeqAt

/-- an iterator over the values vs; g: what must still lie there -/
structure It (X : Ctx) (A : Around) (vs : List V) (g : Guard) (I : Addr) (St : Nat → Heap → Prop) : Prop where
  frame : ∀ i h h', St i h → (∀ o, h.get? I = some o → h'.get? I = some o) → VK h h' → St i h'
  obj : ∀ i h, St i h → ∃ o, h.get? I = some o ∧ ¬ Lean o ∧ ∀ es ep, o.data ≠ .dict es ep
  self : ∀ i s Q E, St i s.heap → Q (.ref I) s → wpAny X.M A (pyIter (.ref I)) Q E s
  item : ∀ i x ah s Q E, vs[i]? = some x → St i s.heap → Rel X ah s.heap → g.ok ah →
    (∀ v h' tk, RepV h' x v → St (i + 1) h' → (∀ b o, b ≠ I → s.heap.get? b = some o → h'.get? b = some o) → Q (some v) { s with heap := h', toks := tk }) → wpAny X.M A (pyNext (.ref I)) Q E s
  done : ∀ ah s Q E, St vs.length s.heap → Rel X ah s.heap → g.ok ah →
    (∀ h' tk, (∀ b o, b ≠ I → s.heap.get? b = some o → h'.get? b = some o) → Q none { s with heap := h', toks := tk }) → wpAny X.M A (pyNext (.ref I)) Q E s

section
variable {X : Ctx} {A : Around}

theorem vk_but {I : Addr} {h h' : Heap} (nl : ∀ o, h.get? I = some o → ¬ Lean o) (kk : ∀ b o, b ≠ I → h.get? b = some o → h'.get? b = some o) : VK h h' := fun b o e l => by
  refine kk b o (fun z => ?_) e
  subst z
  exact nl o e l

theorem It.list (hh : A.handled = none) {I ax : Addr} {vs : List V} (hne : ax ≠ I) : It X A vs (atG ax (.list vs)) I (fun i h => h.IsListIter I ax i) where
  frame := fun i h h' st k _ => st.at k
  obj := fun i h ⟨o, e, c, d⟩ => ⟨o, e, by unfold Lean; simp [c], by simp [d]⟩
  self := fun i s Q E st q => wpAny_pyIter_listiter st q
  item := fun i x ah s Q E hx st r g hQ => by
    obtain ⟨n, items, ha, ra, z⟩ := r.rep _ _ g
    obtain ⟨v, hv, rv⟩ := ra.get hx
    refine wpAny_pyNext_list_item st (isList_of ha) (by simpa using hv) fun h' st' hs' => ?_
    have kk : ∀ b o, b ≠ I → s.heap.get? b = some o → h'.get? b = some o := fun b o n e => hs'.extBut b o n e
    obtain ⟨o, e, c, d⟩ := st
    exact hQ v h' s.toks (rv.mono (vk_but (I := I) (fun o' e' => by rw [e] at e'; cases e'; unfold Lean; simp [c]) kk)) st' kk
  done := fun ah s Q E st r g hQ => by
    obtain ⟨n, items, ha, ra, z⟩ := r.rep _ _ g
    exact wpAny_pyNext_list_end hh st (isList_of ha) (by simp [ra.length]) fun h' he => hQ h' s.toks fun b o n e => he b o n e

theorem It.dict (hh : A.handled = none) {I d : Addr} {kvs : List (Int × V)} {ep : Nat} : It X A (kvs.map fun kv => .int kv.1) (atG d (.idict kvs ep)) I (fun i h => h.IsKeyIter I d i kvs.length ep) where
  frame := fun i h h' st k _ => st.at k
  obj := fun i h ⟨o, e, c, d⟩ => ⟨o, e, by unfold Lean; simp [c], by simp [d]⟩
  self := fun i s Q E st q => wpAny_pyIter_keyiter st q
  item := fun i x ah s Q E hx st r g hQ => by
    obtain ⟨us, hd, ra, z, ns⟩ := r.rep _ _ g
    have l := ra.length
    simp only [List.length_map] at l
    have l2 : ((kvs.map (·.1)).zip us).length = kvs.length := by simp [l]
    simp only [List.getElem?_map, Option.map_eq_some_iff] at hx
    obtain ⟨kv, hkv, rfl⟩ := hx
    have hi : i < kvs.length := (List.getElem?_eq_some_iff.mp hkv).1
    have hz : ((kvs.map (·.1)).zip us)[i]? = some (kv.1, us[i]'(by omega)) := by
      rw [List.getElem?_zip_eq_some]
      exact ⟨by simp [hkv], by simp⟩
    refine wpAny_pyNext_dict_item (by rw [l2]; exact st) hd hz fun key h' hk st' hs' => ?_
    have kk : ∀ b o, b ≠ I → s.heap.get? b = some o → h'.get? b = some o := fun b o n e => hs'.extBut b o n e
    have hkey : ∃ t, key = .int kv.1 t := by
      cases key <;> simp [intKind, Value.isInt] at hk
      exact ⟨_, by rw [hk]⟩
    obtain ⟨t, rfl⟩ := hkey
    rw [l2] at st'
    exact hQ _ h' s.toks rep_int st' kk
  done := fun ah s Q E st r g hQ => by
    obtain ⟨us, hd, ra, z, ns⟩ := r.rep _ _ g
    have l := ra.length
    simp only [List.length_map] at l
    have l2 : ((kvs.map (·.1)).zip us).length = kvs.length := by simp [l]
    simp only [List.length_map] at st
    exact wpAny_pyNext_dict_end hh (by rw [l2]; exact st) hd (by rw [List.getElem?_eq_none]; omega) fun h' he => hQ h' s.toks fun b o n e => he b o n e

theorem It.range (hh : A.handled = none) {I : Addr} {a : Int} {n : Nat} : It X A ((List.range n).map fun i => .int (a + (i : Nat))) freeG I (fun i h => IsRangeIter h I (a + (i : Nat) * 1) ((n : Int) - (i : Nat)) 1) where
  frame := fun i h h' st k _ => k _ st
  obj := fun i h st => ⟨_, st, by unfold Lean; simp, by simp⟩
  self := fun i s Q E st q => wpAny_pyIter_rangeiter st q
  item := fun i x ah s Q E hx st r g hQ => by
    simp only [List.getElem?_map, Option.map_eq_some_iff] at hx
    obtain ⟨j, hj, rfl⟩ := hx
    obtain ⟨hi, rfl⟩ := List.getElem?_eq_some_iff.mp hj
    simp only [List.getElem_range, List.length_range] at hi ⊢
    refine (Walks.range (prog := X.prog) (w := X.w) (A := A) hh I a 1 n).item i s Q E hi st fun v h' tk hp st' kk => ?_
    obtain ⟨t, rfl⟩ := hp
    exact hQ _ h' tk (by simp [RepV]) st' fun b o nn e => kk b o (by simpa using nn) e
  done := fun ah s Q E st r g hQ => by
    simp only [List.length_map, List.length_range] at st
    exact (Walks.range (prog := X.prog) (w := X.w) (A := A) hh I a 1 n).done s Q E st fun h' tk kk => hQ h' tk fun b o nn e => kk b o (by simpa using nn) e

theorem It.tup (hh : A.handled = none) {I t : Addr} {n : Nat} {vs : List V} {items : List Value} (hne : t ≠ I) : It X A vs freeG I (fun i h => h.IsTupleIter I t i ∧ h.get? t = some { cls := .type "tuple", data := .seq items.toArray n } ∧ RepVs h vs items) where
  frame := fun i h h' st k vk => ⟨st.1.at k, vk _ _ st.2.1 (.inl ⟨rfl, _, _, rfl⟩), st.2.2.mono vk⟩
  obj := fun i h ⟨⟨o, e, c, d⟩, _⟩ => ⟨o, e, by unfold Lean; simp [c], by simp [d]⟩
  self := fun i s Q E st q => wpAny_pyIter_tupleiter st.1 q
  item := fun i x ah s Q E hx st r g hQ => by
    obtain ⟨v, hv, rv⟩ := st.2.2.get hx
    refine wpAny_pyNext_tuple_item st.1 (isTuple_of st.2.1) (by simpa using hv) fun h' st' hs' => ?_
    have kk : ∀ b o, b ≠ I → s.heap.get? b = some o → h'.get? b = some o := fun b o n e => hs'.extBut b o n e
    obtain ⟨⟨o, e, c, d⟩, s2, s3⟩ := st
    have vk := vk_but (I := I) (fun o' e' => by rw [e] at e'; cases e'; unfold Lean; simp [c]) kk
    exact hQ v h' s.toks (rv.mono vk) ⟨st', kk _ _ hne s2, s3.mono vk⟩ kk
  done := fun ah s Q E st r g hQ =>
    wpAny_pyNext_tuple_end hh st.1 (isTuple_of st.2.1) (by simp [st.2.2.length]) fun h' he => hQ h' s.toks fun b o n e => he b o n e


theorem It.rev (hh : A.handled = none) {I ax : Addr} {vs : List V} (hne : ax ≠ I) : It X A vs.reverse (atG ax (.list vs)) I (fun i h => i ≤ vs.length ∧ h.IsRevIter I ax ((vs.length : Int) - 1 - (i : Int))) where
  frame := fun i h h' st k _ => ⟨st.1, st.2.at k⟩
  obj := fun i h ⟨_, st⟩ => by
    obtain ⟨o, e, c, d⟩ := st
    exact ⟨o, e, by unfold Lean; simp [c], by simp [d]⟩
  self := fun i s Q E st q => wpAny_pyIter_revIter st.2 q
  item := fun i x ah s Q E hx st r g hQ => by
    obtain ⟨n, items, ha, ra, z⟩ := r.rep _ _ g
    have l := ra.length
    have hi : i < vs.length := by have := (List.getElem?_eq_some_iff.mp hx).1; simpa using this
    rw [List.getElem?_reverse hi] at hx
    obtain ⟨v, hv, rv⟩ := ra.get hx
    have e : (vs.length : Int) - 1 - (i : Int) = ((vs.length - 1 - i : Nat) : Int) := by omega
    have hit := st.2
    rw [e] at hit
    refine wpAny_pyNext_rev_item hit (isList_of ha) (by simpa using hv) fun h' st' hs' => ?_
    have kk : ∀ b o, b ≠ I → s.heap.get? b = some o → h'.get? b = some o := fun b o n e => hs'.extBut b o n e
    obtain ⟨o, e', c, d⟩ := hit
    have e2 : ((vs.length - 1 - i : Nat) : Int) - 1 = (vs.length : Int) - 1 - ((i + 1 : Nat) : Int) := by omega
    rw [e2] at st'
    exact hQ v h' s.toks (rv.mono (vk_but (I := I) (fun o' e'' => by rw [e'] at e''; cases e''; unfold Lean; simp [c]) kk)) ⟨hi, st'⟩ kk
  done := fun ah s Q E st r g hQ => by
    have hit := st.2
    rw [List.length_reverse] at hit
    have e : (vs.length : Int) - 1 - (vs.length : Int) = -1 := by omega
    rw [e] at hit
    exact wpAny_pyNext_rev_end hh hit fun h' he => hQ h' s.toks fun b o n e => he b o n e
end
end Mine

namespace Mine
open PySem PyProof.Rows PySem.Calls PySem.SeqAt

section
variable {X : Ctx} {sc : Scope} {σ : Slots}

def IterPost (X : Ctx) (A : Around) (h : AH) (s : Shared) (Q : List V → Guard → AH → Prop) (it : Value) (s' : Shared) : Prop :=
  ∃ I St vs g h1, it = .ref I ∧ It X A vs g I St ∧ St 0 s'.heap ∧ s.heap.get? I = none ∧ h1 I = none ∧ Step X h s h1 s' ∧ vs.length ≤ big ∧ Q vs g h1
def SI (X : Ctx) (sc : Scope) (σ : Slots) (x : Ex) (e : PySem.Expr) : Prop :=
  ∀ c R fr Q h env A s, wpI X c R x (wpE X c R x fr) fr Q h → In X c sc σ env fr A h s → A.handled = none →
    wpAny X.M A (eval e env) (fun xv s1 => wpAny X.M A (pyIter xv) (IterPost X A h s Q) (ExcPost X A h s R) s1) (ExcPost X A h s R) s

variable {A : Around} {h h1 : AH} {s s1 : Shared} {Q : List V → Guard → AH → Prop} {E : Value → Shared → Prop}

theorem Step.fresh_none {I : Addr} (st : Step X h s h1 s1) (hI : s1.heap.get? I = none) : s.heap.get? I = none := by
  cases e : s.heap.get? I with
  | none => rfl
  | some o => obtain ⟨o', e'⟩ := st.there _ _ e; rw [hI] at e'; cases e'

/-- pyIter of what a plain expression gave -/
theorem iter_plain {x : V} {v : Value} (hh : A.handled = none) (st : Step X h s h1 s1) (rv : RepV s1.heap x v)
    (w : srcP Q h1 x) : wpAny X.M A (pyIter v) (IterPost X A h s Q) E s1 := by
  have hn := size_none (Nat.le_refl s1.heap.objs.size)
  have kk : ∀ ob b o, s1.heap.get? b = some o → (s1.heap.push ob).get? b = some o := fun ob b o e => Heap.get?_push_of_some _ e
  have stp : ∀ ob, Step X h s h1 { s1 with heap := s1.heap.push ob } := fun ob => st.trans (Step.keeps st.rel (kk ob) ⟨rfl, rfl, rfl⟩)
  unfold srcP at w
  split at w
  · rw [RepV] at rv
    obtain ⟨a, n, items, rfl, ha, ra, z⟩ := rv
    have hne : a ≠ s1.heap.objs.size := Nat.ne_of_lt (Heap.lt_size ha)
    exact wpAny_pyIter_tuple (isTuple_of ha) ⟨_, _, _, _, h1, rfl, It.tup hh (n := n) (items := items) hne, ⟨⟨_, Heap.get?_push_size _ rfl, rfl, rfl⟩, kk _ _ _ ha, ra.mono (push_vk _ _)⟩, st.fresh_none hn, st.rel.none_of_new hn, stp _, z, w⟩
  · simp only [RepV] at rv; subst rv
    split at w
    · rename_i l ha
      obtain ⟨n, items, ha', ra, z⟩ := st.rel.rep _ _ ha
      have hne := Nat.ne_of_lt (Heap.lt_size ha')
      exact wpAny_pyIter_list (isList_of ha') ⟨_, _, _, _, h1, rfl, It.list hh hne, ⟨_, Heap.get?_push_size _ rfl, rfl, rfl⟩, st.fresh_none hn, st.rel.none_of_new hn, stp _, z, w⟩
    · rename_i d ep ha
      obtain ⟨us, hd, ra, z, ns⟩ := st.rel.rep _ _ ha
      have l := ra.length
      simp only [List.length_map] at l
      have l2 : ((d.map (·.1)).zip us).length = d.length := by simp [l]
      refine wpAny_pyIter_dict (ne_sys ns) hd ?_
      rw [l2]
      exact ⟨_, _, _, _, h1, rfl, It.dict hh, ⟨_, Heap.get?_push_size _ rfl, rfl, rfl⟩, st.fresh_none hn, st.rel.none_of_new hn, stp _, by simpa using z, w⟩
    · exact w.elim
  · exact w.elim

theorem si_plain {x : Ex} {e : PySem.Expr} (hx : SE X sc σ x e)
    (hw : ∀ c R whole fr Q h, wpI X c R x whole fr Q h = whole (fun x h1 => srcP Q h1 x) h) : SI X sc σ x e := by
  intro c R fr Q h env A s w i hh
  rw [hw] at w
  exact wpAny_mono (hx _ _ _ _ _ _ _ _ w i) (fun v s1 ⟨y, h1, rv, st, w1⟩ => iter_plain hh st rv w1) fun _ _ e => e

theorem range_post {m : Int} {n : Nat} {c : Int} {s2 : Shared} (hh : A.handled = none) (st : Step X h s h1 s2) (hc : c = (n : Int)) (hz : n ≤ big) (w : Q ((List.range n).map fun i => .int (m + (i : Nat))) freeG h1) :
    IterPost X A h s Q (.ref s2.heap.objs.size) { s2 with heap := s2.heap.push { cls := .type "range_iterator", data := .fields #[rawInt m, rawInt c, rawInt 1] } } := by
  have hn := size_none (Nat.le_refl s2.heap.objs.size)
  subst hc
  refine ⟨_, _, _, _, h1, rfl, It.range hh (a := m) (n := n), ?_, st.fresh_none hn, st.rel.none_of_new hn, st.trans (Step.keeps st.rel (fun b o e => Heap.get?_push_of_some _ e) ⟨rfl, rfl, rfl⟩), by simpa using hz, w⟩
  have e1 : (m + ((0 : Nat) : Int) * 1) = m := by simp
  have e2 : ((n : Int) - ((0 : Nat) : Int)) = n := by simp
  rw [e1, e2]
  exact Heap.get?_push_size _ rfl

theorem si_range1 (G : X.Good) {b : Ex} {y : PySem.Expr} {p pos : Pos} (hb : SE X sc σ b y) (hp : plainE y = true) (hg : isGlob sc ("range" : Str) = true) : SI X sc σ (.range1 b) (.Call (.Name "range" p) [y] [] pos) := by
  intro c R fr Q h env A s w i hh
  unfold wpI at w
  show wpAny _ _ (eval (.Name "range" p) env >>= fun v => callWith pos v [] (backTo pos (starEach [y] env)) []) _ _ _
  refine wpAny_bind (load_builtin G i hg (by decide) G.range ?_)
  rw [starEach_cons hp]
  refine PySem.callWith_type rfl (evalArgs_plain (spliced_cons (wpAny_mono (hb _ _ _ _ _ _ _ _ w i) (fun v s1 ⟨z, h1, rv, st, w1⟩ => spliced_nil ?_) fun _ _ e => e)))
  dsimp only at w1
  split at w1
  · rename_i n
    simp only [RepV] at rv; obtain ⟨t, rfl⟩ := rv
    obtain ⟨⟨h0, hz⟩, w2⟩ := w1
    unfold small at hz
    refine call_range_1 (wpAny_pyIter_range (IsRange.new ..) (small_one (by decide) (by decide) (by omega) (by omega)) ?_)
    refine range_post hh (st.trans (Step.keeps st.rel (fun b o e => Heap.get?_push_of_some _ e) ⟨rfl, rfl, rfl⟩)) ?_ ?_ w2
    · rw [rangeSize_one]; split <;> omega
    · unfold big; omega
  · exact w1.elim

theorem si_range2 (G : X.Good) {a b : Ex} {x y : PySem.Expr} {p pos : Pos} (ha : SE X sc σ a x) (hb : SE X sc σ b y) (hpx : plainE x = true) (hp : plainE y = true) (hg : isGlob sc ("range" : Str) = true) : SI X sc σ (.range2 a b) (.Call (.Name "range" p) [x, y] [] pos) := by
  intro c R fr Q h env A s w i hh
  unfold wpI at w
  show wpAny _ _ (eval (.Name "range" p) env >>= fun v => callWith pos v [] (backTo pos (starEach [x, y] env)) []) _ _ _
  refine wpAny_bind (load_builtin G i hg (by decide) G.range ?_)
  rw [evalEach_two hpx hp]
  refine PySem.callWith_type rfl (evalArgs_plain (spliced_cons (wpAny_mono (ha _ _ _ _ _ _ _ _ w i) (fun v0 s0 ⟨z0, h0, rv0, st0, w0⟩ => ?_) fun _ _ e => e)))
  refine spliced_cons (wpAny_mono (hb _ _ _ _ _ _ _ _ w0 (i.step st0)) (fun v s1 ⟨z, h1, rv, st, w1⟩ => spliced_nil ?_) fun _ _ e => e.back st0)
  have rv0' := rv0.mono (st.vk st0.rel)
  dsimp only at w1
  split at w1
  · rename_i m n
    simp only [RepV] at rv rv0'; obtain ⟨t, rfl⟩ := rv; obtain ⟨t', rfl⟩ := rv0'
    obtain ⟨⟨g0, g1, g2, hz⟩, w2⟩ := w1
    unfold small at hz g1
    refine call_range_2 (wpAny_pyIter_range (IsRange.new ..) (small_one (by omega) (by omega) (by omega) (by omega)) ?_)
    refine range_post hh ((st0.trans st).trans (Step.keeps st.rel (fun b o e => Heap.get?_push_of_some _ e) ⟨rfl, rfl, rfl⟩)) ?_ ?_ w2
    · rw [rangeSize_one]; split <;> omega
    · unfold big; omega
  · exact w1.elim

theorem si_rev (G : X.Good) {a : Ex} {x : PySem.Expr} {p pos : Pos} (ha : SE X sc σ a x) (hp : plainE x = true) (hg : isGlob sc ("reversed" : Str) = true) : SI X sc σ (.rev a) (.Call (.Name "reversed" p) [x] [] pos) := by
  intro c R fr Q h env A s w i hh
  unfold wpI at w
  show wpAny _ _ (eval (.Name "reversed" p) env >>= fun v => callWith pos v [] (backTo pos (starEach [x] env)) []) _ _ _
  refine wpAny_bind (load_builtin G i hg (by decide) G.reversed ?_)
  rw [starEach_cons hp]
  refine PySem.callWith_type rfl (evalArgs_plain (spliced_cons (wpAny_mono (ha _ _ _ _ _ _ _ _ w i) (fun v s1 ⟨z, h1, rv, st, w1⟩ => spliced_nil ?_) fun _ _ e => e)))
  dsimp only at w1
  split at w1
  · rename_i lx
    simp only [RepV] at rv; subst rv
    split at w1
    · rename_i vs hl
      obtain ⟨n, items, ha', ra, z⟩ := st.rel.rep _ _ hl
      have hn := size_none (Nat.le_refl s1.heap.objs.size)
      have hne := Nat.ne_of_lt (Heap.lt_size ha')
      have stp : Step X h s h1 { s1 with heap := s1.heap.push (revObj lx ((vs.length : Int) - 1)) } := st.trans (Step.keeps st.rel (fun b o e => Heap.get?_push_of_some _ e) ⟨rfl, rfl, rfl⟩)
      refine call_reversed_list (isList_of ha') ?_
      have el : ((items.toArray.size : Nat) : Int) = (vs.length : Int) := by rw [List.size_toArray, ra.length]
      rw [el]
      have hit : (s1.heap.push (revObj lx ((vs.length : Int) - 1))).IsRevIter s1.heap.objs.size lx ((vs.length : Int) - 1) := ⟨_, Heap.get?_push_size _ rfl, rfl, rfl⟩
      exact wpAny_pyIter_revIter (s := { s1 with heap := s1.heap.push (revObj lx ((vs.length : Int) - 1)) }) hit ⟨_, _, _, _, h1, rfl, It.rev hh hne, ⟨Nat.zero_le _, by simpa using hit⟩, st.fresh_none hn, st.rel.none_of_new hn, stp, by simpa using z, w1⟩
    · exact w1.elim
  · exact w1.elim
end
end Mine

namespace Mine
open PySem PyProof.Rows PySem.Calls PySem.SeqAt

section
variable {X : Ctx} {sc : Scope} {σ : Slots} {c : Cfg} {env : Env} {fr fr' : Fm} {A : Around} {ah ah' ah'' ah₀ : AH} {s s' s'' s₀ : Shared} {I : Addr}

theorem ExcPostS.elim {R e} {P : Prop} (p : ExcPostS X A σ env ah s R e s') : P := let ⟨_, _, _, f, _⟩ := p; f.elim
theorem ExcPost.elim {R e} {P : Prop} (p : ExcPost X A ah s R e s') : P := let ⟨_, _, f, _⟩ := p; f.elim

/-- an untracked object that is nobody's own is changed -/
theorem Rel.poke {h' : Heap} (r : Rel X ah s.heap) (uI : ah I = none) (bI : X.base.get? I = none) (vk : VK s.heap h') (kk : ∀ b o, b ≠ I → s.heap.get? b = some o → h'.get? b = some o) : Rel X ah h' :=
  ⟨fun b o q => kk b o (fun z => by subst z; rw [bI] at q; cases q) (r.base b o q), fun a o q => (r.rep a o q).mono vk fun ob e => kk a ob (fun z => by subst z; rw [uI] at q; cases q) e, r.own⟩
theorem SRep.poke {h' : Heap} (f : SRep σ env fr ah s.heap) (oI : ¬ Own env I) (vk : VK s.heap h') (kk : ∀ b o, b ≠ I → s.heap.get? b = some o → h'.get? b = some o) : SRep σ env fr ah h' := by
  obtain ⟨m, hn, hm⟩ := f.ns
  obtain ⟨cm, hc, hcm⟩ := f.cs
  exact ⟨⟨m, Ns.same hn fun o e => ⟨o, kk _ o (fun z => oI (.inl z.symm)) e, rfl⟩, fun n i a b => (hm n i a b).mono vk⟩,
    ⟨cm, fun n c a => IsCell.same (hc n c a) fun o e => ⟨o, kk _ o (fun z => oI (.inr ⟨n, z ▸ a⟩)) e, rfl⟩, fun n i a b => ⟨(hcm n i a b).1, (hcm n i a b).2.mono vk⟩⟩, f.apart, f.above, f.uloc, f.ucel, f.kinds, f.inj⟩
theorem StepF.poke {h' : Heap} {tk : Nat} (t : StepF X env ah₀ s₀ ah s) (hI : s₀.heap.get? I = none) (r : Rel X ah h') (kk : ∀ b o, b ≠ I → s.heap.get? b = some o → h'.get? b = some o) :
    StepF X env ah₀ s₀ ah { s with heap := h', toks := tk } :=
  ⟨r, fun b o e n => by obtain ⟨o', e', so⟩ := t.kept b o e n; exact ⟨o', kk b o' (fun z => by subst z; rw [hI] at e; cases e) e', so⟩, t.fresh,
   fun b o e => by obtain ⟨o', e'⟩ := t.there b o e; exact ⟨o', kk b o' (fun z => by subst z; rw [hI] at e; cases e) e'⟩, t.rest⟩

theorem own_of (f : SRep σ env fr ah s.heap) (hI : s.heap.get? I = none) : ¬ Own env I := by
  rintro (z | ⟨n, z⟩)
  · obtain ⟨m, hn, _⟩ := f.ns
    obtain ⟨o, e⟩ := Heap.Ns.there hn
    rw [← z, hI] at e; cases e
  · obtain ⟨cm, hc, _⟩ := f.cs
    obtain ⟨o, e⟩ := Heap.IsCell.there (hc n I z)
    rw [hI] at e; cases e

theorem base_none (r : Rel X ah s.heap) (hI : s.heap.get? I = none) : X.base.get? I = none := by
  cases e : X.base.get? I with
  | none => rfl
  | some o => rw [r.base _ _ e] at hI; cases hI

/-- the turns of a for -/
theorem for_ok {vs : List V} {g : Guard} {Sx : Nat → Heap → Prop} {n : Str} {k : Nat} {p : Pos} {b : List Mine.St} {body : List PySem.Stmt} {Q : QS} {R : RS} {RR : Result → Shared → Prop}
    (W : It X A vs g I Sx) (hn : σ.lookup n = some k) (hb : SSs X sc σ b body) (i₀ : InS X c sc σ env fr A ah₀ s₀) (hI : s₀.heap.get? I = none)
    (hR : ∀ fl s', StPost X σ env ah₀ s₀ Q fl s' → RR (.ok fl) s')
    (st : StepF X env ah₀ s₀ ah s) (f : SRep σ env fr' ah s.heap) (uI : ah I = none) (hs : Sx 0 s.heap) (w : loopL (fun v fr h K => wpSs X c b K R (fr.set k (some v)) h) g vs fr' ah Q) :
    codeAny X.M A (.forLoop (.Name n p) (.ref I) body [] env) RR s := by
  have oI : ¬ Own env I := own_of i₀.f hI
  have bI : X.base.get? I = none := base_none i₀.r hI
  refine codeAny_forLoop (fun m s' => ∃ j fr1 h1, m = vs.length + 1 - j ∧ j ≤ vs.length ∧ StepF X env ah₀ s₀ h1 s' ∧ SRep σ env fr1 h1 s'.heap ∧ h1 I = none ∧ Sx j s'.heap ∧ loopL (fun v fr h K => wpSs X c b K R (fr.set k (some v)) h) g (vs.drop j) fr1 h1 Q) ?_ (vs.length + 1)
    ⟨0, fr', ah, rfl, Nat.zero_le _, st, f, uI, hs, w⟩
  rintro m s' ⟨j, fr1, h1, rfl, hj, st1, f1, u1, hs1, w1⟩
  obtain ⟨oi, eoi, nli, _⟩ := W.obj j _ hs1
  by_cases hlt : j < vs.length
  · rw [List.drop_eq_getElem_cons hlt] at w1
    unfold loopL at w1
    obtain ⟨gk, w2⟩ := w1
    refine W.item j vs[j] h1 s' _ _ (by simp [hlt]) hs1 st1.rel gk fun v h' tk rv hs2 kk => ?_
    have vk : VK s'.heap h' := vk_but (I := I) (fun o e => by rw [eoi] at e; cases e; exact nli) kk
    have r2 := st1.rel.poke u1 bI vk kk
    have f2 := f1.poke oI vk kk
    have st2 : StepF X env ah₀ s₀ h1 { s' with heap := h', toks := tk } := st1.poke hI r2 kk
    have i2 : InS X c sc σ env fr1 A h1 { s' with heap := h', toks := tk } := ⟨i₀.a, i₀.e, f2, r2, i₀.b⟩
    refine wpAny_assign_Name (store_ok i2 hn rv fun s3 st3 f3 => ?_)
    have i3 := i2.stepF st3 f3
    refine wpAny_mono (hb _ _ _ _ _ _ _ _ w2 i3) (fun fl s4 ⟨out, fr4, h4, ro, st4, f4, q⟩ => ?_) fun _ _ e => e.elim
    have stt := (st2.trans st3).trans st4
    cases out with
    | next =>
      cases fl <;> simp only [OutRep] at ro
      refine ⟨vs.length + 1 - (j + 1), by omega, j + 1, fr4, h4, rfl, hlt, stt, f4, ?_, ?_, q⟩
      · obtain ⟨o2, e2, _⟩ := W.obj _ _ hs2
        obtain ⟨o3, e3⟩ := st3.there _ _ e2
        exact st4.fresh I o3 e3 u1
      · have nI : ¬ (h1 I ≠ none ∨ Own env I) := by rintro (z | z); exact z u1; exact oI z
        have step : ∀ {x y : Shared} {g1 g2 : AH}, StepF X env g1 x g2 y → g1 I = none → ∀ o, x.heap.get? I = some o → (∀ es ep, o.data ≠ .dict es ep) → y.heap.get? I = some o := fun t u o e nd => by
          obtain ⟨o', e', so⟩ := t.kept I o e (by rintro (z | z); exact z u; exact oI z)
          rw [← so.eq nd]; exact e'
        obtain ⟨o2, e2, _, nd2⟩ := W.obj _ _ hs2
        have hs3 := W.frame _ _ s3.heap hs2 (fun o e => by have q := e.symm.trans e2; cases q; exact step st3 u1 _ e nd2) (st3.vk r2 f2)
        obtain ⟨o3, e3, _, nd3⟩ := W.obj _ _ hs3
        exact W.frame _ _ s4.heap hs3 (fun o e => by have q := e.symm.trans e3; cases q; exact step st4 u1 _ e nd3) (st4.vk i3.r f3)
    | ret v =>
      cases fl <;> simp only [OutRep] at ro
      exact hR _ _ ⟨.ret v, fr4, h4, ro, stt, f4, q⟩
  · have hj' : j = vs.length := by omega
    subst hj'
    rw [List.drop_length] at w1
    unfold loopL at w1
    obtain ⟨gk, q⟩ := w1
    refine W.done h1 s' _ _ hs1 st1.rel gk fun h' tk kk => ?_
    have vk : VK s'.heap h' := vk_but (I := I) (fun o e => by rw [eoi] at e; cases e; exact nli) kk
    have r2 := st1.rel.poke u1 bI vk kk
    exact wpAny_execs_nil (hR _ _ ⟨.next, fr1, h1, trivial, st1.poke hI r2 kk, f1.poke oI vk kk, q⟩)

theorem ss_for {k : Nat} {n : Str} {src : Ex} {b : List Mine.St} {iter : PySem.Expr} {body : List PySem.Stmt} {p pos : Pos} (hn : σ.lookup n = some k) (hsrc : SI X sc σ src iter) (hp : plainE iter = true) (hb : SSs X sc σ b body) :
    SS X sc σ (.forr k src b) (.For (.Name n p) iter body [] pos) := by
  intro c Q R fr h env A s w i
  unfold wpS at w
  obtain ⟨hh, w⟩ := w
  refine wpAny_For (wpAny_mono (hsrc _ _ _ _ _ _ _ _ w i.inE (i.a.handled hh)) (fun xv s1 h1 => wpAny_mono h1 (fun it s2 hi => ?_) fun _ _ e => e.toS i.r i.f) fun _ _ e => e.toS i.r i.f) (foldedSet_plain hp)
  obtain ⟨I, Sx, vs, g, h1, rfl, W, hs, hI, uI, st, hz, w1⟩ := hi
  exact for_ok W hn hb i hI (fun fl s' q => q) st.toF (i.f.step i.r st) uI hs w1

end
end Mine

namespace Mine
open PySem PyProof.Rows PySem.Calls PySem.SeqAt

section
variable {X : Ctx} {sc scp : Scope} {σ : Slots} {c : Cfg} {env : Env} {fr fr' : Fm} {A : Around} {ah h h1 : AH} {s s1 : Shared} {x : Str} {k : Nat}

structure ScOk (sc : Scope) (x : Str) (k : Nat) (σ : Slots) (scp : Scope) : Prop where
  kind : scp.kind = .function
  lx : scp.names.lookup x = some .local
  slot : ∀ n i, σ.lookup n = some i → i ≠ k
  dot : σ.lookup (".0" : Str) = none
  nocell : ∀ p ∈ scp.names, p.2 ≠ .cell
  locs : ∀ p ∈ scp.names, p.2 = .local → scp.names.lookup p.1 = some .local ∧ (p.1 = x ∨ p.1 = (".0" : Str))
  free : ∀ p ∈ scp.names, p.2 = .free → sc.names.lookup p.1 = some .cell
end
end Mine

namespace Mine
open PySem PyProof.Rows PySem.Calls PySem.SeqAt

section
variable {X : Ctx} {sc scp : Scope} {σ : Slots} {c : Cfg} {env : Env} {fr fr' : Fm} {A : Around} {ah ah' h h1 : AH} {s s' s₀ s1 : Shared} {x : Str} {k : Nat} {P : Addr}

theorem Step.obj {o : Obj} (t : Step X ah s ah' s') (u : ah P = none) (e : s.heap.get? P = some o) (nd : ∀ es ep, o.data ≠ .dict es ep) : s'.heap.get? P = some o := by
  obtain ⟨o', e', so⟩ := t.kept P o e (by simp [u])
  rw [← so.eq nd]; exact e'
theorem Step.ns {m} (t : Step X ah s ah' s') (u : ah P = none) (n : s.heap.Ns P m) : s'.heap.Ns P m := Ns.same n (t.kept.data (by simp [u]))
theorem Step.poke {h' : Heap} {tk : Nat} (t : Step X h s₀ ah s) (hP : s₀.heap.get? P = none) (r : Rel X ah h') (kk : ∀ b o, b ≠ P → s.heap.get? b = some o → h'.get? b = some o) :
    Step X h s₀ ah { s with heap := h', toks := tk } :=
  ⟨r, fun b o e n => by obtain ⟨o', e', so⟩ := t.kept b o e n; exact ⟨o', kk b o' (fun z => by subst z; rw [hP] at e; cases e) e', so⟩, t.fresh,
   fun b o e => by obtain ⟨o', e'⟩ := t.there b o e; exact ⟨o', kk b o' (fun z => by subst z; rw [hP] at e; cases e) e'⟩, t.rest⟩

end
end Mine

namespace Mine
open PySem PyProof.Rows PySem.Calls PySem.SeqAt

section
variable {X : Ctx} {sc scp : Scope} {σ : Slots} {c : Cfg} {env : Env} {fr fr' : Fm} {A : Around} {ah ah' h h1 : AH} {s s' s₀ s1 : Shared} {x : Str} {k : Nat} {P D : Addr}

end
end Mine

namespace Mine
open PySem PyProof.Rows PySem.Calls PySem.SeqAt

theorem lookup_zip {α : Type} : ∀ {ns : List Str} {vs : List α} {n : Str}, ns.length = vs.length → n ∈ ns → ((ns.zip vs).lookup n).isSome = true
  | [], _, _, _, h => by cases h
  | a :: ns, [], _, h, _ => by simp at h
  | a :: ns, v :: vs, n, hl, h => by
    rw [List.zip_cons_cons, List.lookup_cons]
    cases hb : n == a with
    | true => rfl
    | false =>
      cases h with
      | head => simp at hb
      | tail _ h => exact lookup_zip (by simpa using hl) h
theorem filterMap_zip {α : Type} : ∀ {ns : List Str} {vs : List α}, ns.length = vs.length → ns.Nodup → (ns.filterMap fun n => ((ns.zip vs).lookup n).map (n, ·)) = ns.zip vs
  | [], _, _, _ => by simp
  | a :: ns, [], h, _ => by simp at h
  | a :: ns, v :: vs, hl, hn => by
    have hn' := List.nodup_cons.mp hn
    rw [List.filterMap_cons]
    have e1 : ((a :: ns).zip (v :: vs)).lookup a = some v := by simp [List.lookup_cons]
    rw [e1]
    simp only [Option.map_some, List.zip_cons_cons]
    congr 1
    have key : ∀ (l : List Str), (∀ n ∈ l, n ≠ a) → (l.filterMap fun n => (((a, v) :: ns.zip vs).lookup n).map (n, ·)) = l.filterMap fun n => ((ns.zip vs).lookup n).map (n, ·) := by
      intro l
      induction l with
      | nil => intro _; rfl
      | cons b l ih =>
        intro hb
        rw [List.filterMap_cons, List.filterMap_cons, ih fun n hn => hb n (.tail _ hn), List.lookup_cons]
        have : (b == a) = false := by simpa using hb b (.head _)
        rw [this]
    rw [key ns fun n hm e => hn'.1 (e ▸ hm)]
    exact filterMap_zip (by simpa using hl) hn'.2

/-- plain parameters, as many values -/
structure PlainP (fd : FuncData) (ns : List Str) : Prop where
  po : fd.params.posonlyargs = []
  as : fd.params.args.map (·.arg) = ns
  va : fd.params.vararg = none
  ko : fd.params.kwonlyargs = []
  kw : fd.params.kwarg = none
  df : fd.defaults = .none
  nd : ns.Nodup
theorem bind_plain {fd : FuncData} {ns : List Str} {vals : List Value} (p : PlainP fd ns) (hl : vals.length = ns.length) : bindArgs fd ⟨vals, []⟩ = pure (ns.zip vals) := by
  unfold bindArgs
  have e0 : seqItems? (.none : Value) = pure none := rfl
  simp only [p.po, p.as, p.va, p.ko, p.kw, p.df, e0, List.map_nil, List.nil_append, List.append_nil, List.forIn_nil, pure_bind, Option.getD_none, List.length_nil, Nat.sub_zero]
  have h1 : ¬ (vals.length > ns.length ∧ (none : Option PySem.Arg).isNone = true) := by rintro ⟨q, _⟩; omega
  have h2 : ((ns.take ns.length).filter fun n => ((ns.zip vals).lookup n).isNone) = [] := by
    rw [List.filter_eq_nil_iff]
    intro n hn
    have hm : n ∈ ns := List.mem_of_mem_take hn
    have := lookup_zip (vs := vals) (by omega) hm
    cases hlk : (ns.zip vals).lookup n with
    | none => rw [hlk] at this; cases this
    | some _ => simp
  have h3 := filterMap_zip (vs := vals) (ns := ns) (by omega) p.nd
  rw [if_neg (by simp; omega)]
  simp only [List.drop_nil, List.length_nil, Nat.sub_zero, h2, List.isEmpty_nil, Bool.not_true, Bool.false_eq_true, if_false, List.zip_nil_right, List.forIn_nil, pure_bind, h3]
end Mine

namespace Mine
open PySem PyProof.Rows PySem.Calls PySem.SeqAt

theorem bindL_spec {kf : Str → Option NameKind} : ∀ {binds : List (Str × Value)} {m : Str → Option Value} {n : Str}, (binds.map (·.1)).Nodup →
    bindL kf binds m n = if kf n = some .local then (binds.lookup n).or (m n) else m n
  | [], m, n, _ => by simp [bindL]
  | (k, v) :: r, m, n, hn => by
    have hn' := List.nodup_cons.mp hn
    rw [bindL, bindL_spec hn'.2, List.lookup_cons]
    by_cases e : n = k
    · subst e
      have hr : r.lookup n = none := by
        cases h : r.lookup n with
        | none => rfl
        | some v => exact absurd (List.mem_map.mpr ⟨_, mem_of_lookup h, rfl⟩) hn'.1
      by_cases hl : kf n = some .local <;> simp [hl, hr]
    · have hb : (n == k) = false := by simpa using e
      by_cases hl : kf n = some .local <;> by_cases hk : kf k = some .local <;> simp [hl, hk, hb, e]
theorem bindC_spec {kf : Str → Option NameKind} : ∀ {binds : List (Str × Value)} {m : Str → Option Value} {n : Str}, (binds.map (·.1)).Nodup →
    bindC kf binds m n = if kf n = some .local then m n else (binds.lookup n).or (m n)
  | [], m, n, _ => by simp [bindC]
  | (k, v) :: r, m, n, hn => by
    have hn' := List.nodup_cons.mp hn
    rw [bindC, bindC_spec hn'.2, List.lookup_cons]
    by_cases e : n = k
    · subst e
      have hr : r.lookup n = none := by
        cases h : r.lookup n with
        | none => rfl
        | some v => exact absurd (List.mem_map.mpr ⟨_, mem_of_lookup h, rfl⟩) hn'.1
      by_cases hl : kf n = some .local <;> simp [hl, hr]
    · have hb : (n == k) = false := by simpa using e
      by_cases hl : kf n = some .local <;> by_cases hk : kf k = some .local <;> simp [hl, hk, hb, e]
theorem cellsFrom_some {n : Str} : ∀ {names : List (Str × NameKind)} {k : Nat} {acc : List (Str × Addr)}, (n, NameKind.cell) ∈ names ∨ (acc.lookup n).isSome = true → ((cellsFrom k names acc).lookup n).isSome = true
  | [], k, acc, h => by
    rcases h with h | h
    · cases h
    · exact h
  | (a, kd) :: r, k, acc, h => by
    unfold cellsFrom
    split
    · refine cellsFrom_some ?_
      rcases h with h | h
      · cases h with
        | head => right; simp
        | tail _ h => left; exact h
      · right
        rw [List.lookup_cons]
        split
        · rfl
        · exact h
    · rename_i hk
      refine cellsFrom_some ?_
      rcases h with h | h
      · cases h with
        | head => simp at hk
        | tail _ h => left; exact h
      · right; exact h

structure Fn where
  params : List Str
  σ : Slots
  n : Nat
  body : List St
def Fn.init (F : Fn) (args : List V) : Fm := args.map some ++ List.replicate (F.n - args.length) none

structure FnOk (X : Ctx) (fd : FuncData) (F : Fn) : Prop where
  plain : PlainP fd F.params
  clo : fd.closure = []
  gl : fd.globals = mainGlobals
  bl : fd.builtins = builtinsNs
  kind : fd.scope.kind = .function
  co : fd.scope.isCoroutine = false
  gen : fd.scope.isGenerator = false
  ps : ∀ i p, F.params[i]? = some p → F.σ.lookup p = some i
  inj : ∀ n n' i, F.σ.lookup n = some i → F.σ.lookup n' = some i → n = n'
  kinds : ∀ n i, F.σ.lookup n = some i → fd.scope.names.lookup n = some .local ∨ fd.scope.names.lookup n = some .cell
  body : ∃ b, fd.body = .stmts b ∧ SSs X fd.scope F.σ F.body b

theorem zip_lookup {ns : List Str} {vs : List Value} (hn : ns.Nodup) : ∀ {i : Nat} {p : Str} {v : Value}, ns[i]? = some p → vs[i]? = some v → (ns.zip vs).lookup p = some v := by
  induction ns generalizing vs with
  | nil => intro i p v h; simp at h
  | cons a ns ih =>
    have hn' := List.nodup_cons.mp hn
    intro i p v hp hv
    cases vs with
    | nil => simp at hv
    | cons u vs =>
      rw [List.zip_cons_cons, List.lookup_cons]
      cases i with
      | zero => simp at hp hv; subst hp hv; simp
      | succ i =>
        simp at hp hv
        have : (p == a) = false := by simp; intro e; subst e; exact hn'.1 (List.mem_of_getElem? hp)
        rw [this]
        exact ih hn'.2 hp hv
theorem zip_lookup_none {ns : List Str} {vs : List Value} {n : Str} (h : n ∉ ns) : (ns.zip vs).lookup n = none := by
  cases e : (ns.zip vs).lookup n with
  | none => rfl
  | some v => exact absurd (List.of_mem_zip (mem_of_lookup e)).1 h

section
variable {X : Ctx} {k : Nat} {f : Str} {args : List V} {h : AH} {Q : V → AH → Prop} {R : Addr → AH → Prop} {fd : FuncData} {F : Fn} {fa : Addr} {o : Obj}

theorem call_intro (G : X.Good) (hfa : X.fa f = some fa) (ho : X.base.get? fa = some o) (hd : o.data = .func fd) (hcode : X.base.CodeRec fd.code fd.qualname) (ok : FnOk X fd F) (hlen : args.length = F.params.length)
    (w : wpSs X ⟨k, true⟩ F.body (fun out _ h' => match out with | .next => Q .none h' | .ret v => Q v h') (fun C _ h' => R C h') (F.init args) h) : X.Call (k + 1) f args h Q R := by
  refine ⟨fa, hfa, fun A s vals oA r rv => ?_⟩
  have hvl := rv.length
  obtain ⟨b, hb, hss⟩ := ok.body
  have hnd : ((F.params.zip vals).map (·.1)).Nodup := by
    rw [List.map_fst_zip (by omega)]; exact ok.plain.nd
  have kp : ∀ p ∈ F.params, fd.scope.names.lookup p = some .local ∨ fd.scope.names.lookup p = some .cell := fun p hp => by
    obtain ⟨i, hi⟩ := List.getElem?_of_mem hp
    exact ok.kinds p i (ok.ps i p hi)
  refine codeAny_call_cells (binds := F.params.zip vals) (by have := oA.depth; unfold recursionLimit; omega) (r.base _ _ ho) hd (G.lim.keeps r.base) (hcode.keeps r.base) hb (bind_plain ok.plain (by omega)) ok.clo
    (fun x hx => ?_) (fun s₁ ic => ?_) ok.co ok.gen ok.kind
  · rcases kp x.1 (List.of_mem_zip (b := x.2) hx).1 with q | q
    · exact .inl q
    · exact .inr ⟨q, cellsFrom_some (.inl (mem_of_lookup q))⟩
  · obtain ⟨h₁, tk, es⟩ := ic.toInCall.same
    have kk : ∀ b o, s.heap.get? b = some o → s₁.heap.get? b = some o := ic.toInCall.keep
    have stp : Step X h s h s₁ := Step.keeps r kk (by subst es; exact ⟨rfl, rfl, rfl⟩)
    have hL : s.heap.objs.size ≤ (callEnvC fd s.heap.objs.size fa).locals := ic.toInCall.fresh
    have newL : s.heap.get? (callEnvC fd s.heap.objs.size fa).locals = none := size_none hL
    have newC : ∀ n c, (callEnvC fd s.heap.objs.size fa).cells.lookup n = some c → s.heap.get? c = none := fun n c e => size_none (Nat.le_trans hL (Nat.le_of_lt (ic.above n c (mem_of_lookup e))))
    have newOwn : ∀ a, Own (callEnvC fd s.heap.objs.size fa) a → s.heap.get? a = none := by
      rintro a (q | ⟨n, q⟩)
      · rw [q]; exact newL
      · exact newC n a q
    have kindE : ∀ n, (callEnvC fd s.heap.objs.size fa).kindOf n = fd.scope.names.lookup n := fun n => rfl
    have rv1 := rv.mono (stp.vk r)
    have slotOf : ∀ n i, F.σ.lookup n = some i → (∃ v x, (F.params.zip vals).lookup n = some v ∧ (F.init args)[i]? = some (some x) ∧ RepV s₁.heap x v) ∨ ((F.params.zip vals).lookup n = none ∧ ((F.init args)[i]? = some none ∨ (F.init args)[i]? = none)) := fun n i hn => by
      by_cases hi : i < F.params.length
      · have hp : F.params[i]? = some F.params[i] := by simp [hi]
        have e : n = F.params[i] := ok.inj _ _ i hn (ok.ps i _ hp)
        have hx : args[i]? = some (args[i]'(by omega)) := by simp [show i < args.length by omega]
        obtain ⟨v, hv, rvv⟩ := rv1.get hx
        left
        refine ⟨v, _, ?_, ?_, rvv⟩
        · rw [e]; exact zip_lookup ok.plain.nd hp hv
        · unfold Fn.init
          rw [List.getElem?_append_left (by simp; omega)]
          simp [show i < args.length by omega]
      · right
        refine ⟨zip_lookup_none fun hm => ?_, ?_⟩
        · obtain ⟨j, hj⟩ := List.getElem?_of_mem hm
          have := ok.ps j n hj
          rw [hn] at this; cases this
          exact hi (List.getElem?_eq_some_iff.mp hj).1
        · unfold Fn.init
          rw [List.getElem?_append_right (by simp; omega)]
          cases hq : (List.replicate (F.n - args.length) (none : Option V))[i - (args.map some).length]? with
          | none => exact .inr rfl
          | some z => left; have := List.mem_of_getElem? hq; rw [List.mem_replicate] at this; rw [this.2]
    have opt : ∀ n i, F.σ.lookup n = some i → RepOpt s₁.heap (F.init args)[i]? ((F.params.zip vals).lookup n) := fun n i hn => by
      rcases slotOf n i hn with ⟨v, x, e1, e2, rvv⟩ | ⟨e1, e2 | e2⟩
      · rw [e1, e2]; exact ⟨v, rfl, rvv⟩
      · rw [e1, e2]; exact rfl
      · rw [e1, e2]; trivial
    have sr : SRep F.σ (callEnvC fd s.heap.objs.size fa) (F.init args) h s₁.heap := by
      refine ⟨⟨_, ic.toInCall.ns, fun n i hn hk => ?_⟩, ⟨_, ic.cell, fun n i hn hk => ⟨Option.isSome_iff_exists.mp (cellsFrom_some (.inl (mem_of_lookup hk))), ?_⟩⟩, ic.apart, ic.above, r.none_of_new newL, fun n c e => r.none_of_new (newC n c e), ok.kinds, ok.inj⟩
      · rw [bindL_spec hnd, if_pos hk]
        simpa using opt n i hn
      · rw [bindC_spec hnd, if_neg (by rw [hk]; decide)]
        simpa using opt n i hn
    have ei : EnvOk fd.scope (callEnvC fd s.heap.objs.size fa) := ⟨ok.kind, fun n e => e, fun n e => e, fun n e => ⟨e, Option.isSome_iff_exists.mp (cellsFrom_some (.inl (mem_of_lookup e)))⟩, fun n e => e, ok.gl, ok.bl⟩
    have oA' : OkA ⟨k, true⟩ (A.deeper (callEnvC fd s.heap.objs.size fa)) := ⟨fun _ => oA.handled rfl, by have := oA.depth; show A.depth + 1 + k < 1000; simp only at this; omega, by have := oA.units; show A.units + 3 + 10 * k < 9000; simp only at this; omega⟩
    refine wpAny_mono (hss _ _ _ _ _ _ _ _ w ⟨oA', ei, sr, stp.rel, fun a q => base_none r (newOwn a q)⟩) (fun fl s' ⟨out, fr', h', ro, st', f', q⟩ => ?_) fun _ _ e => e.elim
    have stf : Step X h s h' s' := by
      refine ⟨st'.rel, fun b o e n => ?_, fun b o e n => st'.fresh b o (kk b o e) n, fun b o e => st'.there b o (kk b o e), st'.rest.1.trans stp.rest.1, st'.rest.2.1.trans stp.rest.2.1, st'.rest.2.2.trans stp.rest.2.2⟩
      refine st'.kept b o (kk b o e) ?_
      rintro (z | z)
      · exact n z
      · have := newOwn b z; rw [e] at this; cases this
    cases out with
    | next =>
      cases fl <;> simp only [OutRep] at ro
      exact ⟨.none, h', rep_none, stf, q⟩
    | ret x =>
      cases fl <;> simp only [OutRep] at ro
      exact ⟨x, h', ro, stf, q⟩
end
end Mine

namespace Mine
open PySem PyProof.Rows PySem.Calls PySem.SeqAt

section
variable {X : Ctx} {sc scp : Scope} {σ : Slots} {c : Cfg} {env : Env} {fr fr' : Fm} {A : Around} {ah ah' h h1 : AH} {s s' s₀ s1 : Shared} {x : Str} {k : Nat} {P D : Addr}

theorem ss_assign {e : Ex} {v : PySem.Expr} {n : Str} {px pos : Pos} (hx : SE X sc σ e v) (hn : σ.lookup n = some k) (hsw : ∀ env, swapsWith v (some (.Name n px)) pos.line env = pure false) : SS X sc σ (.assign k e) (.Assign [.Name n px] v pos) := by
  intro c Q R fr h env A s w i
  unfold wpS at w
  refine wpAny_Assign_Name (wpAny_mono (hx _ _ _ _ _ _ _ _ w i.inE) (fun u s1 ⟨y, h1, rv, st, w1⟩ => ?_) fun _ _ e => e.toS i.r i.f) (hsw env)
  have i1 := i.step st
  exact store_ok i1 hn rv fun s' st' f' => ⟨.next, _, h1, trivial, st.toF.trans st', f', w1⟩

theorem ss_expr {e : Ex} {v : PySem.Expr} {pos : Pos} (hx : SE X sc σ e v) (hsw : ∀ env, swapsWith v none pos.line env = pure false) : SS X sc σ (.expr e) (.Expr v pos) := by
  intro c Q R fr h env A s w i
  unfold wpS at w
  refine wpAny_Expr_any (wpAny_mono (hx _ _ _ _ _ _ _ _ w i.inE) (fun u s1 ⟨y, h1, rv, st, w1⟩ => ?_) fun _ _ e => e.toS i.r i.f) (by unfold interactive; rw [i.e.kind]; rfl) (hsw env)
  exact ⟨.next, fr, h1, trivial, st.toF, i.f.step i.r st, w1⟩
end
end Mine

namespace Mine
open PySem PyProof.Rows PySem.Calls PySem.SeqAt

/-! slices -/
def loB : Option Int → Nat → Nat
  | none, _ => 0
  | some k, n => clampI k n
def hiB : Option Int → Nat → Nat
  | none, n => n
  | some k, n => clampI k n
inductive Part : V → Option Int → Prop
  | none : Part .none none
  | int (i : Int) : Part (.int i) (some i)
theorem part_lo {y : V} {n a : Nat} (e : loV y n = some a) : ∃ p, Part y p ∧ a = loB p n := by
  unfold loV at e
  split at e
  · cases e; exact ⟨_, .none, rfl⟩
  · cases e; exact ⟨_, .int _, rfl⟩
  · cases e
theorem part_hi {y : V} {n a : Nat} (e : hiV y n = some a) : ∃ p, Part y p ∧ a = hiB p n := by
  unfold hiV at e
  split at e
  · cases e; exact ⟨_, .none, rfl⟩
  · cases e; exact ⟨_, .int _, rfl⟩
  · cases e
theorem Part.is {hp : Heap} {y : V} {p : Option Int} {v : Value} (x : Part y p) (r : RepV hp y v) : IsPart v p := by
  cases x
  · simp only [RepV] at r; subst r; exact .none
  · simp only [RepV] at r; obtain ⟨t, rfl⟩ := r; exact .int _ _

theorem bounds_one (lo hi : Option Int) (n : Nat) : sliceBounds lo hi none n = ((loB lo n : Int), (hiB hi n : Int), 1) := by
  unfold sliceBounds
  simp only [Option.getD_none]
  congr 1
  · cases lo <;> simp [loB, clampI] <;> split <;> omega
  · congr 1
    cases hi <;> simp [hiB, clampI] <;> split <;> omega
theorem adjust_one (lo hi : Option Int) (n : Nat) : Builtin.Slice.sliceAdjust lo hi 1 (n : Int) = ((loB lo n : Int), (hiB hi n : Int)) := by
  unfold Builtin.Slice.sliceAdjust
  have h1 : ¬ ((1 : Int) < 0) := by omega
  simp only [h1, if_false]
  congr 1
  · cases lo <;> simp [loB, clampI] <;> split <;> omega
  · cases hi <;> simp [hiB, clampI] <;> split <;> omega
theorem places_one (a b : Nat) : Builtin.Slice.slicePlaces (a : Int) (b : Int) 1 = b - a := by
  unfold Builtin.Slice.slicePlaces
  have h1 : (1 : Int) > 0 := by omega
  simp only [h1, if_true, Int.ediv_one]
  split <;> omega
theorem pick_one (items : List Value) (lo hi : Option Int) {a b : Nat} (ha : a = loB lo items.length) (hb : b = hiB hi items.length) :
    slicePick items.toArray lo hi none = ((items.take b).drop a).toArray := by
  unfold slicePick
  rw [List.size_toArray, bounds_one, ← ha, ← hb]
  simp only
  rw [sliceRange_one, pick_run, List.drop_take]
theorem pick_tup (items : List Value) (a b : Nat) : ((List.range (b - a)).filterMap fun (k : Nat) => items.toArray[((a : Int) + (k : Int) * 1).toNat]?).toArray = ((items.take b).drop a).toArray := by
  have e : (fun (k : Nat) => items.toArray[((a : Int) + (k : Int) * 1).toNat]?) = fun k => items.toArray[a + k]? := by
    funext k
    have : ((a : Int) + (k : Int) * 1).toNat = a + k := by omega
    rw [this]
  rw [e]
  have := pick_run items.toArray a (b - a)
  rw [List.filterMap_map] at this
  have e2 : ((fun x => items.toArray[x]?) ∘ fun x => a + x) = fun k => items.toArray[a + k]? := rfl
  rw [e2] at this
  rw [this, List.drop_take]

section
variable {prog : Program} {w : World} {A : Around} {E : Value → Shared → Prop} {s : Shared}
theorem slicePart_is {v : Value} {p : Option Int} {Q : Option Int → Shared → Prop} (x : IsPart v p) (h : Q p s) : wpAny (model prog w) A (Builtin.Slice.slicePartIndex v) Q E s := by
  cases x
  · exact slicePart_none h
  · exact slicePart_int h
theorem tup_slice {t sl : Addr} {items : List Value} {n : Nat} {vl vu : Value} {lo hi : Option Int} {a b : Nat} {Q : Value → Shared → Prop} (ht : s.heap.get? t = some { cls := .type "tuple", data := .seq items.toArray n })
    (hs : s.heap.IsSliceOf sl vl vu .none) (pl : IsPart vl lo) (pu : IsPart vu hi) (ha : a = loB lo items.length) (hb : b = hiB hi items.length)
    (hsz : items.length ≤ sizeLine)
    (h1 : a = 0 → b - a = items.length → Q (.ref t) s)
    (h2 : Q (.ref s.heap.objs.size) { s with heap := s.heap.push { cls := .type "tuple", data := .seq ((items.take b).drop a).toArray } }) : wpAny (model prog w) A (getItem (.ref t) (.ref sl)) Q E s := by
  have ht' := isTup_of ht
  have hdrop : sizeOk (.seq ((items.take b).drop a).toArray) := by
    show ((items.take b).drop a).toArray.size ≤ sizeLine
    rw [List.size_toArray, List.length_drop, List.length_take]
    omega
  obtain ⟨os, hos, hcs, hds⟩ := id hs
  have hTs : s.TypeIs (.ref sl) "slice" := ⟨os, hos, hcs⟩
  unfold getItem
  try with_reducible refine wpAny_holding ?_
  first | refine wpAny_bind (wpAny_pure ?_) | skip
  refine wpAny_bind (wpAny_sequenceKey ht'.typeIs (by decide) ?_)
  refine wpAny_bind (wpAny_callSpecial?_slot (name := Str.ofString "__getitem__") ht'.typeIs slot_tuple_getitem
    (wpAny_call_entry slot_tuple_getitem ht'.typeIs entry_tuple_getitem ?_ (args_tuple_getitem _ _)))
  show wpAny _ _ (Builtin.Tuple.tupleItemsOf (.ref t) >>= _) _ _ s
  refine wpAny_bind (tupleItemsOf_ ht' ?_)
  refine wpAny_bind (wpAny_typeOf hTs ?_)
  rw [if_pos (by decide)]
  refine wpAny_bind ?_
  unfold Builtin.Slice.sliceApplied Builtin.Slice.sliceFields
  refine wpAny_bind (wpAny_bind (wpAny_field hos hds (x := vl) rfl (wpAny_bind (wpAny_field hos hds (x := vu) rfl (wpAny_bind (wpAny_field hos hds (x := .none) rfl (wpAny_pure ?_)))))))
  refine wpAny_bind (slicePart_none ?_)
  show wpAny _ _ (if ((1 : Int) == 0) = true then _ else _) _ _ s
  rw [if_neg (by decide)]
  refine wpAny_bind (slicePart_is pl (wpAny_bind (slicePart_is pu (wpAny_bind (wpAny_pure ?_)))))
  show wpAny _ _ (match Builtin.Slice.sliceAdjust lo hi 1 (items.toArray.size : Int) with | (lo, hi) => pure (lo, (1 : Int), Builtin.Slice.slicePlaces lo hi 1)) _ _ s
  rw [List.size_toArray, adjust_one, ← ha, ← hb]
  show wpAny _ _ (pure ((a : Int), (1 : Int), Builtin.Slice.slicePlaces (a : Int) (b : Int) 1)) _ _ s
  rw [places_one]
  refine wpAny_pure ?_
  show wpAny _ _ (if ((a : Int) == 0 && (1 : Int) == 1 && (b - a) == items.toArray.size) = true then _ else _) _ _ s
  have tl : ∀ {Q' : Fin → Shared → Prop}, Q' (.done (.ret (.ref s.heap.objs.size))) { s with heap := s.heap.push { cls := .type "tuple", data := .seq ((items.take b).drop a).toArray } } →
      wpAny (model prog w) A.in1 (Builtin.Tuple.tupleExact ((List.range (b - a)).filterMap fun (k : Nat) => items.toArray[((a : Int) + (k : Int) * 1).toNat]?).toArray >>= fun v => ret v) Q' E s := by
    intro Q' hq
    rw [pick_tup]
    exact wpAny_bind (m := Builtin.Tuple.tupleExact _) (wpAny_newObj_type (wpAny_pure hq) hdrop)
  by_cases hw : ((a : Int) == 0 && (1 : Int) == 1 && (b - a) == items.toArray.size) = true
  · rw [if_pos hw]
    simp only [Bool.and_eq_true, beq_iff_eq, List.size_toArray] at hw
    unfold Builtin.Tuple.tupleIsExact
    refine wpAny_bind (wpAny_bind (wpAny_typeOf ht'.typeIs (wpAny_pure ?_)))
    rw [if_pos (by decide)]
    exact wpAny_bind (wpAny_rule (wpAny_pure ⟨_, rfl, wpAny_pure (h1 (by omega) hw.2)⟩))
  · rw [if_neg hw]
    exact tl ⟨_, rfl, wpAny_pure h2⟩
end

section
variable {X : Ctx} {sc : Scope} {σ : Slots} {c : Cfg} {env : Env} {fr : Fm} {A : Around} {h : AH} {s : Shared}
def PartOk (X : Ctx) (sc : Scope) (σ : Slots) (x : Ex) : Option PySem.Expr → Prop
  | none => litNone x = true
  | some e => SE X sc σ x e
theorem litNone_eq {x : Ex} (h : litNone x = true) : x = .lit .none := by
  unfold litNone at h
  split at h
  · rfl
  · cases h
theorem part_ok {x : Ex} {e : Option PySem.Expr} {R : RX} {Q : V → AH → Prop} (p : PartOk X sc σ x e) (w : wpE X c R x fr Q h) (i : In X c sc σ env fr A h s) : wpAny X.M A (evalPart e env) (ValPost X h s Q) (ExcPost X A h s R) s := by
  cases e with
  | none =>
    have := litNone_eq p
    subst this
    unfold wpE at w
    rw [evalPart_none]
    exact wpAny_pure (.pure i.r rep_none w)
  | some e => rw [evalPart_some]; exact p _ _ _ _ _ _ _ _ w i

theorem slice_ok {x y z : V} {vo vl vu : Value} {E : Value → Shared → Prop} {Q : V → AH → Prop} {v : PySem.Expr} {l u : Option PySem.Expr} {p : Pos} (r : Rel X h s.heap) (rv : RepV s.heap x vo) (rl3 : RepV s.heap y vl) (ru : RepV s.heap z vu) (w3 : sliceP x y z h Q) :
    wpAny X.M A (subscriptTail v (.Slice l u none p) vo (.ref s.heap.objs.size)) (ValPost X h s Q) E { s with heap := s.heap.push { cls := .type "slice", data := .fields #[vl, vu, .none] } } := by
  have kk : ∀ b o, s.heap.get? b = some o → (s.heap.push { cls := .type "slice", data := .fields #[vl, vu, .none] }).get? b = some o := fun b o e => Heap.get?_push_of_some _ e
  have st4 : Step X h s h { s with heap := s.heap.push { cls := .type "slice", data := .fields #[vl, vu, .none] } } := Step.keeps r kk ⟨rfl, rfl, rfl⟩
  have rv4 := rv.mono (st4.vk r)
  have hsl : (s.heap.push { cls := .type "slice", data := .fields #[vl, vu, .none] }).IsSliceOf s.heap.objs.size vl vu .none := Heap.IsSliceOf.new ..
  unfold sliceP at w3
  split at w3
  · rename_i vs
    split at w3
    · rename_i r' hr
      rw [RepV] at rv4
      obtain ⟨t, n, items, rfl, ht, ra, z1⟩ := rv4
      unfold pySlice at hr
      split at hr
      · rename_i a b ea eb
        cases hr
        obtain ⟨pl, p1, rfl⟩ := part_lo ea
        obtain ⟨pu, p2, rfl⟩ := part_hi eb
        have lz := ra.length
        refine tail_any (isTup_of ht).typeIs slot_tuple_getitem.lookup (tup_slice (a := loB pl vs.length) (b := hiB pu vs.length) ht hsl (p1.is rl3) (p2.is ru) (by rw [lz]) (by rw [lz]) (by rw [lz]; exact big_size z1) (fun e1 e2 => ?_) ?_) (by rfl)
        · have hfull : (vs.take (hiB pu vs.length)).drop (loB pl vs.length) = vs := by
            rw [e1, List.drop_zero]
            exact List.take_of_length_le (by omega)
          rw [hfull] at w3
          exact ⟨.tup vs, h, ⟨t, n, items, rfl, ht, ra, z1⟩, st4, w3⟩
        · have kk5 : ∀ b o, (s.heap.push { cls := .type "slice", data := .fields #[vl, vu, .none] }).get? b = some o → ((s.heap.push { cls := .type "slice", data := .fields #[vl, vu, .none] }).push { cls := .type "tuple", data := .seq ((items.take (hiB pu vs.length)).drop (loB pl vs.length)).toArray }).get? b = some o := fun b o e => Heap.get?_push_of_some _ e
          refine ⟨.tup _, h, ⟨_, 0, _, rfl, Heap.get?_push_size _ rfl, ((ra.take _).drop _).mono (.of_keeps kk5), ?_⟩, st4.trans (Step.keeps st4.rel kk5 ⟨rfl, rfl, rfl⟩), w3⟩
          simp; omega
      · cases hr
    · exact w3.elim
  · simp only [RepV] at rv4; subst rv4
    split at w3
    · rename_i vs ha
      split at w3
      · rename_i r' hr
        obtain ⟨n, items, ha', ra, z1⟩ := st4.rel.rep _ _ ha
        unfold pySlice at hr
        split at hr
        · rename_i a b ea eb
          cases hr
          obtain ⟨pl, p1, rfl⟩ := part_lo ea
          obtain ⟨pu, p2, rfl⟩ := part_hi eb
          have lz := ra.length
          refine tail_any (isList_of ha').typeIs slot_list_getitem.lookup (wpAny_getItem_list_slice (isList_of ha') hsl (p1.is rl3) (p2.is ru) .none (by simp) ?_ (by rw [List.size_toArray, lz]; exact big_size z1)) (by rfl)
          rw [pick_one items pl pu (a := loB pl vs.length) (b := hiB pu vs.length) (by rw [lz]) (by rw [lz])]
          have key := ValPost.new (X := X) (Q := Q) (s := { s with heap := s.heap.push { cls := .type "slice", data := .fields #[vl, vu, .none] } }) (ob := { cls := .type "list", data := .seq ((items.take (hiB pu vs.length)).drop (loB pl vs.length)).toArray }) (o := .list ((vs.take (hiB pu vs.length)).drop (loB pl vs.length))) st4.rel rfl
            ⟨0, _, Heap.get?_push_size _ rfl, ((ra.take _).drop _).mono (.of_keeps fun b o e => Heap.get?_push_of_some _ e), by simp; omega⟩ w3
          exact key.back st4
        · cases hr
      · exact w3.elim
    · exact w3.elim
  · exact w3.elim

theorem se_slice {o lo hi : Ex} {v : PySem.Expr} {l u : Option PySem.Expr} {p pos : Pos} (ho : SE X sc σ o v) (hl : PartOk X sc σ lo l) (hu : PartOk X sc σ hi u) : SE X sc σ (.slice o lo hi) (.Subscript v (.Slice l u none p) pos) := by
  intro c R fr Q h env A s w i
  unfold wpE at w
  refine Subscript_ (wpAny_mono (ho _ _ _ _ _ _ _ _ w i) (fun vo s1 ⟨x, h1, rv, st, w1⟩ => ?_) fun _ _ e => e)
  have i1 := i.step st
  refine wpAny_Slice (wpAny_mono (part_ok hl w1 i1) (fun vl s2 ⟨y, h2, rl, st2, w2⟩ => ?_) fun _ _ e => e.back st)
  have i2 := i1.step st2
  refine wpAny_mono (part_ok hu w2 i2) (fun vu s3 ⟨z, h3, ru, st3, w3⟩ => ?_) fun _ _ e => e.back (st.trans st2)
  have i3 := i2.step st3
  rw [evalPart_none]
  refine wpAny_pure ?_
  have rv3 := (rv.mono (st2.vk i1.r)).mono (st3.vk i2.r)
  have rl3 := rl.mono (st3.vk i2.r)
  exact wpAny_mono (slice_ok st3.rel rv3 rl3 ru w3) (fun _ _ q => q.back ((st.trans st2).trans st3)) fun _ _ e => e
end
end Mine

namespace Mine
open PySem PyProof.Rows PySem.Calls PySem.SeqAt

section
variable {X : Ctx}

def AE (X : Ctx) (x : Ex) : Prop := ∀ sc σ e, ckE sc σ x e = true → SE X sc σ x e ∧ ST X sc σ x e

theorem asm_list {xs : List Ex} (ih : ∀ x ∈ xs, AE X x) : ∀ sc σ es, ckEs sc σ xs es = true → SEs X sc σ xs es ∧ STs X sc σ xs es ∧ ∀ e ∈ es, plainE e = true := by
  induction xs with
  | nil =>
    intro sc σ es h
    have h := List.isEmpty_iff.mp h
    subst h
    exact ⟨trivial, trivial, fun e he => nomatch he⟩
  | cons x xs iht =>
    intro sc σ es h
    obtain ⟨e, es, rfl, h1, h2⟩ := ckCons_el h
    have a := ih x (.head _) sc σ e h1.2
    have b := iht (fun y hy => ih y (.tail _ hy)) sc σ es h2
    refine ⟨⟨a.1, b.1⟩, ⟨a.2, b.2.1⟩, fun e' he' => ?_⟩
    cases he' with
    | head => exact h1.1
    | tail _ m => exact b.2.2 e' m

def AI (X : Ctx) (x : Ex) : Prop := ∀ sc σ e, ckI sc σ x e (ckE sc σ x e) = true → SI X sc σ x e
theorem and3 {a b c : Bool} (h : (a && b && c) = true) : (a = true ∧ b = true) ∧ c = true := ⟨(Bool.and_eq_true _ _).mp ((Bool.and_eq_true _ _).mp h).1, ((Bool.and_eq_true _ _).mp h).2⟩
theorem notT {b : Bool} (h : (!b) = true) : b = false := by cases b <;> first | rfl | cases h
theorem and2 {a b : Bool} (h : (a && b) = true) : a = true ∧ b = true := (Bool.and_eq_true _ _).mp h
theorem call_el {e : PySem.Expr} {k : Str → List PySem.Expr → Bool} (h : ((vw e).tag == 20 && (vw e).b && ckCall k (vw e).es) = true) : ∃ n p args q, e = .Call (.Name n p) args [] q ∧ k n args = true := by
  have h := and3 h
  obtain ⟨g, args, kw, q, rfl⟩ := vw20 (beq_iff_eq.mp h.1.1)
  have hk : kw = [] := List.isEmpty_iff.mp h.1.2
  subst hk
  obtain ⟨n, p, args', e, hk⟩ := ckCall_el h.2
  cases e
  exact ⟨n, p, _, q, rfl, hk⟩
theorem meth_el {e : PySem.Expr} {k : PySem.Expr → Str → Nat → List PySem.Expr → Bool} (h : ((vw e).tag == 20 && (vw e).b && ckMeth k (vw e).es) = true) : ∃ v n p args q, e = .Call (.Attribute v n p) args [] q ∧ k v n p.endLine args = true := by
  have h := and3 h
  obtain ⟨g, args, kw, q, rfl⟩ := vw20 (beq_iff_eq.mp h.1.1)
  have hk : kw = [] := List.isEmpty_iff.mp h.1.2
  subst hk
  obtain ⟨v, n, p, args', e, hk⟩ := ckMeth_el h.2
  cases e
  exact ⟨v, n, p, _, q, rfl, hk⟩

theorem asm_iter (G : X.Good) {x : Ex} (a : AE X x) (ih : ∀ y, sizeOf y < sizeOf x → AE X y) : AI X x := by
  intro sc σ e h
  have other : (ckI sc σ x e (ckE sc σ x e) = ckE sc σ x e) → (∀ c R whole fr Q h, wpI X c R x whole fr Q h = whole (fun x h1 => srcP Q h1 x) h) → SI X sc σ x e := fun h1 h2 => si_plain (a sc σ e (h1 ▸ h)).1 h2
  cases x
  case range1 b =>
    obtain ⟨n, p, args, q, rfl, hk⟩ := call_el h
    have h := and3 hk
    have h1 := beq_iff_eq.mp h.1.1
    subst h1
    obtain ⟨y, rfl, h3⟩ := ck1_el h.2
    have h3 := and2 h3
    exact si_range1 G (ih _ (by simp +arith) sc σ _ h3.2).1 h3.1 h.1.2
  case range2 =>
    obtain ⟨n, p, args, q, rfl, hk⟩ := call_el h
    have h := and3 hk
    have h1 := beq_iff_eq.mp h.1.1
    subst h1
    obtain ⟨y, z, rfl, h3, h4⟩ := ck2_el h.2
    have h3 := and2 h3
    have h4 := and2 h4
    exact si_range2 G (ih _ (by simp +arith) sc σ _ h3.2).1 (ih _ (by simp +arith) sc σ _ h4.2).1 h3.1 h4.1 h.1.2
  case rev =>
    obtain ⟨n, p, args, q, rfl, hk⟩ := call_el h
    have h := and3 hk
    have h1 := beq_iff_eq.mp h.1.1
    subst h1
    obtain ⟨y, rfl, h3⟩ := ck1_el h.2
    have h3 := and2 h3
    exact si_rev G (ih _ (by simp +arith) sc σ _ h3.2).1 h3.1 h.1.2
  all_goals exact other rfl fun _ _ _ _ _ _ => rfl

theorem se_st {sc : Scope} {σ : Slots} {x : Ex} {e : PySem.Expr} (hx : SE X sc σ x e) (h1 : ∀ c R whole fr K h, wpT X c R x whole fr K h = whole (fun v h1 => match truthV h1 v with | some r => K r h1 | none => False) h)
    (h2 : ∀ env whole, isTrue e env whole = (do let v ← whole; standAt e.pos; holding [v] (truthy v))) : SE X sc σ x e ∧ ST X sc σ x e := ⟨hx, st_plain hx h1 h2⟩

theorem lit_isTrue {v : V} {e : PySem.Expr} (h : ckLit v e = true) : ∀ env whole, isTrue e env whole = (do let v ← whole; standAt e.pos; holding [v] (truthy v)) := by
  intro env whole
  obtain ⟨c, k, p, rfl⟩ := vw1 (beq_iff_eq.mp (and2 h).1)
  rfl

theorem asm_all (G : X.Good) : ∀ n x, sizeOf x ≤ n → AE X x := by
  intro n
  induction n with
  | zero => intro x hx; cases x <;> simp at hx
  | succ n ihn =>
    intro x hx sc σ e h
    have ih : ∀ y, sizeOf y < sizeOf x → AE X y := fun y hy => ihn y (by omega)
    have ihl : ∀ ys : List Ex, sizeOf ys < sizeOf x → ∀ y ∈ ys, AE X y := fun ys hy y hm => ih y (Nat.lt_trans (List.sizeOf_lt_of_mem hm) hy)
    cases x
    case lit v =>
      exact se_st (se_lit h) (fun _ _ _ _ _ _ => rfl) (lit_isTrue h)
    case var i =>
      unfold ckE at h
      have h := and2 h
      have h2 := and2 h.1
      have h3 := and3 h2.1
      obtain ⟨n, p, rfl⟩ := vw2 (beq_iff_eq.mp h3.1.1)
      exact se_st (se_var (beq_iff_eq.mp h3.1.2) h3.2 (notT h2.2) (notT h.2)) (fun _ _ _ _ _ _ => rfl) fun _ _ => rfl
    case glob g =>
      unfold ckE at h
      have h := and2 h
      have h2 := and3 h.1
      obtain ⟨n, p, rfl⟩ := vw2 (beq_iff_eq.mp h2.1.1)
      have h1 : n = g := beq_iff_eq.mp h2.1.2
      subst h1
      exact se_st (se_glob G h2.2 (notT h.2)) (fun _ _ _ _ _ _ => rfl) fun _ _ => rfl
    case bin op a b =>
      unfold ckE at h
      have h := and3 h
      obtain ⟨l, o, r, p, rfl⟩ := vw3 (beq_iff_eq.mp h.1.1)
      have h1 : o = op := beq_iff_eq.mp h.1.2
      subst h1
      obtain ⟨x, y, e, h2, h3⟩ := ck2_el h.2
      cases e
      exact se_st (se_bin (ih _ (by simp +arith) _ _ _ h2).1 (ih _ (by simp +arith) _ _ _ h3).1) (fun _ _ _ _ _ _ => rfl) fun _ _ => rfl
    case cmp op a b =>
      unfold ckE at h
      have h := and3 h
      obtain ⟨l, o, r, p, rfl⟩ := vw4 (beq_iff_eq.mp h.1.1)
      have h1 : o = [op] := beq_iff_eq.mp h.1.2
      subst h1
      obtain ⟨x, y, e, h2, h3⟩ := ck2_el h.2
      cases e
      have h3 := and2 h3
      have a := (ih _ (by simp +arith) _ _ _ h2).1
      have b := (ih _ (by simp +arith) _ _ _ h3.2).1
      have h4 : behindInMarks op y = false := notT h3.1
      exact ⟨se_cmp a b h4, st_cmp a b h4⟩
    case not a =>
      unfold ckE at h
      have h := and3 h
      obtain ⟨o, x, p, rfl⟩ := vw5 (beq_iff_eq.mp h.1.1)
      have h1 : o = .Not := beq_iff_eq.mp h.1.2
      subst h1
      obtain ⟨x, e, h2⟩ := ck1_el h.2
      cases e
      exact ⟨se_not (ih _ (by simp +arith) _ _ _ h2).1, st_not (ih _ (by simp +arith) _ _ _ h2).2⟩
    case neg a =>
      unfold ckE at h
      have h := and3 h
      obtain ⟨o, x, p, rfl⟩ := vw5 (beq_iff_eq.mp h.1.1)
      have h1 : o = .USub := beq_iff_eq.mp h.1.2
      subst h1
      obtain ⟨x, e, h2⟩ := ck1_el h.2
      cases e
      exact se_st (se_neg (ih _ (by simp +arith) _ _ _ h2).1) (fun _ _ _ _ _ _ => rfl) fun _ _ => rfl
    case bop op es =>
      unfold ckE at h
      have h := and3 h
      obtain ⟨o, x, p, rfl⟩ := vw6 (beq_iff_eq.mp h.1.1)
      have h1 : o = op := beq_iff_eq.mp h.1.2
      subst h1
      have a := asm_list (ihl _ (by simp +arith)) _ _ _ h.2
      exact ⟨se_bop a.1, st_bop a.2.1⟩
    case callf f es =>
      unfold ckE at h
      obtain ⟨n, p, args, q, rfl, hk⟩ := call_el h
      have h := and2 hk
      have h5 := and2 h.1
      have h4 := and2 h5.1
      have h3 := and3 h4.1
      have h1 := beq_iff_eq.mp h3.1.1
      subst h1
      have a := asm_list (ihl _ (by simp +arith)) _ _ _ h.2
      exact se_st (se_callf G a.1 a.2.2 h3.1.2 (notT h3.2) (notT h5.2)) (fun _ _ _ _ _ _ => rfl) fun _ _ => rfl
    case bi b es =>
      unfold ckE at h
      obtain ⟨n, p, args, q, rfl, hk⟩ := call_el h
      have h := and3 hk
      have h1 := beq_iff_eq.mp h.1.1
      subst h1
      have a := asm_list (ihl _ (by simp +arith)) _ _ _ h.2
      exact se_st (se_bi G a.1 a.2.2 h.1.2) (fun _ _ _ _ _ _ => rfl) fun _ _ => rfl
    case isi a ts =>
      unfold ckE at h
      obtain ⟨n, p, args, q, rfl, hk⟩ := call_el h
      have h := and3 hk
      have h1 := beq_iff_eq.mp h.1.1
      subst h1
      obtain ⟨x, y, rfl, h3, h4⟩ := ck2_el h.2
      have h3 := and2 h3
      unfold ckTys at h4
      split at h4
      · exact se_st (se_isi G (ih _ (by simp +arith) _ _ _ h3.2).1 h3.1 h.1.2 h4) (fun _ _ _ _ _ _ => rfl) fun _ _ => rfl
      · cases h4
    case bm m o es =>
      unfold ckE at h
      obtain ⟨v, n, p, args, q, rfl, hk⟩ := meth_el h
      have h := and3 hk
      have h3 := and2 h.1.1
      have h2 := and3 h3.1
      have h1 := beq_iff_eq.mp h2.1.2
      subst h1
      have a := asm_list (ihl _ (by simp +arith)) _ _ _ h.2
      exact se_st (se_bm (ih _ (by simp +arith) _ _ _ h.1.2).1 a.1 a.2.2 h2.1.1 h2.2 (of_decide_eq_true h3.2)) (fun _ _ _ _ _ _ => rfl) fun _ _ => rfl
    case sub o i =>
      unfold ckE at h
      have h := and2 h
      obtain ⟨v, k, p, rfl⟩ := vw10 (beq_iff_eq.mp h.1)
      obtain ⟨x, y, e, h2, h3⟩ := ck2_el h.2
      cases e
      have h3 := and2 h3
      exact se_st (se_sub (ih _ (by simp +arith) _ _ _ h2).1 (ih _ (by simp +arith) _ _ _ h3.2).1 h3.1) (fun _ _ _ _ _ _ => rfl) fun _ _ => rfl
    case slice o lo hi =>
      unfold ckE at h
      have h := and2 h
      obtain ⟨v, k, p, rfl⟩ := vw10 (beq_iff_eq.mp h.1)
      obtain ⟨x, y, e, h2, h3⟩ := ck2_el h.2
      cases e
      have h3 := and2 h3
      have h4 := and3 h3.1
      obtain ⟨l, u, st, q, rfl⟩ := vw11 (beq_iff_eq.mp h4.1.1)
      have hst : st = none := Option.isNone_iff_eq_none.mp h4.1.2
      subst hst
      refine se_st (se_slice (ih _ (by simp +arith) _ _ _ h2).1 ?_ ?_) (fun _ _ _ _ _ _ => rfl) fun _ _ => rfl
      · cases l with
        | none => exact h4.2
        | some l => exact (ih _ (by simp +arith) _ _ _ h4.2).1
      · cases u with
        | none => exact h3.2
        | some u => exact (ih _ (by simp +arith) _ _ _ h3.2).1
    case list es =>
      unfold ckE at h
      have h := and2 h
      obtain ⟨v, p, rfl⟩ := vw12 (beq_iff_eq.mp h.1)
      have a := asm_list (ihl _ (by simp +arith)) _ _ _ h.2
      exact se_st (se_list (spliced_ok a.1 a.2.2)) (fun _ _ _ _ _ _ => rfl) fun _ _ => rfl
    case tuple es =>
      unfold ckE at h
      have h := and2 h
      obtain ⟨v, k, p, rfl⟩ := vw13 (beq_iff_eq.mp h.1)
      have a := asm_list (ihl _ (by simp +arith)) _ _ _ h.2
      exact se_st (se_tuple (spliced_ok a.1 a.2.2)) (fun _ _ _ _ _ _ => rfl) fun _ _ => rfl
    case dict0 =>
      unfold ckE at h
      have h := and2 h
      obtain ⟨ks, vs, p, rfl⟩ := vw14 (beq_iff_eq.mp h.1)
      have h2 := and2 h.2
      have h3 := List.isEmpty_iff.mp h2.1
      have h4 := List.isEmpty_iff.mp h2.2
      subst h3 h4
      exact se_st (se_dict0 G) (fun _ _ _ _ _ _ => rfl) fun _ _ => rfl
    case comp j src conds elt =>
      unfold ckE at h
      have h := and2 h
      obtain ⟨el, gs, scp, p, rfl⟩ := vw15 (beq_iff_eq.mp h.1)
      obtain ⟨x, q, it, ifs, rfl, h2⟩ := ckGen_el h.2
      simp only [Bool.false_and] at h2; cases h2
    all_goals (unfold ckE at h; cases h)

theorem asm (G : X.Good) (x : Ex) : AE X x := asm_all G _ x (Nat.le_refl _)
theorem asmI (G : X.Good) (x : Ex) : AI X x := asm_iter G (asm G x) fun y _ => asm G y
end
end Mine

namespace Mine
open PySem PyProof.Rows PySem.Calls PySem.SeqAt

structure Vs where
  tag : Nat := 0
  ts : List PySem.Expr := []
  xs : List PySem.Expr := []
  a : List PySem.Stmt := []
  b : List PySem.Stmt := []
def vs : PySem.Stmt → Vs
  | .Assign ts x _ => { tag := 1, ts := ts, xs := [x] }
  | .Expr x _ => { tag := 2, xs := [x] }
  | .If x a b _ => { tag := 3, xs := [x], a := a, b := b }
  | .While x a b _ => { tag := 4, xs := [x], a := a, b := b }
  | .For t x a b _ => { tag := 5, ts := [t], xs := [x], a := a, b := b }
  | .Return x _ => { tag := 6, xs := x.toList }
  | .Pass _ => { tag := 7 }
  | _ => {}
section
variable {s : PySem.Stmt}
theorem vs1 (h : (vs s).tag = 1) : ∃ ts x p, s = .Assign ts x p := by cases s <;> first | exact ⟨_, _, _, rfl⟩ | exact tg h rfl
theorem vs2 (h : (vs s).tag = 2) : ∃ x p, s = .Expr x p := by cases s <;> first | exact ⟨_, _, rfl⟩ | exact tg h rfl
theorem vs3 (h : (vs s).tag = 3) : ∃ x a b p, s = .If x a b p := by cases s <;> first | exact ⟨_, _, _, _, rfl⟩ | exact tg h rfl
theorem vs5 (h : (vs s).tag = 5) : ∃ t x a b p, s = .For t x a b p := by cases s <;> first | exact ⟨_, _, _, _, _, rfl⟩ | exact tg h rfl
theorem vs6 (h : (vs s).tag = 6) : ∃ x p, s = .Return x p := by cases s <;> first | exact ⟨_, _, rfl⟩ | exact tg h rfl
theorem vs7 (h : (vs s).tag = 7) : ∃ p, s = .Pass p := by cases s <;> first | exact ⟨_, rfl⟩ | exact tg h rfl
end
def ckConsS (f : PySem.Stmt → Bool) (g : List PySem.Stmt → Bool) : List PySem.Stmt → Bool
  | x :: xs => f x && g xs
  | [] => false
theorem ckConsS_el {f : PySem.Stmt → Bool} {g : List PySem.Stmt → Bool} {es : List PySem.Stmt} (h : ckConsS f g es = true) : ∃ x xs, es = x :: xs ∧ f x = true ∧ g xs = true := by
  match es, h with
  | x :: xs, h => exact ⟨x, xs, rfl, and2 h⟩
mutual
def ckS (sc : Scope) (σ : Slots) : St → PySem.Stmt → Bool
  | .assign i e, s => (vs s).tag == 1 && ck1 (fun t => (vw t).tag == 2 && σ.lookup (vw t).s == some i) (vs s).ts && ck1 (fun x => !isComp x && ckE sc σ e x) (vs s).xs
  | .setitem .., _ => false
  | .setattr .., _ => false
  | .expr e, s => (vs s).tag == 2 && ck1 (fun x => !isComp x && ckE sc σ e x) (vs s).xs
  | .ite e a b, s => (vs s).tag == 3 && ck1 (ckE sc σ e) (vs s).xs && (ckSs sc σ a (vs s).a && ckSs sc σ b (vs s).b)
  | .whil .., _ => false
  | .forr i src b, s => (vs s).tag == 5 && (vs s).b.isEmpty && (ck1 (fun t => (vw t).tag == 2 && σ.lookup (vw t).s == some i) (vs s).ts && ck1 (fun it => plainE it && ckI sc σ src it (ckE sc σ src it)) (vs s).xs && ckSs sc σ b (vs s).a)
  | .ret e, s => (vs s).tag == 6 && ck1 (ckE sc σ e) (vs s).xs
  | .pass, s => (vs s).tag == 7
  | .unpack2 .., _ => false
  | .raise .., _ => true
  | .tryx .., _ => false
def ckSs (sc : Scope) (σ : Slots) : List St → List PySem.Stmt → Bool
  | [], es => es.isEmpty
  | x :: xs, es => ckConsS (ckS sc σ x) (ckSs sc σ xs) es
end

section
variable {X : Ctx}
theorem swaps_not {x : PySem.Expr} {t : Option PySem.Expr} {l : Nat} {env : Env} (h : isComp x = false) : swapsWith x t l env = pure false := by
  cases x <;> first | rfl | cases h
theorem asm_assign (G : X.Good) {e : Ex} {sc : Scope} {σ : Slots} {x : PySem.Expr} {n : Str} {i : Nat} {px pos : Pos} (hn : σ.lookup n = some i) (hc : (!isComp x) = true) (h : ckE sc σ e x = true) : SS X sc σ (.assign i e) (.Assign [.Name n px] x pos) :=
  ss_assign (asm G _ _ _ _ h).1 hn fun env => swaps_not (notT hc)

def AS (X : Ctx) (x : St) : Prop := ∀ sc σ e, ckS sc σ x e = true → SS X sc σ x e

theorem asm_sts {xs : List St} (ih : ∀ x ∈ xs, AS X x) : ∀ sc σ es, ckSs sc σ xs es = true → SSs X sc σ xs es := by
  induction xs with
  | nil =>
    intro sc σ es h
    have h := List.isEmpty_iff.mp h
    subst h; exact sss_nil
  | cons x xs iht =>
    intro sc σ es h
    obtain ⟨e, es, rfl, h1, h2⟩ := ckConsS_el h
    exact sss_cons (ih x (.head _) sc σ _ h1) (iht (fun y hy => ih y (.tail _ hy)) sc σ _ h2)

theorem asm_st (G : X.Good) : ∀ n x, sizeOf x ≤ n → AS X x := by
  intro n
  induction n with
  | zero => intro x hx; cases x <;> simp at hx
  | succ n ihn =>
    intro x hx sc σ e h
    have ih : ∀ y, sizeOf y < sizeOf x → AS X y := fun y hy => ihn y (by omega)
    have ihl : ∀ ys : List St, sizeOf ys < sizeOf x → ∀ y ∈ ys, AS X y := fun ys hy y hm => ih y (Nat.lt_trans (List.sizeOf_lt_of_mem hm) hy)
    cases x
    case assign =>
      unfold ckS at h
      have h := and3 h
      obtain ⟨ts, x, p, rfl⟩ := vs1 (beq_iff_eq.mp h.1.1)
      obtain ⟨t, e1, h1⟩ := ck1_el h.1.2
      obtain ⟨x', e2, h2⟩ := ck1_el h.2
      cases e2
      have e1 : ts = [t] := e1
      subst e1
      have h1 := and2 h1
      obtain ⟨n, q, rfl⟩ := vw2 (beq_iff_eq.mp h1.1)
      have h2 := and2 h2
      exact asm_assign G (beq_iff_eq.mp h1.2) h2.1 h2.2
    case expr =>
      unfold ckS at h
      have h := and2 h
      obtain ⟨x, p, rfl⟩ := vs2 (beq_iff_eq.mp h.1)
      obtain ⟨x', e2, h2⟩ := ck1_el h.2
      cases e2
      have h2 := and2 h2
      exact ss_expr (asm G _ _ _ _ h2.2).1 fun env => swaps_not (notT h2.1)
    case ite =>
      unfold ckS at h
      have h := and3 h
      obtain ⟨x, a, b, p, rfl⟩ := vs3 (beq_iff_eq.mp h.1.1)
      obtain ⟨x', e2, h2⟩ := ck1_el h.1.2
      cases e2
      have h3 := and2 h.2
      exact ss_ite (asm G _ _ _ _ h2).2 (asm_sts (ihl _ (by simp +arith)) _ _ _ h3.1) (asm_sts (ihl _ (by simp +arith)) _ _ _ h3.2)
    case forr =>
      unfold ckS at h
      have h := and3 h
      obtain ⟨t, x, a, b, p, rfl⟩ := vs5 (beq_iff_eq.mp h.1.1)
      have e3 : b = [] := List.isEmpty_iff.mp h.1.2
      subst e3
      have h3 := and3 h.2
      obtain ⟨t', e1, h1⟩ := ck1_el h3.1.1
      cases e1
      obtain ⟨x', e2, h2⟩ := ck1_el h3.1.2
      cases e2
      have h1 := and2 h1
      obtain ⟨n, q, rfl⟩ := vw2 (beq_iff_eq.mp h1.1)
      have h2 := and2 h2
      exact ss_for (beq_iff_eq.mp h1.2) (asmI G _ _ _ _ h2.2) h2.1 (asm_sts (ihl _ (by simp +arith)) _ _ _ h3.2)
    case ret =>
      unfold ckS at h
      have h := and2 h
      obtain ⟨x, p, rfl⟩ := vs6 (beq_iff_eq.mp h.1)
      cases x with
      | none => cases h.2
      | some x => exact ss_ret (asm G _ _ _ _ h.2).1
    case pass =>
      unfold ckS at h
      obtain ⟨p, rfl⟩ := vs7 (beq_iff_eq.mp h)
      exact ss_pass
    case raise => intro c Q R fr h env A s w i; unfold wpS at w; exact w.elim
    all_goals (unfold ckS at h; cases h)

theorem asmS (G : X.Good) (xs : List St) : ∀ sc σ es, ckSs sc σ xs es = true → SSs X sc σ xs es := asm_sts fun y _ => asm_st G _ y (Nat.le_refl _)

def ckParams : Nat → List Str → Slots → Bool
  | _, [], _ => true
  | i, p :: ps, σ => σ.lookup p == some i && ckParams (i + 1) ps σ
theorem ckParams_spec {σ : Slots} : ∀ {ps : List Str} {k : Nat}, ckParams k ps σ = true → ∀ i p, ps[i]? = some p → σ.lookup p = some (k + i)
  | [], k, _, i, p, h => by simp at h
  | q :: ps, k, hc, i, p, h => by
    simp only [ckParams, Bool.and_eq_true, beq_iff_eq] at hc
    cases i with
    | zero => simp at h; subst h; simpa using hc.1
    | succ i => simp at h; have := ckParams_spec hc.2 i p h; rw [this]; congr 1; omega

def ckFn (F : Fn) (fd : FuncData) : Bool :=
  fd.params.posonlyargs.isEmpty && fd.params.args.map (·.arg) == F.params && fd.params.vararg.isNone && fd.params.kwonlyargs.isEmpty && fd.params.kwarg.isNone && (match fd.defaults with | .none => true | _ => false) &&
  decide F.params.Nodup && fd.closure.isEmpty && fd.globals == mainGlobals && fd.builtins == builtinsNs && fd.scope.kind == .function && !fd.scope.isCoroutine && !fd.scope.isGenerator && ckParams 0 F.params F.σ &&
  decide (F.σ.map (·.2)).Nodup && (F.σ.all fun p => fd.scope.names.lookup p.1 == some .local || fd.scope.names.lookup p.1 == some .cell) && (match fd.body with | .stmts b => ckSs fd.scope F.σ F.body b | _ => false)

theorem inj_of {σ : Slots} (h : (σ.map (·.2)).Nodup) : ∀ n n' i, σ.lookup n = some i → σ.lookup n' = some i → n = n' := by
  induction σ with
  | nil => intro n n' i h; simp at h
  | cons p σ ih =>
    obtain ⟨a, j⟩ := p
    simp only [List.map_cons, List.nodup_cons] at h
    intro n n' i h1 h2
    rw [List.lookup_cons] at h1 h2
    have no : ∀ m, σ.lookup m = some j → False := fun m hm => h.1 (List.mem_map.mpr ⟨_, mem_of_lookup hm, rfl⟩)
    split at h1
    · cases h1; rename_i q1
      split at h2
      · rename_i q2; simp at q1 q2; rw [q1, q2]
      · exact (no _ h2).elim
    · split at h2
      · cases h2; exact (no _ h1).elim
      · exact ih h.2 n n' i h1 h2

theorem fnOk_of (G : X.Good) {F : Fn} {fd : FuncData} (h : ckFn F fd = true) : FnOk X fd F := by
  unfold ckFn at h
  simp only [Bool.and_eq_true, beq_iff_eq, List.isEmpty_iff, Option.isNone_iff_eq_none, decide_eq_true_eq, Bool.not_eq_true', List.all_eq_true, Bool.or_eq_true] at h
  obtain ⟨⟨⟨⟨⟨⟨⟨⟨⟨⟨⟨⟨⟨⟨⟨⟨h1, h2⟩, h3⟩, h4⟩, h5⟩, h6⟩, h7⟩, h8⟩, h9⟩, h10⟩, h11⟩, h12⟩, h13⟩, h14⟩, h15⟩, h16⟩, h17⟩ := h
  refine ⟨⟨h1, h2, h3, h4, h5, ?_, h7⟩, h8, h9, h10, h11, h12, h13, fun i p e => by simpa using ckParams_spec h14 i p e, inj_of h15, fun n i e => h16 _ (mem_of_lookup e), ?_⟩
  · split at h6
    · assumption
    · cases h6
  · split at h17
    · rename_i b hb; exact ⟨b, hb, asmS G _ _ _ _ h17⟩
    · cases h17
end
end Mine

namespace Mine
open PySem PyProof.Rows PySem.Calls PySem.SeqAt PySem.W

/-- a def of the text, checked against its small form -/
def Ctx.Def (X : Ctx) (f : Str) (F : Fn) : Prop :=
  ∃ fa o fd, X.fa f = some fa ∧ X.base.get? fa = some o ∧ o.data = .func fd ∧ X.base.CodeRec fd.code fd.qualname ∧ FnOk X fd F

section
variable {X : Ctx} {k : Nat} {f : Str} {args : List V} {h : AH} {Q : V → AH → Prop} {R : Addr → AH → Prop} {F : Fn}
theorem Ctx.Def.call (D : X.Def f F) (G : X.Good) (hlen : args.length = F.params.length)
    (w : wpSs X ⟨k, true⟩ F.body (fun out _ h' => match out with | .next => Q .none h' | .ret v => Q v h') (fun C _ h' => R C h') (F.init args) h) : X.Call (k + 1) f args h Q R :=
  let ⟨_, _, _, a, b, c, d, e⟩ := D; call_intro G a b c d e hlen w
end

def noneIn (K : Frag) (n : Str) : Bool := match nsIn K mainGlobals n with | some none => true | _ => false
def refIn (K : Frag) (n : Str) (a : Addr) : Bool := match nsIn K mainGlobals n with | some (some (.ref b)) => b == a | _ => false
def fnAt (K : Frag) (a : Addr) : Option FuncData := match K.lookup a with
  | some o => (match o.data with | .func fd => some fd | _ => none)
  | none => none
def ckFnAt (K : Frag) (a : Addr) (F : Fn) : Bool := match fnAt K a with
  | some fd => codeIn K fd.code fd.qualname && ckFn F fd
  | none => false
def biNames : List Str := ["len", "list", "dict", "tuple", "sorted", "min", "max", "int", "any", "all", "str", "isinstance", "bool", "range", "reversed"]
def ckFree (K : Frag) : Bool := biNames.all fun n => noneIn K n
def ckFns (K : Frag) (fs : List (Str × Addr)) : Bool := fs.all fun p => (fnAt K p.2).isSome && (p.1.cps.contains 46 || refIn K p.1 p.2)

theorem boot_bi (b : Bi) : bootBuiltins (biName b) = some (biVal b) := by cases b <;> decide +kernel
theorem boot_isi : bootBuiltins "isinstance" = some (.builtin "isinstance") := by decide +kernel
theorem boot_ty : ∀ n ∈ (["int", "bool", "str", "list", "dict", "tuple"] : List String), bootBuiltins (Str.ofString n) = some (.type n) := by decide +kernel
theorem boot_range : bootBuiltins "range" = some (.type "range") := by decide +kernel
theorem boot_reversed : bootBuiltins "reversed" = some (.type "reversed") := by decide +kernel

theorem fnAt_spec {K : Frag} {h : Heap} (X : K.In h) {a : Addr} {fd : FuncData} (e : fnAt K a = some fd) : ∃ o, h.get? a = some o ∧ o.data = .func fd := by
  unfold fnAt at e
  split at e
  · rename_i o ho
    split at e
    · rename_i fd' hd; cases e; exact ⟨o, X _ _ ho, hd⟩
    · cases e
  · cases e

theorem noneIn_spec {K : Frag} {h : Heap} {mg : Str → Option Value} {n : Str} (X : K.In h) (G : h.Ns mainGlobals mg) (e : noneIn K n = true) : mg n = none := by
  unfold noneIn at e
  split at e
  · exact mg_none_of X G (by assumption)
  · cases e
theorem refIn_spec {K : Frag} {h : Heap} {mg : Str → Option Value} {n : Str} {a : Addr} (X : K.In h) (G : h.Ns mainGlobals mg) (e : refIn K n a = true) : mg n = some (.ref a) := by
  unfold refIn at e
  split at e
  · rename_i b hb; rw [← beq_iff_eq.mp e]; exact mg_of X G hb
  · cases e

theorem good_of {X : Ctx} {K : Frag} {fs : List (Str × Addr)} (KX : K.In X.base) (g : X.base.Ns mainGlobals X.mg) (b : X.base.Ns builtinsNs X.mb) (lim : X.base.NoLimit) (bt : ∀ x : Str, x ≠ "__name__" → X.mb x = bootBuiltins x)
    (sysm : ∃ a o, sysModules < a ∧ X.base.get? a = some o) (hfa : ∀ n, X.fa n = fs.lookup n) (ck : ckFree K = true) (ckf : ckFns K fs = true) (gl : ∀ n v, X.glob n = some v → ∃ u, X.mg n = some u ∧ RepV X.base v u) : X.Good := by
  have free : ∀ n ∈ biNames, X.mg n = none := fun n hn => noneIn_spec KX g (List.all_eq_true.mp ck n hn)
  refine ⟨g, b, lim, fun bb => ⟨free _ (by cases bb <;> decide), ?_⟩, ⟨free _ (by decide), ?_⟩, fun n hn => ⟨free _ ?_, ?_⟩, ⟨free _ (by decide), ?_⟩, ⟨free _ (by decide), ?_⟩, fun f a e hd => ?_, fun f a e => ?_, sysm, gl⟩
  · rw [bt _ (by cases bb <;> decide)]; exact boot_bi bb
  · rw [bt _ (by decide)]; exact boot_isi
  · revert n; decide
  · rw [bt _ (by revert n; decide)]; exact boot_ty n hn
  · rw [bt _ (by decide)]; exact boot_range
  · rw [bt _ (by decide)]; exact boot_reversed
  · rw [hfa] at e
    have := List.all_eq_true.mp ckf _ (mem_of_lookup e)
    simp only [Bool.and_eq_true, Bool.or_eq_true] at this
    rcases this.2 with q | q
    · rw [q] at hd; cases hd
    · exact refIn_spec KX g q
  · rw [hfa] at e
    have := List.all_eq_true.mp ckf _ (mem_of_lookup e)
    simp only [Bool.and_eq_true, Bool.or_eq_true] at this
    obtain ⟨fd, hfd⟩ := Option.isSome_iff_exists.mp this.1
    obtain ⟨o, ho, hd⟩ := fnAt_spec KX hfd
    exact ⟨o, fd, ho, hd⟩

theorem def_of {X : Ctx} {K : Frag} {f : Str} {a : Addr} {F : Fn} (G : X.Good) (KX : K.In X.base) (hfa : X.fa f = some a) (ck : ckFnAt K a F = true) : X.Def f F := by
  unfold ckFnAt at ck
  split at ck
  · rename_i fd hfd
    obtain ⟨o, ho, hd⟩ := fnAt_spec KX hfd
    simp only [Bool.and_eq_true] at ck
    exact ⟨a, o, fd, hfa, ho, hd, codeRec_of KX ck.1, fnOk_of G ck.2⟩
  · cases ck

/-- the heap at the start of a law: the script alone -/
def startAH (L : Addr) (ns : List Int) : AH := fun a => if a = L then some (.flist (ns.map .int)) else none

theorem startAH_self {L : Addr} {ns : List Int} : startAH L ns L = some (.flist (ns.map .int)) := if_pos rfl

theorem law_end {X : Ctx} {k : Nat} {L fa : Addr} {ns : List Int} {items : List Value} {c : ClaimW} {cl : Str → Option Addr} {mean : ExcName → Option Value} {args : List WData} {s₁ : Shared}
    (hb : X.base = s₁.heap) (hg : s₁.gens = #[]) (hl : s₁.heap.IsList L (List.toArray items)) (hi : RepVs s₁.heap (ns.map .int) items) (hz : ns.length ≤ big) (hk : k ≤ 600)
    (hf : X.fa "law" = some fa) (call : X.Call k "law" [.ref L] (startAH L ns) (fun v _ => v = .bool true) (fun _ _ => False))
    (hn : ∀ cls, c.raises args cls = false) (hp : c.post args (.bool true) args = true) :
    wpAny X.M callerA (PySem.call (.ref fa) [.ref L]) (fun v s' => GoodWG c cl mean args s₁ (.ok (.ret v)) s') (fun e s' => GoodWG c cl mean args s₁ (.error e) s') s₁ := by
  obtain ⟨fa', hfa', call⟩ := call
  rw [hf] at hfa'; cases hfa'
  refine enter_call (codeAny_mono (call callerA s₁ [.ref L] ?_ ?_ ?_) fun res s' y => ?_)
  · exact ⟨fun _ => rfl, by show 301 + k < 1000; omega, by show 4 + 10 * k < 9000; omega⟩
  · refine ⟨fun b o e => hb ▸ e, fun a o e => ?_, fun a o e => ?_⟩
    · unfold startAH at e
      split at e
      · cases e; rename_i q; subst q; exact ⟨items, hl, hi, by simpa using hz⟩
      · cases e
    · unfold startAH at e
      split at e
      · cases e; exact .inl ⟨_, rfl⟩
      · cases e
  · exact ⟨.ref L, [], rfl, rep_ref, rfl⟩
  · refine GoodW.toG ?_
    cases res with
    | error e => obtain ⟨_, _, _, _, q⟩ := y; exact q.elim
    | ok fl =>
      cases fl with
      | ret v =>
        obtain ⟨x, ah', rv, st, q⟩ := y
        subst q
        simp only [RepV] at rv; subst rv
        refine ⟨.inl ⟨.bool true, .bool true, [], rfl, hn, .bool true, hp, fun _ => ⟨List.nodup_nil, fun a ha => by cases ha⟩⟩, fun b o e => st.rel.base b o (hb ▸ e), st.rest.2.2, st.rest.1.trans hg⟩
      | next => exact y.elim
      | brk => exact y.elim
      | cont => exact y.elim

theorem top_sysm {p : Program} {loose : List Str} {mean : ExcName → Option Value} {mg mb : Str → Option Value} {h : Heap} (T : Top p loose mean mg mb h) : ∃ a o, sysModules < a ∧ h.get? a = some o := by
  obtain ⟨_, ⟨o, _, _, ho, _⟩, _⟩ := T.nodigits
  exact ⟨_, o, by decide, ho⟩
end Mine

namespace Mine
open PySem PyProof.Rows PySem.W

def cellAt (ns : List Int) (i : Nat) : Int := ns[i]?.getD 0

theorem pyIdx_nat {α : Type} (vs : List α) (i : Nat) : pyIdx vs (i : Int) = vs[i]? := by
  unfold pyIdx
  rw [if_pos (by omega)]
  simp
theorem pyIdx0 {α : Type} (x : α) (r : List α) : pyIdx (x :: r) 0 = some x := rfl
theorem pyIdx1 {α : Type} (x y : α) (r : List α) : pyIdx (x :: y :: r) 1 = some y := rfl
theorem pyIdx2 {α : Type} (x y z : α) (r : List α) : pyIdx (x :: y :: z :: r) 2 = some z := rfl
theorem pyIdx3 {α : Type} (x y z u : α) (r : List α) : pyIdx (x :: y :: z :: u :: r) 3 = some u := rfl
section
variable {h : AH} {Q : V → AH → Prop}
theorem eqv_int (n : Nat) (a b : Int) : eqv h (n + 1) (.int a) (.int b) = some (decide (a = b)) := by simp [eqv]; rfl
theorem eqv_bool (n : Nat) (a b : Bool) : eqv h (n + 1) (.bool a) (.bool b) = some (decide (a = b)) := by simp [eqv]; rfl
theorem cmp_lt (a b : Int) : cmpV h .Lt (.int a) (.int b) = some (decide (a < b)) := rfl
theorem cmp_le (a b : Int) : cmpV h .LtE (.int a) (.int b) = some (decide (a ≤ b)) := rfl
theorem cmp_gt (a b : Int) : cmpV h .Gt (.int a) (.int b) = some (decide (b < a)) := rfl
theorem cmp_ge (a b : Int) : cmpV h .GtE (.int a) (.int b) = some (decide (b ≤ a)) := rfl
theorem cmp_eq (a b : Int) : cmpV h .Eq (.int a) (.int b) = some (decide (a = b)) := eqv_int (h := h) 7 a b
theorem cmp_ne (a b : Int) : cmpV h .NotEq (.int a) (.int b) = some (decide (¬ a = b)) := by unfold cmpV; simp only [eqv_int 7 a b]; simp
theorem cmp_eqb (a b : Bool) : cmpV h .Eq (.bool a) (.bool b) = some (decide (a = b)) := eqv_bool (h := h) 7 a b
theorem cmp_neb (a b : Bool) : cmpV h .NotEq (.bool a) (.bool b) = some (decide (¬ a = b)) := by unfold cmpV; simp only [eqv_bool 7 a b]; simp
theorem cmp_is (x y : V) : cmpV h .Is x y = isV x y := rfl
theorem cmp_isnot (x y : V) : cmpV h .IsNot x y = (isV x y).map (!·) := rfl
theorem cmp_in (x y : V) : cmpV h .In x y = inV h x y := rfl
theorem cmp_notin (x y : V) : cmpV h .NotIn x y = (inV h x y).map (!·) := rfl
theorem tr_bool (b : Bool) : truthV h (.bool b) = some b := rfl
theorem tr_none : truthV h .none = some false := rfl
theorem tr_int (i : Int) : truthV h (.int i) = some (decide (¬ i = 0)) := by simp [truthV]; rfl
theorem gv_tup (vs : List V) (k : Int) : getV h (.tup vs) (.int k) = pyIdx vs k := rfl
theorem lv_tup (vs : List V) : lenV h (.tup vs) = some vs.length := rfl
theorem bi_add (a b : Int) : binop .Add (.int a) (.int b) h Q = Q (.int (a + b)) h := rfl
theorem bi_sub (a b : Int) : binop .Sub (.int a) (.int b) h Q = Q (.int (a - b)) h := rfl
theorem bi_mul (a b : Int) : binop .Mult (.int a) (.int b) h Q = (((-(2 ^ 60) < a ∧ a < 2 ^ 60) ∨ (-(2 ^ 60) < b ∧ b < 2 ^ 60)) ∧ Q (.int (a * b)) h) := rfl
theorem bi_mod (a b : Int) : binop .Mod (.int a) (.int b) h Q = (0 < b ∧ Q (.int (a % b)) h) := rfl
theorem bi_div (a b : Int) : binop .FloorDiv (.int a) (.int b) h Q = ((0 < b ∧ b < 10 ^ 100) ∧ Q (.int (a / b)) h) := rfl
theorem bi_pow (a b : Int) : binop .Pow (.int a) (.int b) h Q = ((0 ≤ a ∧ a ≤ 10 ∧ 0 ≤ b ∧ b ≤ 100) ∧ Q (.int (a ^ b.toNat)) h) := rfl
theorem bi_addt (a b : List V) : binop .Add (.tup a) (.tup b) h Q = ((a.length + b.length ≤ small) ∧ Q (.tup (a ++ b)) h) := rfl
theorem and_or : (BoolOp.And == BoolOp.Or) = false := rfl
theorem or_or : (BoolOp.Or == BoolOp.Or) = true := rfl
theorem and_and : (BoolOp.And == BoolOp.And) = true := rfl
theorem or_and : (BoolOp.Or == BoolOp.And) = false := rfl
theorem put_self (a : Addr) (o : O) : h.put a o a = some o := by simp [AH.put]
theorem put_ne {a b : Addr} (o : O) (n : b ≠ a) : h.put a o b = h b := by simp [AH.put, n]
end

theorem wcons {X : Ctx} {c : Cfg} {s : St} {r : List St} {Q : QS} {R : RS} {fr : Fm} {h : AH} : wpSs X c (s :: r) Q R fr h = wpS X c s (fun out fr1 h1 => match out with | .next => wpSs X c r Q R fr1 h1 | .ret v => Q (.ret v) fr1 h1) R fr h := by first | (rw [wpSs]; done) | (rw [wpSs]; rfl)
theorem wnil {X : Ctx} {c : Cfg} {Q : QS} {R : RS} {fr : Fm} {h : AH} : wpSs X c [] Q R fr h = Q .next fr h := by rw [wpSs]
theorem Ctx.Def.some {X : Ctx} {f : Str} {F : Fn} (D : X.Def f F) : (X.fa f).isSome = true := let ⟨_, _, _, a, _⟩ := D; by rw [a]; rfl
/-- the def that reads the script -/
def fCell : Fn := ⟨["_law_script", "_law_k"], [("_law_script", 0), ("_law_k", 1)], 2, [
    .ite (.cmp .Lt (.var 1) (.bi .len [(.var 0)])) [
      .ret (.sub (.var 0) (.var 1))] [],
    .ret (.lit (.int 0))]⟩

theorem c_cell {X : Ctx} (G : X.Good) (D : X.Def "_law_cell_at" fCell) {k : Nat} {h : AH} {L : Addr} {ns : List Int} {i : Int} {Q R} (hL : h L = some (.flist (ns.map .int))) (hi : 0 ≤ i) (q : Q (.int (cellAt ns i.toNat)) h) :
    X.Call (k + 1) "_law_cell_at" [.ref L, .int i] h Q R := by
  obtain ⟨j, rfl⟩ := Int.eq_ofNat_of_zero_le hi
  refine D.call G rfl ?_
  simp only [fCell, Fn.init, wpSs, wpS, wpT, wpE, wpEs, biP, lenV, cmp_lt, getV, hL, List.map_cons, List.map_nil, List.length_cons, List.length_nil, List.cons_append, List.nil_append, List.getElem?_cons_zero, List.getElem?_cons_succ]
  refine ⟨trivial, ?_⟩
  rw [pyIdx_nat]
  simp only [Int.toNat_natCast] at q
  unfold cellAt at q
  by_cases hj : j < ns.length
  · simp [hj] at q ⊢; exact q
  · simp [hj] at q ⊢; exact q
end Mine

namespace Mine

/-! maps of ints -/
/-! the way up -/
/-! names of folders -/
end Mine

namespace Mine
open PySem PyProof.Rows PySem.W

/-! heaps that grow -/
def Ext (h h' : AH) : Prop := ∀ a o, h a = some o → h' a = some o
theorem Ext.refl {h : AH} : Ext h h := fun _ _ e => e
theorem Ext.trans {a b c : AH} (x : Ext a b) (y : Ext b c) : Ext a c := fun _ _ e => y _ _ (x _ _ e)
theorem ext_put {h : AH} {c : Addr} {o : O} (n : h c = none) : Ext h (h.put c o) := fun a o' e => by
  unfold AH.put
  split
  · rename_i q; rw [q, n] at e; cases e
  · exact e
theorem Ext.no {h h' : AH} (x : Ext h h') {a : Addr} (n : h' a = none) : h a = none := by
  cases e : h a with
  | none => rfl
  | some o => rw [x _ _ e] at n; cases n
theorem addr_ne {h : AH} {a c : Addr} {o : O} (e : h a = some o) (n : h c = none) : a ≠ c := fun q => by rw [q, n] at e; cases e
theorem new_go {o : O} {h : AH} {Q : V → AH → Prop} (q : ∀ c h1, h c = none → Ext h h1 → h1 c = some o → Q (.ref c) h1) : newP o h Q :=
  fun c n => q c _ n (ext_put n) (put_self c o)
/-- one object is changed -/
def Upd (a : Addr) (h h' : AH) : Prop := ∀ b, b ≠ a → h' b = h b
theorem Upd.at {h h' : AH} {a b : Addr} {o : O} (u : Upd a h h') (e : h b = some o) (n : b ≠ a) : h' b = some o := (u b n).trans e

/-! maps of ints as dicts -/
theorem pyIdx4 {α : Type} (a b c d x : α) (r : List α) : pyIdx (a :: b :: c :: d :: x :: r) 4 = some x := rfl
theorem pyIdx5 {α : Type} (a b c d e x : α) (r : List α) : pyIdx (a :: b :: c :: d :: e :: x :: r) 5 = some x := rfl
theorem pyIdx6 {α : Type} (a b c d e f x : α) (r : List α) : pyIdx (a :: b :: c :: d :: e :: f :: x :: r) 6 = some x := rfl
theorem pyIdx7 {α : Type} (a b c d e f g x : α) (r : List α) : pyIdx (a :: b :: c :: d :: e :: f :: g :: x :: r) 7 = some x := rfl

theorem l100_2 : ((2 : Int) < 10 ^ 100) = True := eq_true (by decide)
theorem l100_4 : ((4 : Int) < 10 ^ 100) = True := eq_true (by decide)
theorem l100_6 : ((6 : Int) < 10 ^ 100) = True := eq_true (by decide)
theorem l100_8 : ((8 : Int) < 10 ^ 100) = True := eq_true (by decide)
theorem l100_9 : ((9 : Int) < 10 ^ 100) = True := eq_true (by decide)
theorem l100_16 : ((16 : Int) < 10 ^ 100) = True := eq_true (by decide)
theorem l100_24 : ((24 : Int) < 10 ^ 100) = True := eq_true (by decide)
theorem l100_28 : ((28 : Int) < 10 ^ 100) = True := eq_true (by decide)
theorem l100_60 : ((60 : Int) < 10 ^ 100) = True := eq_true (by decide)
theorem l100_224 : ((224 : Int) < 10 ^ 100) = True := eq_true (by decide)
theorem l100_540 : ((540 : Int) < 10 ^ 100) = True := eq_true (by decide)
theorem p60 : ((0 : Int) < 10 ^ 60) = True := eq_true (by decide)

/-! loops -/
theorem loop_range {F : V → Fm → AH → QS → Prop} {Q : QS} {m : Int} (I : Nat → Fm → AH → Prop) : ∀ {n : Nat} {fr h} (j : Nat),
    (∀ i fr h (K : QS), i < j + n → I i fr h → (∀ fr' h', I (i + 1) fr' h' → K .next fr' h') → F (.int (m + (i : Nat))) fr h K) → (∀ fr h, I (j + n) fr h → Q .next fr h) → I j fr h →
    loopL F freeG ((List.range' j n).map fun i => .int (m + (i : Nat))) fr h Q
  | 0, fr, h, j, hs, hn, i => ⟨trivial, hn _ _ i⟩
  | n + 1, fr, h, j, hs, hn, i => ⟨trivial, hs j fr h _ (by omega) i fun fr' h' i' => by
      refine loop_range I (j + 1) (fun i fr h K l => hs i fr h K (by omega)) (fun fr h q => hn fr h ?_) i'
      rw [show j + (n + 1) = j + 1 + n by omega]; exact q⟩
theorem loop_range0 {F : V → Fm → AH → QS → Prop} {Q : QS} {m : Int} (I : Nat → Fm → AH → Prop) {n : Nat} {fr h}
    (hs : ∀ i fr h (K : QS), i < n → I i fr h → (∀ fr' h', I (i + 1) fr' h' → K .next fr' h') → F (.int (m + (i : Nat))) fr h K) (hn : ∀ fr h, I n fr h → Q .next fr h) (i : I 0 fr h) :
    loopL F freeG ((List.range n).map fun i => .int (m + (i : Nat))) fr h Q := by
  rw [List.range_eq_range']
  exact loop_range I 0 (fun i fr h K l => hs i fr h K (by omega)) (fun fr h q => hn fr h (by simpa using q)) i

/-! tests of membership -/
end Mine

namespace Mine
open PySem PySem.W PyProof.Rows
local macro_rules | `(tactic| walk_at "wp") => `(tactic| simp only [wnil, Fn.init, wpS, wpT, wpTs, wpB, wpI, wpC, wpE, wpEs, biP, lv_tup, cmp_lt, cmp_le, cmp_gt, cmp_ge, cmp_eq, cmp_ne, cmp_eqb, cmp_neb, cmp_is, cmp_isnot, cmp_in, cmp_notin,
  gv_tup, tr_bool, tr_none, tr_int, bi_add, bi_sub, bi_mul, bi_mod, bi_div, bi_pow, bi_addt, and_or, or_or, and_and, or_and, pyIdx0, pyIdx1, pyIdx2, pyIdx3,
  isiV, kindV, kindO, tyN, Nat.reduceBEq, Bool.or_false, Bool.false_or, Bool.true_or, Bool.or_true, Bool.and_false, Bool.false_and, Bool.and_true, Bool.true_and, srcP, List.map_cons, List.map_nil, List.length_cons, List.length_nil, List.replicate, List.cons_append, List.nil_append, List.getElem?_cons_zero, List.getElem?_cons_succ, List.set_cons_zero, List.set_cons_succ,
  not_true_eq_false, not_false_eq_true, Classical.not_not, decide_true, decide_false, decide_eq_true_eq, decide_eq_false_iff_not, decide_not, Bool.not_eq_true', true_and, and_true, ite_true, ite_false, if_true, if_false, Bool.not_true, Bool.not_false, Bool.false_eq_true, Bool.true_eq_false, Nat.sub_self, Nat.reduceSub, Nat.reduceAdd, Int.reduceToNat, Int.reduceLT, Int.reduceLE, Int.reduceNeg, eq_self, l100_2, l100_4, l100_6, l100_8, l100_9, l100_16, l100_24, l100_28, l100_60, l100_224, l100_540, p60, pyIdx4, pyIdx5, pyIdx6, pyIdx7])
local macro_rules | `(tactic| walk_at "st") => `(tactic| (rw [wcons]; walk_at "wp"))
set_option maxRecDepth 100000
section
variable {X : Ctx}

theorem Ext.upd {h h1 : AH} {w : Addr} {o : O} (x : Ext h h1) (n : h w = none) : Ext h (h1.put w o) := fun a o' e => by
  rw [put_ne _ (addr_ne e n)]; exact x _ _ e
end
end Mine

namespace Mine
open PySem PySem.W PyProof.Rows
set_option maxRecDepth 100000 in
set_option maxHeartbeats 8000000 in
open_top hd05 for PySem.Challenge.rw_uf050008_05
end Mine

namespace Mine.L05
open PySem
def f_is_within : Fn := ⟨["thing", "least"], [("thing", 0), ("least", 1)], 2, [
    .ret (.bop .And [(.isi (.var 0) [.int]), (.not (.isi (.var 0) [.bool])), (.cmp .LtE (.var 1) (.var 0)), (.cmp .LtE (.var 0) (.bin .Pow (.lit (.int 10)) (.lit (.int 60))))])]⟩
def f_is_move : Fn := ⟨["thing"], [("thing", 0)], 1, [
    .ite (.bop .Or [(.not (.isi (.var 0) [.tuple])), (.cmp .NotEq (.bi .len [(.var 0)]) (.lit (.int 4)))]) [
      .ret (.lit (.bool false))] [],
    .ite (.bop .Or [(.not (.callf "is_within" [(.sub (.var 0) (.lit (.int 0))), (.lit (.int 1))])), (.not (.callf "is_within" [(.sub (.var 0) (.lit (.int 1))), (.lit (.int 0))]))]) [
      .ret (.lit (.bool false))] [],
    .ret (.bop .And [(.callf "is_within" [(.sub (.var 0) (.lit (.int 2))), (.lit (.int 1))]), (.callf "is_within" [(.sub (.var 0) (.lit (.int 3))), (.lit (.int 0))])])]⟩
def f_law_part : Fn := ⟨["_law_cell", "_law_least"], [("_law_cell", 0), ("_law_least", 1)], 2, [
    .ite (.cmp .Eq (.bin .Mod (.var 0) (.lit (.int 8))) (.lit (.int 1))) [
      .ret (.bin .Pow (.lit (.int 10)) (.lit (.int 60)))] [],
    .ite (.cmp .Eq (.bin .Mod (.var 0) (.lit (.int 8))) (.lit (.int 2))) [
      .ret (.bin .Sub (.var 1) (.lit (.int 1)))] [],
    .ite (.cmp .Eq (.bin .Mod (.var 0) (.lit (.int 8))) (.lit (.int 3))) [
      .ret (.bin .Add (.bin .Pow (.lit (.int 10)) (.lit (.int 60))) (.lit (.int 1)))] [],
    .ite (.cmp .Eq (.bin .Mod (.var 0) (.lit (.int 8))) (.lit (.int 4))) [
      .ret (.cmp .Eq (.bin .Mod (.bin .FloorDiv (.var 0) (.lit (.int 8))) (.lit (.int 2))) (.lit (.int 0)))] [],
    .ite (.cmp .Eq (.bin .Mod (.var 0) (.lit (.int 8))) (.lit (.int 5))) [
      .ret (.sub (.list [(.lit (.str "1")), (.lit .none), (.list [(.lit (.int 1))]), .dict0, (.tuple [(.lit (.int 1))])]) (.bin .Mod (.bin .FloorDiv (.var 0) (.lit (.int 8))) (.lit (.int 5))))] [],
    .ite (.cmp .Eq (.bin .Mod (.var 0) (.lit (.int 8))) (.lit (.int 6))) [
      .ret (.bin .Add (.var 1) (.bin .Mod (.bin .FloorDiv (.var 0) (.lit (.int 8))) (.bin .Sub (.bin .Add (.bin .Pow (.lit (.int 10)) (.lit (.int 60))) (.lit (.int 1))) (.var 1))))] [],
    .ret (.bin .Add (.var 1) (.bin .Mod (.bin .FloorDiv (.var 0) (.lit (.int 8))) (.lit (.int 9))))]⟩
def f_law : Fn := ⟨["_law_script"], [("_law_script", 0), ("_law_parts", 1), ("_law_good", 2), ("_law_k", 3), ("_law_least", 4), ("_law_part_here", 5), ("_law_thing", 6), ("_law_way", 7), ("_law_found", 8)], 9, [
    .assign 1 (.list []),
    .assign 2 (.lit (.bool true)),
    .forr 3 (.range1 (.lit (.int 4))) [
      .assign 4 (.bin .Sub (.lit (.int 1)) (.bin .Mod (.var 3) (.lit (.int 2)))),
      .assign 5 (.callf "_law_part" [(.callf "_law_cell_at" [(.var 0), (.bin .Add (.lit (.int 1)) (.var 3))]), (.var 4)]),
      .ite (.cmp .Gt (.bin .Mod (.bin .FloorDiv (.callf "_law_cell_at" [(.var 0), (.lit (.int 5))]) (.bin .Add (.var 3) (.lit (.int 1)))) (.lit (.int 3))) (.lit (.int 0))) [
        .assign 5 (.bin .Add (.var 4) (.bin .Mod (.callf "_law_cell_at" [(.var 0), (.bin .Add (.lit (.int 1)) (.var 3))]) (.lit (.int 100))))] [],
      .ite (.bop .Or [(.not (.isi (.var 5) [.int])), (.isi (.var 5) [.bool]), (.cmp .Lt (.var 5) (.var 4)), (.cmp .Gt (.var 5) (.bin .Pow (.lit (.int 10)) (.lit (.int 60))))]) [
        .assign 2 (.lit (.bool false))] [],
      .expr (.bm .append (.var 1) [(.var 5)])],
    .assign 6 (.bi .tuple [(.var 1)]),
    .assign 7 (.bin .Mod (.callf "_law_cell_at" [(.var 0), (.lit (.int 0))]) (.lit (.int 24))),
    .ite (.cmp .Lt (.var 7) (.lit (.int 8))) [
      .assign 6 (.sub (.list [(.var 1), (.slice (.var 6) (.lit .none) (.lit (.int 3))), (.bin .Add (.var 6) (.tuple [(.lit (.int 1))])), (.lit (.str "1 0 1 0")), (.lit .none), (.lit (.int 7)), .dict0, (.tuple [])]) (.var 7)),
      .assign 2 (.lit (.bool false))] [],
    .assign 8 (.callf "is_move" [(.var 6)]),
    .ret (.bop .And [(.isi (.var 8) [.bool]), (.cmp .Eq (.var 8) (.var 2))])]⟩
end Mine.L05
namespace Mine.L05
open PySem PySem.W PyProof.Rows
set_option maxRecDepth 100000
theorem ck_is_within (P : Params) : ckFnAt (hd05.heap_39 P) 21 f_is_within = true := by kernel_rfl
theorem ck_is_move (P : Params) : ckFnAt (hd05.heap_39 P) 28 f_is_move = true := by kernel_rfl
theorem ck_law_cell_at (P : Params) : ckFnAt (hd05.heap_39 P) 35 fCell = true := by kernel_rfl
theorem ck_law_part (P : Params) : ckFnAt (hd05.heap_39 P) 42 f_law_part = true := by kernel_rfl
theorem ck_law (P : Params) : ckFnAt (hd05.heap_39 P) 49 f_law = true := by kernel_rfl
theorem ckg (P : Params) : ckFree (hd05.heap_39 P) = true := by kernel_rfl
def fas : List (Str × Addr) := [("is_within", 21), ("is_move", 28), ("_law_cell_at", 35), ("_law_part", 42), ("law", 49)]
theorem ckf (P : Params) : ckFns (hd05.heap_39 P) fas = true := by kernel_rfl
end Mine.L05

namespace Mine.L05
open PySem PySem.W PyProof.Rows
local macro_rules | `(tactic| walk_at "wp") => `(tactic| try simp only [wnil, Fn.init, wpS, wpT, wpTs, wpB, wpI, wpC, wpE, wpEs, biP, lv_tup, cmp_lt, cmp_le, cmp_gt, cmp_ge, cmp_eq, cmp_ne, cmp_eqb, cmp_neb, cmp_is, cmp_isnot, cmp_in, cmp_notin,
  gv_tup, tr_bool, tr_none, tr_int, bi_add, bi_sub, bi_mul, bi_mod, bi_div, bi_pow, bi_addt, and_or, or_or, and_and, or_and, pyIdx0, pyIdx1, pyIdx2, pyIdx3,
  isiV, kindV, kindO, tyN, Nat.reduceBEq, Bool.or_false, Bool.false_or, Bool.true_or, Bool.or_true, Bool.and_false, Bool.false_and, Bool.and_true, Bool.true_and, srcP, List.map_cons, List.map_nil, List.length_cons, List.length_nil, List.replicate, List.cons_append, List.nil_append, List.getElem?_cons_zero, List.getElem?_cons_succ, List.set_cons_zero, List.set_cons_succ,
  not_true_eq_false, not_false_eq_true, Classical.not_not, decide_true, decide_false, decide_eq_true_eq, decide_eq_false_iff_not, decide_not, Bool.not_eq_true', true_and, and_true, ite_true, ite_false, if_true, if_false, Bool.not_true, Bool.not_false, Bool.false_eq_true, Bool.true_eq_false, Nat.sub_self, Nat.reduceSub, Nat.reduceAdd, Int.reduceToNat, Int.reduceLT, Int.reduceLE, Int.reduceNeg, eq_self, l100_2, l100_4, l100_6, l100_8, l100_9, l100_16, l100_24, l100_28, l100_60, l100_224, l100_540, p60, pyIdx4, pyIdx5, pyIdx6, pyIdx7])
local macro_rules | `(tactic| walk_at "st") => `(tactic| (rw [wcons]; walk_at "wp"))

set_option maxRecDepth 100000
section
variable {X : Ctx}
def okV (h : AH) : V → Prop
  | .ref a => (∃ l, h a = some (.list l)) ∨ ∃ d e, h a = some (.idict d e)
  | .exc _ => False
  | _ => True
theorem okV.ext {h h' : AH} (x : Ext h h') {v : V} (o : okV h v) : okV h' v := by
  cases v <;> first | exact o | skip
  rcases o with ⟨l, e⟩ | ⟨d, p, e⟩
  · exact .inl ⟨l, x _ _ e⟩
  · exact .inr ⟨d, p, x _ _ e⟩
theorem okV.put {h : AH} {a : Addr} {l : List V} {v : V} (o : okV h v) : okV (h.put a (.list l)) v := by
  cases v <;> first | exact o | skip
  rename_i b
  by_cases e : b = a
  · subst e; exact .inl ⟨l, put_self ..⟩
  · show (∃ l', (h.put a (.list l)) b = some (.list l')) ∨ ∃ d e, (h.put a (.list l)) b = some (.idict d e)
    rw [put_ne _ e]; exact o
def withinB (x : V) (l : Int) : Bool := match x with | .int i => decide (l ≤ i) && decide (i ≤ 10 ^ 60) | _ => false
def moveB : V → Bool
  | .tup [a, b, c, d] => withinB a 1 && withinB b 0 && withinB c 1 && withinB d 0
  | _ => false

theorem c_within (G : X.Good) (D : X.Def "is_within" f_is_within) {k : Nat} {h : AH} {x : V} {l : Int} {Q R} (o : okV h x) (q : Q (.bool (withinB x l)) h) : X.Call (k + 1) "is_within" [x, .int l] h Q R := by
  refine D.call G rfl ?_
  unfold f_is_within
  cases x with
  | int i =>
    unfold withinB at q
    walk_at "st"
    by_cases e : l ≤ i
    · simp only [e, decide_true, Bool.true_and] at q ⊢; walk_at "wp"; exact q
    · simp only [e, decide_false, Bool.false_and] at q ⊢; walk_at "wp"; exact q
  | none => walk_at "st"; exact q
  | bool b => walk_at "st"; exact q
  | str b => walk_at "st"; exact q
  | tup b => walk_at "st"; exact q
  | exc b => exact o.elim
  | ref a =>
    rcases o with ⟨l, e⟩ | ⟨d, p, e⟩
    · walk_at "st"; simp only [e]; walk_at "wp"; exact q
    · walk_at "st"; simp only [e]; walk_at "wp"; exact q

def allOk (h : AH) : V → Prop
  | .tup vs => ∀ v ∈ vs, okV h v
  | v => okV h v
theorem c_move (G : X.Good) (D0 : X.Def "is_within" f_is_within) (D : X.Def "is_move" f_is_move) {k : Nat} {h : AH} {x : V} {Q R} (o : allOk h x) (q : Q (.bool (moveB x)) h) : X.Call (k + 3) "is_move" [x] h Q R := by
  refine D.call G rfl ?_
  unfold f_is_move
  cases x with
  | int i => walk_at "st"; walk_at "st"; exact q
  | none => walk_at "st"; walk_at "st"; exact q
  | bool b => walk_at "st"; walk_at "st"; exact q
  | str b => walk_at "st"; walk_at "st"; exact q
  | exc b => exact o.elim
  | ref a =>
    rcases o with ⟨l, e⟩ | ⟨d, p, e⟩
    · walk_at "st"; simp only [e]; walk_at "wp"; walk_at "st"; exact q
    · walk_at "st"; simp only [e]; walk_at "wp"; walk_at "st"; exact q
  | tup vs =>
    by_cases hl : vs.length = 4
    · obtain ⟨a, b, c, d, rfl⟩ : ∃ a b c d, vs = [a, b, c, d] := by
        match vs, hl with
        | [a, b, c, d], _ => exact ⟨a, b, c, d, rfl⟩
      have oa := o a (by simp)
      have ob := o b (by simp)
      have oc := o c (by simp)
      have od := o d (by simp)
      unfold moveB at q
      walk_at "st"
      rw [if_neg (by decide)]
      walk_at "wp"
      walk_at "st"
      refine ⟨D0.some, _, rfl, c_within G D0 oa ?_⟩
      walk_at "wp"
      cases hA : withinB a 1 with
      | false => simp only [hA, Bool.false_and] at q; walk_at "wp"; walk_at "st"; exact q
      | true =>
        simp only [hA, Bool.true_and] at q
        walk_at "wp"
        refine ⟨D0.some, _, rfl, c_within G D0 ob ?_⟩
        walk_at "wp"
        cases hB : withinB b 0 with
        | false => simp only [hB, Bool.false_and] at q; walk_at "wp"; walk_at "st"; exact q
        | true =>
          simp only [hB, Bool.true_and] at q
          walk_at "wp"
          walk_at "st"
          refine ⟨D0.some, _, rfl, c_within G D0 oc ?_⟩
          walk_at "wp"
          cases hC : withinB c 1 with
          | false => simp only [hC, Bool.false_and] at q; walk_at "wp"; exact q
          | true =>
            simp only [hC, Bool.true_and] at q
            walk_at "wp"
            refine ⟨D0.some, _, rfl, c_within G D0 od ?_⟩
            exact q
    · have hm : moveB (.tup vs) = false := by
        unfold moveB; split
        · rename_i e; cases e; exact absurd rfl hl
        · rfl
      rw [hm] at q
      walk_at "st"
      rw [if_pos (by omega)]
      walk_at "st"
      first | exact q | (rw [if_pos (by omega)]; exact q)

theorem c_part (G : X.Good) (D : X.Def "_law_part" f_law_part) {k : Nat} {h : AH} {c l : Int} {Q R} (hl : 0 ≤ l ∧ l ≤ 1) (q : ∀ x h', okV h' x → (∀ ys, x ≠ .exc ys) → Ext h h' → Q x h') : X.Call (k + 1) "_law_part" [.int c, .int l] h Q R := by
  refine D.call G rfl ?_
  unfold f_law_part
  walk_at "st"
  split
  · walk_at "st"; exact q _ _ trivial nofun .refl
  walk_at "st"
  split
  · walk_at "st"; exact q _ _ trivial nofun .refl
  walk_at "st"
  split
  · walk_at "st"; exact q _ _ trivial nofun .refl
  walk_at "st"
  split
  · walk_at "st"; exact q _ _ trivial nofun .refl
  walk_at "st"
  split
  · walk_at "st"
    refine ⟨by decide, new_go fun a h1 na x1 ha => ?_⟩
    refine fun e2 => new_go fun b h2 nb x2 hb => ?_
    refine ⟨by decide, by decide, new_go fun d h3 nd x3 hd => ?_⟩
    walk_at "wp"
    simp only [getV, hd]
    have : c / 8 % 5 = 0 ∨ c / 8 % 5 = 1 ∨ c / 8 % 5 = 2 ∨ c / 8 % 5 = 3 ∨ c / 8 % 5 = 4 := by omega
    generalize c / 8 % 5 = B at this
    have xx := (x1.trans x2).trans x3
    rcases this with rfl | rfl | rfl | rfl | rfl
    · exact q _ _ trivial nofun xx
    · exact q _ _ trivial nofun xx
    · exact q (.ref a) _ (.inl ⟨_, x3 _ _ (x2 _ _ ha)⟩) nofun xx
    · exact q (.ref b) _ (.inr ⟨_, _, x3 _ _ hb⟩) nofun xx
    · exact q (.tup [.int 1]) _ trivial nofun xx
  walk_at "st"
  split
  · walk_at "st"; exact ⟨by omega, q _ _ trivial nofun .refl⟩
  walk_at "st"
  exact q _ _ trivial nofun .refl

def goodF (vs : List V) : Bool := vs.zipIdx.all fun p => withinB p.1 (1 - (p.2 : Int) % 2)
theorem goodF_append {vs : List V} {v : V} : goodF (vs ++ [v]) = (goodF vs && withinB v (1 - (vs.length : Int) % 2)) := by
  unfold goodF
  rw [List.zipIdx_append, List.all_append]
  simp

theorem c_law (G : X.Good) (D0 : X.Def "is_within" f_is_within) (D1 : X.Def "is_move" f_is_move) (D2 : X.Def "_law_cell_at" fCell) (D3 : X.Def "_law_part" f_law_part) (D4 : X.Def "law" f_law) {h : AH} {L : Addr} {ns : List Int} (hL : h L = some (.flist (ns.map .int))) :
    X.Call 9 "law" [.ref L] h (fun v _ => v = .bool true) (fun _ _ => False) := by
  refine D4.call G rfl ?_
  unfold f_law
  walk_at "st"
  refine ⟨by decide, new_go fun P h1 nP x1 hP => ?_⟩
  walk_at "wp"
  walk_at "st"
  walk_at "st"
  refine ⟨by decide, ?_⟩
  refine loop_range0 (fun i fr h' => Ext h h' ∧ ∃ vs : List V, h' P = some (.list vs) ∧ vs.length = i ∧ (∀ v ∈ vs, okV h' v) ∧ ∃ a b c, fr = [some (.ref L), some (.ref P), some (.bool (goodF vs)), a, b, c, none, none, none]) ?_ ?_ ⟨x1, [], hP, rfl, nofun, _, _, _, rfl⟩
  · rintro i fr h1 K hi ⟨x1, vs, hP, hv, ok, a, b, c, rfl⟩ hK
    have hi : i < 4 := hi
    rw [Int.zero_add]
    walk_at "wp"
    walk_at "st"
    walk_at "st"
    refine ⟨D3.some, D2.some, _, rfl, c_cell G D2 (x1 _ _ hL) (by omega) ?_⟩
    refine ⟨_, rfl, c_part G D3 ⟨by omega, by omega⟩ fun x h2 ox _ x2 => ?_⟩
    walk_at "wp"
    have key : ∀ x, okV h2 x → wpSs X ⟨8, true⟩ ((match f_law.body with | [_, _, .forr _ _ b, _, _, _, _, _] => b | _ => []).drop 3) K (fun C x h' => False) [some (.ref L), some (.ref P), some (.bool (goodF vs)), some (.int i), some (.int (1 - (i : Int) % 2)), some x, none, none, none] h2 := by
      intro x ox
      have fin : ∀ h3, h3 = h2.put P (.list (vs ++ [x])) → K .next [some (.ref L), some (.ref P), some (.bool (goodF (vs ++ [x]))), some (.int i), some (.int (1 - (i : Int) % 2)), some x, none, none, none] h3 := by
        rintro _ rfl
        refine hK _ _ ⟨(x1.trans x2).upd nP, vs ++ [x], put_self .., by simp [hv], fun v hm => ?_, _, _, _, rfl⟩
        rcases List.mem_append.mp hm with hm | hm
        · exact ((ok v hm).ext x2).put
        · rw [List.mem_singleton.mp hm]; exact ox.put
      rw [goodF_append, hv] at fin
      simp only [f_law, List.drop_succ_cons, List.drop_zero]
      have app : ∀ g, K .next [some (.ref L), some (.ref P), some (.bool g), some (.int i), some (.int (1 - (i : Int) % 2)), some x, none, none, none] (h2.put P (.list (vs ++ [x]))) →
          wpSs X ⟨8, true⟩ [.expr (.bm .append (.var 1) [(.var 5)])] K (fun C x h' => False) [some (.ref L), some (.ref P), some (.bool g), some (.int i), some (.int (1 - (i : Int) % 2)), some x, none, none, none] h2 := by
        intro g hg
        walk_at "st"
        simp only [bmKind, bmP, x2 _ _ hP]
        exact ⟨trivial, by unfold small; omega, hg⟩
      have bad : withinB x (1 - (i : Int) % 2) = false → K .next [some (.ref L), some (.ref P), some (.bool false), some (.int i), some (.int (1 - (i : Int) % 2)), some x, none, none, none] (h2.put P (.list (vs ++ [x]))) := fun e => by have := fin _ rfl; rwa [e, Bool.and_false] at this
      have good : withinB x (1 - (i : Int) % 2) = true → K .next [some (.ref L), some (.ref P), some (.bool (goodF vs)), some (.int i), some (.int (1 - (i : Int) % 2)), some x, none, none, none] (h2.put P (.list (vs ++ [x]))) := fun e => by have := fin _ rfl; rwa [e, Bool.and_true] at this
      clear fin
      cases x with
      | int j =>
        walk_at "st"
        split
        · rename_i e; walk_at "st"; exact app _ (bad (by unfold withinB; simp; omega))
        · split
          · rename_i e; walk_at "st"; exact app _ (bad (by unfold withinB; simp; omega))
          · rename_i e1 e2; walk_at "wp"; exact app _ (good (by unfold withinB; simp; omega))
      | none => walk_at "st"; walk_at "st"; exact app _ (bad rfl)
      | bool b => walk_at "st"; walk_at "st"; exact app _ (bad rfl)
      | str b => walk_at "st"; walk_at "st"; exact app _ (bad rfl)
      | tup b => walk_at "st"; walk_at "st"; exact app _ (bad rfl)
      | exc b => exact ox.elim
      | ref a =>
        rcases ox with ⟨l, e⟩ | ⟨d, p, e⟩
        · walk_at "st"; simp only [e]; walk_at "wp"; walk_at "st"; exact app _ (bad rfl)
        · walk_at "st"; simp only [e]; walk_at "wp"; walk_at "st"; exact app _ (bad rfl)
    walk_at "st"
    refine ⟨D2.some, _, rfl, c_cell G D2 (x2 _ _ (x1 _ _ hL)) (by omega) ?_⟩
    walk_at "wp"
    refine ⟨⟨by omega, by omega⟩, ?_⟩
    split
    · walk_at "st"
      refine ⟨D2.some, _, rfl, c_cell G D2 (x2 _ _ (x1 _ _ hL)) (by omega) ?_⟩
      walk_at "wp"
      exact key _ trivial
    · walk_at "wp"
      exact key _ ox
  · rintro fr h1 ⟨x1, vs, hP, hv, ok, a, b, c, rfl⟩
    have hv : vs.length = 4 := hv
    obtain ⟨v0, v1, v2, v3, rfl⟩ : ∃ a b c d, vs = [a, b, c, d] := by
      match vs, hv with
      | [a, b, c, d], _ => exact ⟨a, b, c, d, rfl⟩
    have eg : goodF [v0, v1, v2, v3] = moveB (.tup [v0, v1, v2, v3]) := by
      unfold goodF moveB
      simp [List.zipIdx, Bool.and_assoc]
    walk_at "wp"
    walk_at "st"
    simp only [hP]
    walk_at "wp"
    walk_at "st"
    refine ⟨D2.some, _, rfl, c_cell G D2 (x1 _ _ hL) (by omega) ?_⟩
    generalize cellAt ns _ = c0
    walk_at "wp"
    have key : ∀ x h2, allOk h2 x → ∀ g, g = moveB x → wpSs X ⟨8, true⟩ (f_law.body.drop 6) (fun out x h' => match out with | .next => V.none = V.bool true | .ret v => v = V.bool true) (fun C x h' => False)
        [some (.ref L), some (.ref P), some (.bool g), a, b, c, some x, some (.int (c0 % 24)), none] h2 := by
      intro x h2 ox g hg
      simp only [f_law, List.drop_succ_cons, List.drop_zero]
      walk_at "st"
      refine ⟨D1.some, _, rfl, c_move G D0 D1 ox ?_⟩
      walk_at "wp"
      walk_at "st"
      simp [hg]
    walk_at "st"
    split
    · walk_at "st"
      simp only [sliceP, pySlice, loV, hiV, clampI]
      refine ⟨by decide, by decide, fun e2 => new_go fun d h2 nd x2 hd => ?_⟩
      refine ⟨by decide, by decide, new_go fun l h3 nl x3 hl => ?_⟩
      walk_at "wp"
      simp only [getV, hl]
      have : c0 % 24 = 0 ∨ c0 % 24 = 1 ∨ c0 % 24 = 2 ∨ c0 % 24 = 3 ∨ c0 % 24 = 4 ∨ c0 % 24 = 5 ∨ c0 % 24 = 6 ∨ c0 % 24 = 7 := by omega
      have ok' : ∀ v ∈ [v0, v1, v2, v3], okV h3 v := fun v hv => (ok v hv).ext (x2.trans x3)
      have okP : allOk h3 (.ref P) := .inl ⟨_, x3 _ _ (x2 _ _ hP)⟩
      have okD : allOk h3 (.ref d) := .inr ⟨_, _, x3 _ _ hd⟩
      have ok3 : allOk h3 (.tup [v0, v1, v2]) := fun v hv => ok' v (by simp at hv ⊢; rcases hv with h | h | h <;> simp [h])
      have ok5 : allOk h3 (.tup [v0, v1, v2, v3, .int 1]) := fun v hv => by
        simp at hv
        rcases hv with h | h | h | h | h
        · exact ok' v (by simp [h])
        · exact ok' v (by simp [h])
        · exact ok' v (by simp [h])
        · exact ok' v (by simp [h])
        · rw [h]; trivial
      have okE : allOk h3 (.tup []) := fun v hv => by cases hv
      clear hl hd ok ok' hP
      generalize c0 % 24 = B at this key ⊢
      rcases this with rfl | rfl | rfl | rfl | rfl | rfl | rfl | rfl
      · walk_at "wp"; walk_at "st"; exact key _ _ okP _ rfl
      · walk_at "wp"; walk_at "st"; exact key _ _ ok3 _ rfl
      · walk_at "wp"; walk_at "st"; exact key _ _ ok5 _ rfl
      · walk_at "wp"; walk_at "st"; exact key _ h3 (by exact trivial) _ rfl
      · walk_at "wp"; walk_at "st"; exact key _ h3 (by exact trivial) _ rfl
      · walk_at "wp"; walk_at "st"; exact key _ h3 (by exact trivial) _ rfl
      · walk_at "wp"; walk_at "st"; exact key _ _ okD _ rfl
      · walk_at "wp"; walk_at "st"; exact key _ _ okE _ rfl
    · walk_at "wp"
      exact key (.tup [v0, v1, v2, v3]) h1 ok _ eg
end
end Mine.L05

open PySem PySem.W PyProof.Rows
set_option maxRecDepth 100000
set_option maxHeartbeats 8000000
set_option pp.maxSteps 20000
namespace Mine.L05
theorem holds : PySem.Challenge.rw_uf050008_05.Holds := hd05 (by
  k_fill
  intro w s₀ s₁ mg mb G Y fa o pm cd doc dV kV ho hd hcd hD hmg hg args vals as hpre hlay hrd hwl hlo
  have KX := kIn_of Y
  clear hd hcd hD
  wrow_args hpre hlay hrd hwl hlo
  rename_i ns _ _ _ _ _ _ _ L items _ hl _ _ _ hI _ hlen _
  let X : Mine.Ctx := ⟨Challenge.rw_uf050008_05.row.prog, w, s₁.heap, mg, mb, fun n => fas.lookup n, fun _ => none, fun _ => none, fun _ _ => none, fun _ _ => false, fun _ _ => false⟩
  have Gd : X.Good := good_of (K := hd05.heap_39 w.params) (fs := fas) KX G.T.g G.T.b G.T.nolimit G.T.builtins (top_sysm G.T) (fun _ => rfl) (ckg _) (ckf _) (fun n v e => by cases e)
  have hfa : mg "law" = some (.ref 49) := refIn_spec KX G.T.g (by kernel_rfl)
  have hmg' : mg "law" = some (.ref fa) := hmg
  rw [hfa] at hmg'; cases hmg'
  have call := c_law Gd (def_of Gd KX rfl (ck_is_within _)) (def_of Gd KX rfl (ck_is_move _)) (def_of Gd KX rfl (ck_law_cell_at _)) (def_of Gd KX rfl (ck_law_part _)) (def_of Gd KX rfl (ck_law _)) (startAH_self (L := L) (ns := ns))
  refine law_end (X := X) (k := 9) (fa := 49) rfl hg hl (ints_rep hI) (by unfold big; omega) (by omega) rfl call ?_ ?_
  · clear call Gd X
    exact fun _ => rfl
  · clear call Gd X
    exact postW_of (r := PySem.Challenge.rw_uf050008_05.row.toRowW) (X := true) (by kernel_rfl) (by kernel_rfl) rfl)
end Mine.L05

open PySem PySem.W PyProof.Rows
theorem PySem.Challenge.cw_uf050008_05_holds : PySem.Challenge.rw_uf050008_05.Holds :=
  Mine.L05.holds
