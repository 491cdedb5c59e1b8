import PyProof.Rows.All
import PyProof.Rows.SortShell
import PyProof.ListOps
import PyProof.Cells
import PyProof.DictRoads
import PyProof.DictIter
import PyProof.DictKinds
import PyProof.SliceList
import PyProof.Rows.Frame
import PyProof.NsCount
import PyProof.DictWalks
import PyProof.StrCalls2
import PyProof.StrBlock2
import PyProof.StrBlockH
import PyProof.Rows.StrRules
import KE.KIntText
import PyProof.NeKinds
import KE.KEqDict
import PyProof.ListCopy
import KE.KDictList
import OpenK.KWalk
import PyProof.ExcClass2
import PyProof.ExcBaseAll.ValueError
import PyProof.Rows.CatchBare
import PyProof.RulesAs
import KE.KDictOf
import PyProof.CallStr
import PyProof.ConsumeWalk
import PyProof.Rows.SortWalk
import KE.KDictSum
import PyProof.TupleCall
import PyProof.TupleOfSeq
import KE.KListMore
import KE.KDictLaws
import PyProof.Rows.SeqMore2
import KE.KRevIter
import PyProof.StrWalks
import PyProof.Rows.TupMore
import PyProof.SliceSyntax
import PyProof.RulesAssignMore
import PyProof.RulesMatch
import PyProof.TupleIter
import PyProof.IsInstance
import OpenK.AllK
import Wide.FinOn
import Wide.All
import PySem.Challenge.RW_uf050008_04
set_option Elab.async false
set_option linter.unusedVariables false
set_option linter.unusedSimpArgs false
set_option maxRecDepth 100000
set_option maxHeartbeats 8000000

namespace Mine.So
open PySem PyProof.Rows

/-! The merges of the model's sort, for keys that are ints: the model's own functions. -/
noncomputable abbrev setMG (st : SortSt) (g : Nat) : SortSt := SortSt.mk' (kindOf st) (arrOf st) (pendingOf st) g (failedOf st)
noncomputable def doneLo (a b out : Array Keyed) (ia ib : Nat) : Array Keyed := out ++ a.extract ia a.size ++ b.extract ib b.size
noncomputable def lastLo (a b out : Array Keyed) (ia ib : Nat) : Array Keyed := out ++ b.extract ib b.size ++ a.extract ia a.size
noncomputable def doneHi (a b out : Array Keyed) (na nb : Nat) : Array Keyed := a.extract 0 na ++ b.extract 0 nb ++ out.reverse
noncomputable def firstHi (a b out : Array Keyed) (na nb : Nat) : Array Keyed := b.extract 0 nb ++ a.extract 0 na ++ out.reverse
/-- a test that a gallop asks -/
noncomputable def bey (left : Bool) (key : Keyed) (arr : Array Keyed) (base i : Nat) : StateT SortSt Sem (Option Bool) :=
  elem' arr (base + i) >>= fun x => if left then lt' x key else lt' key x >>= fun r => pure (r.map (!·))
noncomputable def gallop' : Bool → Keyed → Array Keyed → Nat → Nat → Nat → StateT SortSt Sem (Option Nat) := sortPriv% PySem.Builtin.gallop
noncomputable def setMinGallop' : Nat → StateT SortSt Sem Unit := sortPriv% PySem.Builtin.setMinGallop
noncomputable def mergeLo' : Array Keyed → Array Keyed → StateT SortSt Sem (Array Keyed) := sortPriv% PySem.Builtin.mergeLo
noncomputable def mergeHi' : Array Keyed → Array Keyed → StateT SortSt Sem (Array Keyed) := sortPriv% PySem.Builtin.mergeHi
theorem wpS_smg {M : Model} {A : Around} {E : Value → Shared → Prop} {s : Shared} {st : SortSt} {g : Nat} {Q : Unit → SortSt → Prop} (h : Q () (setMG st g)) : wpS M A E s (setMinGallop' g) Q st := wpS_modify h

theorem wpS_lt {prog : Program} {w : World} {A : Around} {E : Value → Shared → Prop} {s : Shared} {st : SortSt} {x y : Keyed} {Q : Option Bool → SortSt → Prop} (hk : kindOf st = oneType') (hx : ∃ n t, x.1 = Value.int n t) (hy : ∃ n t, y.1 = Value.int n t)
    (h : Q (some (decide (numOf x.1 < numOf y.1))) st) : wpS (model prog w) A E s (lt' x y) Q st := by
  obtain ⟨x1, x2⟩ := x; obtain ⟨y1, y2⟩ := y
  obtain ⟨a, t, rfl⟩ : ∃ a t, x1 = Value.int a t := hx
  obtain ⟨b, u, rfl⟩ : ∃ a t, y1 = Value.int a t := hy
  rw [lt'_eq]
  refine wpS_bind (wpS_get ?_)
  rw [hk, keyLt'_oneType]
  refine wpS_bind (wpS_lift (wpAny_attempt (oneLt_int ⟨rfl, ?_⟩)))
  exact wpS_pure h
end Mine.So

namespace Mine.So
open PySem PyProof.Rows

noncomputable def kk (p : Keyed) : Int := numOf p.1
noncomputable def KI (p : Keyed) : Prop := ∃ n t, p.1 = Value.int n t
noncomputable def kle (x y : Keyed) : Prop := kk x ≤ kk y

section
variable {prog : Program} {w : World} {A : Around} {E : Value → Shared → Prop} {s : Shared}

theorem wpS_elem {st : SortSt} {a : Array Keyed} {i : Nat} {Q : Keyed → SortSt → Prop} (hi : i < a.size) (h : Q a[i] st) : wpS (model prog w) A E s (elem' a i) Q st := by
  rw [elem'_eq, getElem?_pos a i hi]
  exact wpS_pure h

/-- a test that holds below a place and not from there on -/
structure Cut (B : Nat → Bool) (n k : Nat) : Prop where
  le : k ≤ n
  lo : ∀ i, i < k → B i = true
  hi : ∀ i, k ≤ i → i < n → B i = false

inductive G1 (B : Nat → Bool) (hint n x : Nat) (st : SortSt) (c : Option (Option Nat) × Nat × Nat) (st' : SortSt) : Prop
  | mk (l o : Nat) (es : st' = st) (e : c = (none, l, o)) (h1 : x + 1 ≤ o) (h2 : l < o) (h3 : B (hint + l) = true) (h4 : hint + l < n)
inductive G2 (B : Nat → Bool) (hint n : Nat) (st : SortSt) (c : Option (Option Nat) × Nat × Nat) (st' : SortSt) : Prop
  | mk (l o : Nat) (es : st' = st) (e : c = (none, l, o)) (h2 : l < o) (h3 : B (hint + l) = true) (h4 : hint + l < n) (h5 : n - hint ≤ o ∨ (hint + o < n ∧ B (hint + o) = false))
inductive G3 (B : Nat → Bool) (hint x : Nat) (st : SortSt) (c : Option (Option Nat) × Nat × Nat) (st' : SortSt) : Prop
  | mk (l o : Nat) (es : st' = st) (e : c = (none, l, o)) (h1 : x + 1 ≤ o) (h2 : l < o) (h3 : l ≤ hint) (h4 : B (hint - l) = false)
inductive G4 (B : Nat → Bool) (hint : Nat) (st : SortSt) (c : Option (Option Nat) × Nat × Nat) (st' : SortSt) : Prop
  | mk (l o : Nat) (es : st' = st) (e : c = (none, l, o)) (h2 : l < o) (h3 : l ≤ hint) (h4 : B (hint - l) = false) (h5 : hint + 1 ≤ o ∨ (o ≤ hint ∧ B (hint - o) = true))
structure Btw (B : Nat → Bool) (n lo hi : Nat) : Prop where
  le : lo ≤ hi
  top : hi ≤ n
  lo_ : ∀ i, i < lo → B i = true
  hi_ : ∀ i, hi ≤ i → i < n → B i = false
inductive G5 (B : Nat → Bool) (n x : Nat) (st : SortSt) (c : Option (Option Nat) × Nat × Nat) (st' : SortSt) : Prop
  | mk (lo hi : Nat) (es : st' = st) (e : c = (none, lo, hi)) (b : Btw B n lo hi) (m : hi + x ≤ n + lo)
inductive G6 (B : Nat → Bool) (n : Nat) (st : SortSt) (c : Option (Option Nat) × Nat × Nat) (st' : SortSt) : Prop
  | mk (lo hi : Nat) (es : st' = st) (e : c = (none, lo, hi)) (b : Cut B n hi)
theorem Btw.cut {B : Nat → Bool} {n lo hi : Nat} (b : Btw B n lo hi) (h : hi ≤ lo) : Cut B n hi := ⟨b.top, fun i z => b.lo_ i (Nat.lt_of_lt_of_le z h), b.hi_⟩
section
variable {M : Model} {σ α : Type} {st : σ} {Q : α → σ → Prop}
theorem wpS_if {c : Prop} {dc : Decidable c} {x y : StateT σ Sem α} (h1 : c → wpS M A E s x Q st) (h2 : ¬ c → wpS M A E s y Q st) : wpS M A E s (if c then x else y) Q st := by
  split
  · rename_i h; exact h1 h
  · rename_i h; exact h2 h
end
theorem wpS_gallop {st : SortSt} {left : Bool} {key : Keyed} {arr : Array Keyed} {base n hint : Nat} {Q : Option Nat → SortSt → Prop} (B : Nat → Bool)
    (hb : ∀ i, i < n → ∀ Q : Option Bool → SortSt → Prop, Q (some (B i)) st → wpS (model prog w) A E s (bey left key arr base i) Q st)
    (hm : ∀ i j, i ≤ j → j < n → B j = true → B i = true) (hh : hint < n)
    (h : ∀ k, Cut B n k → Q (some k) st) :
    wpS (model prog w) A E s (gallop' left key arr base n hint) Q st := by
  have hm' : ∀ i j, i ≤ j → j < n → B i = false → B j = false := by
    intro i j a b c
    cases e : B j with
    | false => rfl
    | true => rw [hm i j a b e] at c; cases c
  refine wpS_bind (hb hint hh _ ?_)
  dsimp -zeta only
  extract_lets jp
  have H : ∀ l o lo hi, Btw B n lo hi → wpS (model prog w) A E s (jp () l o lo hi) Q st := by
    intro l o lo hi b
    refine wpS_bind (wpS_mono (wpS_forRange (I := fun x c st'' => G5 B n x st c st'') (Q := fun c st'' => G6 B n st c st'') ?_ ?_ ⟨lo, hi, rfl, rfl, b, Nat.le_trans b.top (Nat.le_add_right _ _)⟩) ?_)
    · rintro x c st'' _ hx ⟨lo, hi, rfl, rfl, b, g3⟩
      refine wpS_if (fun g => wpS_pure ⟨lo, hi, rfl, rfl, b.cut g⟩) fun g => ?_
      have g : ¬ lo ≥ hi := g
      have mid : lo + (hi - lo) / 2 < hi := by omega
      refine wpS_bind (hb _ (Nat.lt_of_lt_of_le mid b.top) _ ?_)
      cases e : B (lo + (hi - lo) / 2) with
      | true => exact wpS_pure ⟨lo + (hi - lo) / 2 + 1, hi, rfl, rfl, ⟨mid, b.top, fun i hi' => hm i _ (Nat.le_of_lt_succ hi') (Nat.lt_of_lt_of_le mid b.top) e, b.hi_⟩, by omega⟩
      | false => exact wpS_pure ⟨lo, lo + (hi - lo) / 2, rfl, rfl, ⟨Nat.le_add_right _ _, Nat.le_trans (Nat.le_of_lt mid) b.top, b.lo_, fun i h6 h7 => hm' _ i h6 h7 e⟩, by omega⟩
    · rintro c st'' ⟨lo, hi, rfl, rfl, b, g3⟩
      rw [Nat.zero_max] at g3
      exact ⟨lo, hi, rfl, rfl, b.cut (by omega)⟩
    · rintro c st'' ⟨lo, hi, rfl, rfl, g⟩
      exact wpS_pure (h hi g)
  refine wpS_if (fun hr => ?_) fun hr => ?_
  · refine wpS_bind (wpS_mono (wpS_forRange (I := fun x c st' => G1 B hint n x st c st') (Q := fun c st' => G2 B hint n st c st') ?_ ?_ ⟨0, 1, rfl, rfl, Nat.le_refl _, Nat.one_pos, hr, hh⟩) ?_)
    · rintro x c st' _ hx ⟨l, o, rfl, rfl, h1, h2, h3, h4⟩
      refine wpS_if (fun g => wpS_pure ⟨l, o, rfl, rfl, h2, h3, h4, .inl g⟩) fun g => ?_
      have g : hint + o < n := by have g : ¬ o ≥ n - hint := g; omega
      refine wpS_bind (hb _ g _ ?_)
      cases e : B (hint + o) with
      | true => exact wpS_pure ⟨o, 2 * o + 1, rfl, rfl, by omega, by omega, e, g⟩
      | false => exact wpS_pure ⟨l, o, rfl, rfl, h2, h3, h4, .inr ⟨g, e⟩⟩
    · rintro c st' ⟨l, o, rfl, rfl, h1, h2, h3, h4⟩
      exact ⟨l, o, rfl, rfl, h2, h3, h4, .inl (by omega)⟩
    rintro c st' ⟨l, o, rfl, rfl, h2, h3, h4, h5⟩
    refine H l o (hint + l + 1) (hint + min o (n - hint)) ⟨by omega, by omega, fun i hi => hm i _ (Nat.le_of_lt_succ hi) h4 h3, fun i h6 h7 => ?_⟩
    rcases h5 with h5 | ⟨h5, h8⟩
    · omega
    · exact hm' _ i (by omega) h7 h8
  · have hr : B hint = false := by simpa using hr
    refine wpS_bind (wpS_mono (wpS_forRange (I := fun x c st' => G3 B hint x st c st') (Q := fun c st' => G4 B hint st c st') ?_ ?_ ⟨0, 1, rfl, rfl, Nat.le_refl _, Nat.one_pos, Nat.zero_le _, hr⟩) ?_)
    · rintro x c st' _ hx ⟨l, o, rfl, rfl, h1, h2, h3, h4⟩
      refine wpS_if (fun g => wpS_pure ⟨l, o, rfl, rfl, h2, h3, h4, .inl g⟩) fun g => ?_
      have g : o ≤ hint := by have g : ¬ o ≥ hint + 1 := g; omega
      refine wpS_bind (hb (hint - o) (Nat.lt_of_le_of_lt (Nat.sub_le _ _) hh) _ ?_)
      cases e : B (hint - o) with
      | false => exact wpS_pure ⟨o, 2 * o + 1, rfl, rfl, by omega, by omega, g, e⟩
      | true => exact wpS_pure ⟨l, o, rfl, rfl, h2, h3, h4, .inr ⟨g, e⟩⟩
    · rintro c st' ⟨l, o, rfl, rfl, h1, h2, h3, h4⟩
      exact ⟨l, o, rfl, rfl, h2, h3, h4, .inl (by omega)⟩
    rintro c st' ⟨l, o, rfl, rfl, h2, h3, h4, h5⟩
    refine H l o (hint + 1 - min o (hint + 1)) (hint - l) ⟨by omega, by omega, fun i hi => ?_, fun i h6 h7 => hm' _ i h6 h7 h4⟩
    rcases h5 with h5 | ⟨h5, h8⟩
    · omega
    · exact hm i _ (by omega) (by omega) h8
end
end Mine.So

namespace Mine.So
open PySem PyProof.Rows

structure MG (r : Keyed → Keyed → Prop) (tot out la lb : List Keyed) : Prop where
  perm : (out ++ la ++ lb).Perm tot
  so : out.Pairwise r
  sa : la.Pairwise r
  sb : lb.Pairwise r
  ca : ∀ x ∈ out, ∀ y ∈ la, r x y
  cb : ∀ x ∈ out, ∀ y ∈ lb, r x y

theorem MG.as {r} {tot out xs la lb : List Keyed} (h : MG r tot out (xs ++ la) lb) (hx : ∀ x ∈ xs, ∀ y ∈ lb, r x y) : MG r tot (out ++ xs) la lb := by
  obtain ⟨p, so, sa, sb, ca, cb⟩ := h
  obtain ⟨s1, s2, s3⟩ := List.pairwise_append.mp sa
  refine ⟨by simpa [List.append_assoc] using p, List.pairwise_append.mpr ⟨so, s1, fun x hx y hy => ca x hx y (by simp [hy])⟩, s2, sb, ?_, ?_⟩
  · intro x hx' y hy
    rcases List.mem_append.mp hx' with h | h
    · exact ca x h y (by simp [hy])
    · exact s3 x h y hy
  · intro x hx' y hy
    rcases List.mem_append.mp hx' with h | h
    · exact cb x h y hy
    · exact hx x h y hy

theorem MG.swap {r} {tot out la lb : List Keyed} (h : MG r tot out la lb) : MG r tot out lb la := by
  obtain ⟨p, so, sa, sb, ca, cb⟩ := h
  refine ⟨?_, so, sb, sa, cb, ca⟩
  refine List.Perm.trans ?_ p
  rw [List.append_assoc, List.append_assoc]
  exact List.Perm.append_left _ List.perm_append_comm

theorem MG.bs {r} {tot out ys la lb : List Keyed} (h : MG r tot out la (ys ++ lb)) (hy : ∀ y ∈ ys, ∀ x ∈ la, r y x) : MG r tot (out ++ ys) la lb :=
  (h.swap.as hy).swap

theorem MG.fin {r} {tot out la : List Keyed} (h : MG r tot out la []) : (out ++ la).Perm tot ∧ (out ++ la).Pairwise r :=
  ⟨by simpa using h.perm, List.pairwise_append.mpr ⟨h.so, h.sa, h.ca⟩⟩

noncomputable def ky (a : Array Keyed) (i : Nat) : Int := match a[i]? with
  | some p => kk p
  | none => 0
theorem ky_eq {a : Array Keyed} {i : Nat} (h : i < a.size) : ky a i = kk a[i] := by unfold ky; rw [getElem?_pos a i h]
noncomputable def SrA (a : Array Keyed) : Prop := ∀ i j, i ≤ j → j < a.size → ky a i ≤ ky a j
noncomputable def AI (a : Array Keyed) : Prop := ∀ i (h : i < a.size), KI a[i]

theorem mem_drop {a : Array Keyed} {i : Nat} {x : Keyed} (h : x ∈ a.toList.drop i) : ∃ j, i ≤ j ∧ j < a.size ∧ kk x = ky a j := by
  obtain ⟨j, hj, rfl⟩ := List.mem_drop_iff_getElem.mp h
  have hj' : j + i < a.size := by simpa using hj
  exact ⟨j + i, by omega, hj', by rw [ky_eq hj']; simp [Nat.add_comm]⟩
theorem mem_ext {a : Array Keyed} {i k : Nat} {x : Keyed} (h : x ∈ (a.extract i (i + k)).toList) : ∃ j, i ≤ j ∧ j < i + k ∧ j < a.size ∧ kk x = ky a j := by
  rw [Array.mem_toList_iff, Array.mem_iff_getElem] at h
  obtain ⟨j, hj, rfl⟩ := h
  have hs : j < min (i + k) a.size - i := by simpa using hj
  refine ⟨i + j, by omega, by omega, by omega, ?_⟩
  rw [ky_eq (by omega), Array.getElem_extract]
theorem drop_cons {a : Array Keyed} {i : Nat} (h : i < a.size) : a.toList.drop i = [a[i]] ++ a.toList.drop (i + 1) := by
  rw [List.drop_eq_getElem_cons (by simpa using h)]; rfl
theorem drop_ext {a : Array Keyed} {i k : Nat} : a.toList.drop i = (a.extract i (i + k)).toList ++ a.toList.drop (i + k) := by
  rw [Array.toList_extract, List.extract_eq_take_drop, Nat.add_sub_cancel_left, ← List.drop_drop, List.take_append_drop]
theorem ext_all {a : Array Keyed} {i : Nat} : (a.extract i a.size).toList = a.toList.drop i := by
  rw [Array.toList_extract, List.extract_eq_take_drop]
  exact List.take_of_length_le (by simp)
theorem SrA.pw {a : Array Keyed} (h : SrA a) : a.toList.Pairwise kle := by
  rw [List.pairwise_iff_getElem]
  intro i j hi hj hij
  have := h i j (by omega) (by simpa using hj)
  rw [ky_eq (by simpa using hi), ky_eq (by simpa using hj)] at this
  exact this

/-! from below -/
noncomputable def GL (a b out : Array Keyed) (ia ib : Nat) : Prop := MG kle (a.toList ++ b.toList) out.toList (a.toList.drop ia) (b.toList.drop ib)
noncomputable def FL (a b out : Array Keyed) : Prop := out.toList.Perm (a.toList ++ b.toList) ∧ out.toList.Pairwise kle
section
variable {a b out : Array Keyed} {ia ib k : Nat}
theorem GL.pb (g : GL a b out ia ib) (sa : SrA a) (hb : ib < b.size) (h : ia < a.size → ky b ib ≤ ky a ia) : GL a b (out.push b[ib]) ia (ib + 1) := by
  unfold GL at g ⊢
  rw [drop_cons hb] at g
  rw [Array.toList_push]
  refine g.bs fun y hy x hx => ?_
  have : y = b[ib] := by simpa using hy
  subst this
  obtain ⟨j, h1, h2, h3⟩ := mem_drop hx
  have := sa ia j h1 h2
  have := h (by omega)
  rw [ky_eq hb] at this
  unfold kle; omega
theorem GL.pa (g : GL a b out ia ib) (sb : SrA b) (ha : ia < a.size) (h : ib < b.size → ky a ia ≤ ky b ib) : GL a b (out.push a[ia]) (ia + 1) ib := by
  unfold GL at g ⊢
  rw [drop_cons ha] at g
  rw [Array.toList_push]
  refine g.as fun y hy x hx => ?_
  have : y = a[ia] := by simpa using hy
  subst this
  obtain ⟨j, h1, h2, h3⟩ := mem_drop hx
  have := sb ib j h1 h2
  have := h (by omega)
  rw [ky_eq ha] at this
  unfold kle; omega
theorem GL.ea (g : GL a b out ia ib) (sb : SrA b) (h : ∀ i, i < k → ky a (ia + i) ≤ ky b ib) : GL a b (out ++ a.extract ia (ia + k)) (ia + k) ib := by
  unfold GL at g ⊢
  rw [drop_ext (k := k)] at g
  rw [Array.toList_append]
  refine g.as fun y hy x hx => ?_
  obtain ⟨j, h1, h2, h3⟩ := mem_drop hx
  obtain ⟨j', h1', h2', h3', h4'⟩ := mem_ext hy
  have e1 := sb ib j h1 h2
  have e2 := h (j' - ia) (by omega)
  rw [Nat.add_sub_cancel' h1'] at e2
  unfold kle; omega
theorem GL.eb (g : GL a b out ia ib) (sa : SrA a) (h : ∀ i, i < k → ky b (ib + i) ≤ ky a ia) : GL a b (out ++ b.extract ib (ib + k)) ia (ib + k) := by
  unfold GL at g ⊢
  rw [drop_ext (a := b) (k := k)] at g
  rw [Array.toList_append]
  refine g.bs fun y hy x hx => ?_
  obtain ⟨j, h1, h2, h3⟩ := mem_drop hx
  obtain ⟨j', h1', h2', h3', h4'⟩ := mem_ext hy
  have e1 := sa ia j h1 h2
  have e2 := h (j' - ib) (by omega)
  rw [Nat.add_sub_cancel' h1'] at e2
  unfold kle; omega
theorem GL.done (g : GL a b out ia ib) (h : a.size ≤ ia ∨ b.size ≤ ib) : FL a b (doneLo a b out ia ib) := by
  unfold GL at g
  unfold FL doneLo
  rw [Array.toList_append, Array.toList_append, ext_all, ext_all]
  rcases h with h | h
  · rw [List.drop_of_length_le (l := a.toList) (by simpa using h)] at g ⊢
    rw [List.append_nil]
    exact g.swap.fin
  · rw [List.drop_of_length_le (l := b.toList) (by simpa using h)] at g ⊢
    rw [List.append_nil]
    exact g.fin
theorem GL.last (g : GL a b out ia ib) (h : ia + 1 = a.size) (hl : ∀ j, j < b.size → ky b j ≤ ky a (a.size - 1)) : FL a b (lastLo a b out ia ib) := by
  unfold GL at g
  unfold FL lastLo
  rw [Array.toList_append, Array.toList_append, ext_all, ext_all]
  have g2 : MG kle (a.toList ++ b.toList) out.toList (a.toList.drop ia) (b.toList.drop ib ++ []) := by rw [List.append_nil]; exact g
  refine (g2.bs fun y hy x hx => ?_).fin
  obtain ⟨j, h1, h2, h3⟩ := mem_drop hy
  obtain ⟨j', h1', h2', h3'⟩ := mem_drop hx
  have := hl j h2
  have e : j' = a.size - 1 := by omega
  subst e
  unfold kle; omega
end

/-- what a merge leaves as it was -/
structure Sm (st st' : SortSt) : Prop where
  kind : kindOf st' = kindOf st
  arr : arrOf st' = arrOf st
  pend : pendingOf st' = pendingOf st
  fail : failedOf st' = failedOf st
theorem Sm.refl {st : SortSt} : Sm st st := ⟨rfl, rfl, rfl, rfl⟩
theorem Sm.mg {st st' : SortSt} {g : Nat} (h : Sm st st') : Sm st (setMG st' g) := ⟨h.kind, h.arr, h.pend, h.fail⟩

structure LI (a b : Array Keyed) (st st' : SortSt) (out : Array Keyed) (i j : Nat) : Prop where
  sm : Sm st st'
  g : GL a b out i j
  la : i + 1 < a.size
  lb : j < b.size

inductive QO {ρ : Type} (a b : Array Keyed) (st : SortSt) (c : Option (Array Keyed) × ρ) (st' : SortSt) : Prop
  | mk (f : Array Keyed) (r : ρ) (e : c = (some f, r)) (sm : Sm st st') (ff : FL a b f)
inductive IO (a b : Array Keyed) (st : SortSt) (n : Nat) (c : Option (Array Keyed) × Array Keyed × Nat × Nat × Nat) (st' : SortSt) : Prop
  | mk (out : Array Keyed) (i j mg : Nat) (e : c = (none, out, i, j, mg)) (L : LI a b st st' out i j) (h : n ≤ i + j)
inductive I1 (a b : Array Keyed) (st : SortSt) (n : Nat) (c : Option (Array Keyed) × Array Keyed × Nat × Nat × Nat × Nat) (st' : SortSt) : Prop
  | mk (out : Array Keyed) (i j ac bc : Nat) (e : c = (none, out, i, j, ac, bc)) (L : LI a b st st' out i j) (h : n ≤ i + j)
inductive I2 (a b : Array Keyed) (st : SortSt) (n : Nat) (c : Option (Array Keyed) × Array Keyed × Nat × Nat × Nat × Nat × Nat) (st' : SortSt) : Prop
  | mk (out : Array Keyed) (i j mg ac bc : Nat) (e : c = (none, out, i, j, mg, ac, bc)) (L : LI a b st st' out i j) (h : n ≤ i + j)

section
variable {prog : Program} {w : World} {A : Around} {E : Value → Shared → Prop} {s : Shared}

theorem wpS_galT {st : SortSt} {key : Keyed} {arr : Array Keyed} {base n hint : Nat} {Q : Option Nat → SortSt → Prop} (hk : kindOf st = oneType') (hi : AI arr) (kI : KI key)
    (hs : ∀ i j, i ≤ j → j < n → ky arr (base + i) ≤ ky arr (base + j)) (hn : base + n ≤ arr.size) (hh : hint < n)
    (h : ∀ k, k ≤ n → (∀ i, i < k → ky arr (base + i) < kk key) → (∀ i, k ≤ i → i < n → kk key ≤ ky arr (base + i)) → Q (some k) st) :
    wpS (model prog w) A E s (gallop' true key arr base n hint) Q st := by
  refine wpS_gallop (fun i => decide (ky arr (base + i) < kk key)) (fun i hi' Q q => ?_) (fun i j h1 h2 h3 => ?_) hh fun k c => h k c.le (fun i hi' => of_decide_eq_true (c.lo i hi')) fun i h1 h2 => ?_
  · refine wpS_bind (wpS_elem (by omega) ?_)
    refine wpS_lt hk (hi _ (by omega)) kI ?_
    rw [ky_eq (by omega)] at q
    exact q
  · have := hs i j h1 h2
    have := of_decide_eq_true h3
    exact decide_eq_true (by omega)
  · have := of_decide_eq_false (c.hi i h1 h2); omega
theorem wpS_galF {st : SortSt} {key : Keyed} {arr : Array Keyed} {base n hint : Nat} {Q : Option Nat → SortSt → Prop} (hk : kindOf st = oneType') (hi : AI arr) (kI : KI key)
    (hs : ∀ i j, i ≤ j → j < n → ky arr (base + i) ≤ ky arr (base + j)) (hn : base + n ≤ arr.size) (hh : hint < n)
    (h : ∀ k, k ≤ n → (∀ i, i < k → ky arr (base + i) ≤ kk key) → (∀ i, k ≤ i → i < n → kk key < ky arr (base + i)) → Q (some k) st) :
    wpS (model prog w) A E s (gallop' false key arr base n hint) Q st := by
  refine wpS_gallop (fun i => !decide (kk key < ky arr (base + i))) (fun i hi' Q q => ?_) (fun i j h1 h2 h3 => ?_) hh fun k c => h k c.le (fun i hi' => ?_) fun i h1 h2 => ?_
  · refine wpS_bind (wpS_elem (by omega) ?_)
    simp only [Bool.false_eq_true, if_false]
    refine wpS_bind (wpS_lt hk kI (hi _ (by omega)) ?_)
    rw [ky_eq (by omega)] at q
    exact wpS_pure q
  · have := hs i j h1 h2
    simp only [Bool.not_eq_true', decide_eq_false_iff_not] at h3 ⊢
    omega
  · have := c.lo i hi'
    simp only [Bool.not_eq_true', decide_eq_false_iff_not] at this
    omega
  · have := c.hi i h1 h2
    simpa using this

section
variable {M : Model} {σ α β γ : Type} {st : σ} {Q : α → σ → Prop}
theorem wpS_ite1 {J : β → StateT σ Sem α} {c : Prop} {dc : Decidable c} {a b : β} (h : ∀ g, wpS M A E s (J g) Q st) : wpS M A E s (if c then J a else J b) Q st := by
  split <;> exact h _
theorem wpS_jpA {J : β → γ → StateT σ Sem α} {c p q : Prop} {dc : Decidable c} {dp : Decidable p} {dq : Decidable q} {o' o : β} {i' i : γ} {x y : StateT σ Sem α} (P : β → γ → Prop) (h1 : c → p → wpS M A E s x Q st) (h2 : c → ¬ p → q → wpS M A E s y Q st)
    (h3 : c → ¬ p → ¬ q → P o' i') (h4 : ¬ c → P o i) (h : ∀ o i, P o i → wpS M A E s (J o i) Q st) : wpS M A E s (if c then if p then x else if q then y else J o' i' else J o i) Q st := by
  split
  · rename_i hc
    split
    · rename_i hp; exact h1 hc hp
    · rename_i hp
      split
      · rename_i hq; exact h2 hc hp hq
      · rename_i hq; exact h _ _ (h3 hc hp hq)
  · rename_i hc; exact h _ _ (h4 hc)
theorem wpS_jpB {J : β → γ → StateT σ Sem α} {c p : Prop} {dc : Decidable c} {dp : Decidable p} {o' o : β} {i' i : γ} {x : StateT σ Sem α} (P : β → γ → Prop) (h1 : c → p → wpS M A E s x Q st)
    (h3 : c → ¬ p → P o' i') (h4 : ¬ c → P o i) (h : ∀ o i, P o i → wpS M A E s (J o i) Q st) : wpS M A E s (if c then if p then x else J o' i' else J o i) Q st := by
  split
  · rename_i hc
    split
    · rename_i hp; exact h1 hc hp
    · rename_i hp; exact h _ _ (h3 hc hp)
  · rename_i hc; exact h _ _ (h4 hc)
end
theorem wpS_mergeLo {st : SortSt} {a b : Array Keyed} {Q : Array Keyed → SortSt → Prop} (hk : kindOf st = oneType') (ia : AI a) (ib : AI b) (sa : SrA a) (sb : SrA b) (na : 0 < a.size) (nb : 0 < b.size)
    (hf : ky b 0 ≤ ky a 0) (hl : ∀ j, j < b.size → ky b j ≤ ky a (a.size - 1)) (h : ∀ out st', Sm st st' → FL a b out → Q out st') :
    wpS (model prog w) A E s (mergeLo' a b) Q st := by
  refine wpS_bind (wpS_lift (wpAny_rule ⟨rfl, ?_⟩))
  refine wpS_bind (wpS_elem nb ?_)
  have g0 : GL a b #[b[0]] 0 1 := GL.pb (out := #[]) (ia := 0) (ib := 0) ⟨by simp, .nil, sa.pw, sb.pw, by simp, by simp⟩ sa nb fun _ => hf
  refine wpS_if (fun e => wpS_pure (h _ _ .refl (g0.done (.inr (Nat.le_of_eq (eq_of_beq e).symm))))) fun e1 => ?_
  have e1 : ¬ 1 = b.size := fun q => e1 (beq_iff_eq.mpr q)
  refine wpS_if (fun e => wpS_pure (h _ _ .refl (g0.last (eq_of_beq e) hl))) fun e2 => ?_
  have e2 : ¬ 0 + 1 = a.size := fun q => e2 (beq_iff_eq.mpr q)
  refine wpS_bind (wpS_get ?_)
  refine wpS_bind (wpS_mono (wpS_forRange (I := fun x c st' => IO a b st (x + 1) c st')
    (Q := fun c st' => QO a b st c st') ?_ ?_ ⟨_, 0, 1, _, rfl, ⟨.refl, g0, by omega, by omega⟩, by omega⟩) ?_)
  · rintro x c st1 _ hx ⟨out, i, j, mg, rfl, L, hp⟩
    refine wpS_bind (wpS_mono (wpS_forRange (I := fun y c st' => I1 a b st (i + j + y) c st')
      (Q := fun c st' => QO a b st c st' ∨ I1 a b st (i + j + 1) c st') ?_ ?_ ⟨out, i, j, 0, 0, rfl, L, by omega⟩) ?_)
    · rintro y c st2 _ hy ⟨out, i', j', ac, bc, rfl, L, hp⟩
      have sm := L.sm; have g := L.g; have l1 := L.la; have l2 := L.lb
      refine wpS_bind (wpS_elem l2 (wpS_bind (wpS_elem (Nat.lt_of_succ_lt l1) (wpS_bind (wpS_lt (sm.kind.trans hk) (ib _ _) (ia _ _) ?_)))))
      refine wpS_if (fun lt => ?_) fun lt => ?_
      · have g2 := g.pb sa l2 (fun q => by rw [ky_eq l2, ky_eq q]; exact Int.le_of_lt (of_decide_eq_true lt))
        refine wpS_bind (wpS_elem l2 ?_)
        refine wpS_if (fun e => wpS_pure (.inl ⟨_, _, rfl, sm, g2.done (.inr (Nat.le_of_eq (eq_of_beq e).symm))⟩)) fun e => ?_
        have e : ¬ j' + 1 = b.size := fun q => e (beq_iff_eq.mpr q)
        refine wpS_if (fun e3 => wpS_pure (.inr ⟨_, i', j' + 1, _, _, rfl, ⟨sm, g2, l1, by omega⟩, by omega⟩)) fun e3 => wpS_pure ⟨_, i', j' + 1, _, _, rfl, ⟨sm, g2, l1, by omega⟩, by omega⟩
      · have g2 := g.pa sb (Nat.lt_of_succ_lt l1) (fun q => by rw [ky_eq q, ky_eq (Nat.lt_of_succ_lt l1)]; exact Int.not_lt.mp fun z => lt (decide_eq_true z))
        refine wpS_bind (wpS_elem (Nat.lt_of_succ_lt l1) ?_)
        refine wpS_if (fun e => wpS_pure (.inl ⟨_, _, rfl, sm, g2.last (eq_of_beq e) hl⟩)) fun e => ?_
        have e : ¬ i' + 1 + 1 = a.size := fun q => e (beq_iff_eq.mpr q)
        refine wpS_if (fun e3 => wpS_pure (.inr ⟨_, i' + 1, j', _, _, rfl, ⟨sm, g2, by omega, l2⟩, by omega⟩)) fun e3 => wpS_pure ⟨_, i' + 1, j', _, _, rfl, ⟨sm, g2, by omega, l2⟩, by omega⟩
    · rintro c st2 ⟨out, i', j', ac, bc, rfl, L, hp⟩
      exact .inr ⟨_, _, _, _, _, rfl, L, by omega⟩
    rintro c st2 (⟨f, r, rfl, sm, ff⟩ | ⟨out, i1, j1, ac, bc, rfl, L, hp1⟩)
    · exact wpS_pure ⟨_, _, rfl, sm, ff⟩
    refine wpS_bind (wpS_lift (wpAny_rule ⟨rfl, ?_⟩))
    refine wpS_bind (wpS_mono (wpS_forRange (I := fun y c st' => I2 a b st (i1 + j1) c st')
      (Q := fun c st' => QO a b st c st' ∨ I2 a b st (i1 + j1) c st') ?_ ?_ ⟨out, i1, j1, _, ac, bc, rfl, L, Nat.le_refl _⟩) ?_)
    · rintro y c st2 _ hy ⟨out, i', j', mg, ac, bc, rfl, L, hp⟩
      have sm := L.sm; have g := L.g; have l1 := L.la; have l2 := L.lb
      extract_lets s1 o1 s2 i2 s3 j2 s4 mg2 s5 ac2 bc2 jb jp
      refine wpS_ite1 (J := jp ()) fun g0 => ?_
      refine wpS_bind (wpS_smg (wpS_bind (wpS_elem l2 (wpS_bind (wpS_galF (base := i') (n := a.size - i') (hint := 0) (sm.kind.trans hk) ia (ib _ _) (fun u v a1 a2 => sa _ _ (by omega) (by omega)) (by omega) (by omega) fun k k1 k2 k3 => ?_)))))
      rw [← ky_eq] at k2 k3
      have g' := g.ea sb k2
      have kz : i' + k ≤ a.size := by omega
      have kp : i' < a.size := Nat.lt_of_succ_lt l1
      have kn : i' + k < a.size → ky b j' < ky a (i' + k) := fun z => k3 k (Nat.le_refl _) (Nat.lt_sub_of_add_lt (by rw [Nat.add_comm]; exact z))
      have k0 : k ≤ 0 → ky b j' < ky a i' := fun z => k3 0 z (Nat.sub_pos_of_lt kp)
      clear k2 k3
      dsimp -zeta only
      extract_lets ac3 jp2
      refine wpS_jpA (J := jp2 ()) (o' := out ++ a.extract i' (i' + k)) (i' := i' + k) (o := out) (i := i') (fun o i => GL a b o i j' ∧ i + 1 < a.size ∧ ky b j' < ky a i ∧ i' ≤ i) ?_ ?_ ?_ ?_ ?_
      · exact fun _ p => wpS_pure (.inl ⟨_, _, rfl, sm.mg, g'.last (eq_of_beq p) hl⟩)
      · exact fun _ _ p => wpS_pure (.inl ⟨_, _, rfl, sm.mg, g'.done (.inl (Nat.le_of_eq (eq_of_beq p).symm))⟩)
      · intro c p1 p2
        have p1 : ¬ i' + k + 1 = a.size := fun q => p1 (beq_iff_eq.mpr q)
        have p2 : ¬ i' + k = a.size := fun q => p2 (beq_iff_eq.mpr q)
        have lt := Nat.lt_of_le_of_ne kz p2
        exact ⟨g', Nat.lt_of_le_of_ne lt p1, kn lt, Nat.le_add_right _ _⟩
      · intro c
        exact ⟨g, l1, k0 (Nat.not_lt.mp c), Nat.le_refl _⟩
      intro o3 i3 z3
      have g3 := z3.1; have l3 := z3.2.1; have h3 := z3.2.2.1; have u3 := z3.2.2.2
      clear z3
      clear g' kn k0 k1 kz kp
      have g4 := g3.pb sa l2 fun _ => Int.le_of_lt h3
      refine wpS_bind (wpS_elem l2 ?_)
      refine wpS_if (fun e => wpS_pure (.inl ⟨_, _, rfl, sm.mg, g4.done (.inr (Nat.le_of_eq (eq_of_beq e).symm))⟩)) fun e9 => ?_
      have e9 : ¬ j' + 1 = b.size := fun q => e9 (beq_iff_eq.mpr q)
      refine wpS_bind (wpS_elem (Nat.lt_of_succ_lt l3) (wpS_bind (wpS_galT (base := j' + 1) (n := b.size - (j' + 1)) (hint := 0) (sm.kind.trans hk) ib (ia _ _) (fun u v a1 a2 => sb _ _ (by omega) (by omega)) (by omega) (by omega) fun q q1 q2 q3 => ?_)))
      rw [← ky_eq] at q2 q3
      have g5 := g4.eb sa fun i hi => Int.le_of_lt (q2 i hi)
      have jz : j' + 1 < b.size := Nat.lt_of_le_of_ne l2 e9
      have qz : j' + 1 + q ≤ b.size := by omega
      have qn : j' + 1 + q < b.size → ky a i3 ≤ ky b (j' + 1 + q) := fun z => q3 q (Nat.le_refl _) (Nat.lt_sub_of_add_lt (by rw [Nat.add_comm]; exact z))
      have q0 : q ≤ 0 → ky a i3 ≤ ky b (j' + 1) := fun z => q3 0 z (Nat.sub_pos_of_lt jz)
      clear q2 q3
      dsimp -zeta only
      extract_lets bc3 ia3 jp3
      refine wpS_jpB (J := jp3 ()) (o' := o3.push b[j'] ++ b.extract (j' + 1) (j' + 1 + q)) (i' := j' + 1 + q) (o := o3.push b[j']) (i := j' + 1) (fun o j => GL a b o i3 j ∧ j < b.size ∧ ky a i3 ≤ ky b j ∧ j' < j) ?_ ?_ ?_ ?_
      · exact fun _ p => wpS_pure (.inl ⟨_, _, rfl, sm.mg, g5.done (.inr (Nat.le_of_eq (eq_of_beq p).symm))⟩)
      · intro c p1
        have p1 : ¬ j' + 1 + q = b.size := fun q => p1 (beq_iff_eq.mpr q)
        have lt := Nat.lt_of_le_of_ne qz p1
        exact ⟨g5, lt, qn lt, Nat.lt_of_lt_of_le (Nat.lt_succ_self _) (Nat.le_add_right _ _)⟩
      · intro c
        exact ⟨g4, jz, q0 (Nat.not_lt.mp c), Nat.lt_succ_self _⟩
      intro o6 j6 z6
      have g6 := z6.1; have m6 := z6.2.1; have p6 := z6.2.2.1; have v6 := z6.2.2.2
      clear z6
      clear g5 qn q0 q1 qz jz
      have g7 := g6.pa sb (Nat.lt_of_succ_lt l3) fun _ => p6
      refine wpS_bind (wpS_elem (Nat.lt_of_succ_lt l3) ?_)
      refine wpS_if (fun e => wpS_pure (.inl ⟨_, _, rfl, sm.mg, g7.last (eq_of_beq e) hl⟩)) fun e12 => ?_
      have e12 : ¬ i3 + 1 + 1 = a.size := fun q => e12 (beq_iff_eq.mpr q)
      have L7 : LI a b st (setMG st2 g0) (o6.push a[i3]) (i3 + 1) j6 ∧ i1 + j1 ≤ i3 + 1 + j6 := ⟨⟨sm.mg, g7, by omega, m6⟩, by omega⟩
      exact wpS_if (fun _ => wpS_pure (.inr ⟨_, _, _, _, _, _, rfl, L7.1, L7.2⟩)) fun _ => wpS_pure ⟨_, _, _, _, _, _, rfl, L7.1, L7.2⟩
    · rintro c st2 ⟨out, i', j', mg, ac, bc, rfl, L, hp⟩
      exact .inr ⟨_, _, _, _, _, _, rfl, L, hp⟩
    rintro c st2 (⟨f, r, rfl, sm, ff⟩ | ⟨out, i2, j2, mg2, ac, bc, rfl, L, hp2⟩)
    · exact wpS_pure ⟨_, _, rfl, sm, ff⟩
    exact wpS_bind (wpS_smg (wpS_pure ⟨out, i2, j2, _, rfl, ⟨L.sm.mg, L.g, L.la, L.lb⟩, by omega⟩))
  · rintro c st1 ⟨out, i, j, mg, rfl, L, hp⟩
    have := L.la; have := L.lb
    omega
  · rintro c st1 ⟨f, r, rfl, sm, ff⟩
    exact wpS_pure (h _ _ sm ff)
end
end Mine.So

namespace Mine.So
open PySem PyProof.Rows

/-! from above -/
noncomputable def kge (x y : Keyed) : Prop := kk y ≤ kk x
noncomputable def rt (a : Array Keyed) (n : Nat) : List Keyed := (a.toList.take n).reverse
noncomputable def GH (a b out : Array Keyed) (na nb : Nat) : Prop := MG kge (a.toList ++ b.toList) out.toList (rt a na) (rt b nb)
theorem mem_rt {a : Array Keyed} {n : Nat} {x : Keyed} (h : x ∈ rt a n) : ∃ j, j < n ∧ j < a.size ∧ kk x = ky a j := by
  unfold rt at h
  rw [List.mem_reverse, List.mem_take_iff_getElem] at h
  obtain ⟨j, hj, rfl⟩ := h
  have hj' : j < min n a.size := by simpa using hj
  exact ⟨j, by omega, by omega, by rw [ky_eq (by omega)]; simp⟩
theorem rt_cons {a : Array Keyed} {n : Nat} (h : n < a.size) : rt a (n + 1) = [a[n]] ++ rt a n := by
  unfold rt
  rw [List.take_add_one, List.reverse_append]
  simp [h]
theorem rt_ext {a : Array Keyed} {k n : Nat} (h : k ≤ n) : rt a n = (a.extract k n).reverse.toList ++ rt a k := by
  unfold rt
  rw [Array.toList_reverse, Array.toList_extract, List.extract_eq_take_drop, ← List.reverse_append]
  congr 1
  rw [← List.take_append_drop k (a.toList.take n), List.take_take, Nat.min_eq_left h, List.drop_take]
theorem mem_extR {a : Array Keyed} {k n : Nat} {x : Keyed} (h : x ∈ (a.extract k n).reverse.toList) : ∃ j, k ≤ j ∧ j < n ∧ j < a.size ∧ kk x = ky a j := by
  rw [Array.toList_reverse, List.mem_reverse, Array.mem_toList_iff, Array.mem_iff_getElem] at h
  obtain ⟨j, hj, rfl⟩ := h
  have hs : j < min n a.size - k := by simpa using hj
  refine ⟨k + j, by omega, by omega, by omega, ?_⟩
  rw [ky_eq (by omega), Array.getElem_extract]
theorem SrA.rt {a : Array Keyed} (h : SrA a) : (rt a a.size).Pairwise kge := by
  unfold Mine.So.rt
  rw [List.pairwise_reverse, List.take_of_length_le (by simp)]
  exact h.pw
theorem ext0 {a : Array Keyed} {n : Nat} : (a.extract 0 n).toList = (rt a n).reverse := by
  unfold rt
  rw [Array.toList_extract, List.extract_eq_take_drop, List.reverse_reverse]; rfl
section
variable {a b out : Array Keyed} {na nb k : Nat}
theorem GH.pa (g : GH a b out (na + 1) nb) (sb : SrA b) (ha : na < a.size) (hb : nb ≤ b.size) (h : 0 < nb → ky b (nb - 1) ≤ ky a na) : GH a b (out.push a[na]) na nb := by
  unfold GH at g ⊢
  rw [rt_cons ha] at g
  rw [Array.toList_push]
  refine g.as fun y hy x hx => ?_
  have : y = a[na] := by simpa using hy
  subst this
  obtain ⟨j, h1, h2, h3⟩ := mem_rt hx
  have := sb j (nb - 1) (by omega) (by omega)
  have := h (by omega)
  rw [ky_eq ha] at this
  unfold kge; omega
theorem GH.pb (g : GH a b out na (nb + 1)) (sa : SrA a) (hb : nb < b.size) (ha : na ≤ a.size) (h : 0 < na → ky a (na - 1) ≤ ky b nb) : GH a b (out.push b[nb]) na nb := by
  unfold GH at g ⊢
  rw [rt_cons hb] at g
  rw [Array.toList_push]
  refine g.bs fun y hy x hx => ?_
  have : y = b[nb] := by simpa using hy
  subst this
  obtain ⟨j, h1, h2, h3⟩ := mem_rt hx
  have := sa j (na - 1) (by omega) (by omega)
  have := h (by omega)
  rw [ky_eq hb] at this
  unfold kge; omega
theorem GH.ea (g : GH a b out na nb) (sb : SrA b) (hk : k ≤ na) (hb : nb ≤ b.size) (h : ∀ i, k ≤ i → i < na → ky b (nb - 1) ≤ ky a i) : GH a b (out ++ (a.extract k na).reverse) k nb := by
  unfold GH at g ⊢
  rw [rt_ext hk] at g
  rw [Array.toList_append]
  refine g.as fun y hy x hx => ?_
  obtain ⟨j, h1, h2, h3⟩ := mem_rt hx
  obtain ⟨j', h1', h2', h3', h4'⟩ := mem_extR hy
  have e1 := sb j (nb - 1) (by omega) (by omega)
  have e2 := h j' (by omega) (by omega)
  unfold kge; omega
theorem GH.eb (g : GH a b out na nb) (sa : SrA a) (hk : k ≤ nb) (ha : na ≤ a.size) (h : ∀ i, k ≤ i → i < nb → ky a (na - 1) ≤ ky b i) : GH a b (out ++ (b.extract k nb).reverse) na k := by
  unfold GH at g ⊢
  rw [rt_ext (a := b) hk] at g
  rw [Array.toList_append]
  refine g.bs fun y hy x hx => ?_
  obtain ⟨j, h1, h2, h3⟩ := mem_rt hx
  obtain ⟨j', h1', h2', h3', h4'⟩ := mem_extR hy
  have e1 := sa j (na - 1) (by omega) (by omega)
  have e2 := h j' (by omega) (by omega)
  unfold kge; omega
theorem FL_rev {l : List Keyed} (h : l.Perm (a.toList ++ b.toList) ∧ l.Pairwise kge) (e : out.toList = l.reverse) : FL a b out := by
  unfold FL
  rw [e]
  exact ⟨(List.reverse_perm _).trans h.1, List.pairwise_reverse.mpr h.2⟩
theorem GH.done (g : GH a b out na nb) (h : na = 0 ∨ nb = 0) : FL a b (doneHi a b out na nb) := by
  unfold GH at g
  rcases h with rfl | rfl
  · refine FL_rev (MG.fin (la := rt b nb) g.swap) ?_
    unfold doneHi
    rw [Array.toList_append, Array.toList_append, ext0, ext0, Array.toList_reverse, List.reverse_append]
    rfl
  · refine FL_rev (MG.fin (la := rt a na) g) ?_
    unfold doneHi
    rw [Array.toList_append, Array.toList_append, ext0, ext0, Array.toList_reverse, List.reverse_append, show rt b 0 = [] from rfl, List.reverse_nil, List.append_nil]
theorem GH.first (g : GH a b out na nb) (e : nb = 1) (hl : ∀ j, j < a.size → ky b 0 ≤ ky a j) : FL a b (firstHi a b out na nb) := by
  subst e
  unfold GH at g
  have g2 : MG kge (a.toList ++ b.toList) out.toList (rt a na ++ []) (rt b 1) := by rw [List.append_nil]; exact g
  refine FL_rev (MG.fin (g2.as fun y hy x hx => ?_).swap) ?_
  · obtain ⟨j, h1, h2, h3⟩ := mem_rt hy
    obtain ⟨j', h1', h2', h3'⟩ := mem_rt hx
    have := hl j h2
    have e : j' = 0 := by omega
    subst e
    unfold kge; omega
  · unfold firstHi
    rw [Array.toList_append, Array.toList_append, ext0, ext0, Array.toList_reverse, List.reverse_append, List.reverse_append, List.append_assoc]
end

structure LH (a b : Array Keyed) (st st' : SortSt) (out : Array Keyed) (i j : Nat) : Prop where
  sm : Sm st st'
  g : GH a b out i j
  la : 0 < i
  lb : 1 < j
  ua : i ≤ a.size
  ub : j ≤ b.size

inductive HO (a b : Array Keyed) (st : SortSt) (n : Nat) (c : Option (Array Keyed) × Nat × Nat × Array Keyed × Nat) (st' : SortSt) : Prop
  | mk (out : Array Keyed) (i j mg : Nat) (e : c = (none, i, j, out, mg)) (L : LH a b st st' out i j) (h : n + i + j ≤ a.size + b.size)
inductive H1 (a b : Array Keyed) (st : SortSt) (n m : Nat) (c : Option (Array Keyed) × Nat × Nat × Array Keyed × Nat × Nat) (st' : SortSt) : Prop
  | mk (out : Array Keyed) (i j ac bc : Nat) (e : c = (none, i, j, out, ac, bc)) (L : LH a b st st' out i j) (h : i + j + n ≤ m)
inductive H2 (a b : Array Keyed) (st : SortSt) (m : Nat) (c : Option (Array Keyed) × Nat × Nat × Array Keyed × Nat × Nat × Nat) (st' : SortSt) : Prop
  | mk (out : Array Keyed) (i j mg ac bc : Nat) (e : c = (none, i, j, out, mg, ac, bc)) (L : LH a b st st' out i j) (h : i + j ≤ m)
section
variable {prog : Program} {w : World} {A : Around} {E : Value → Shared → Prop} {s : Shared}
theorem wpS_mergeHi {st : SortSt} {a b : Array Keyed} {Q : Array Keyed → SortSt → Prop} (hk : kindOf st = oneType') (ia : AI a) (ib : AI b) (sa : SrA a) (sb : SrA b) (na : 0 < a.size) (nb : 0 < b.size)
    (hf : ∀ j, j < a.size → ky b 0 ≤ ky a j) (hl : ky b (b.size - 1) ≤ ky a (a.size - 1)) (h : ∀ out st', Sm st st' → FL a b out → Q out st') :
    wpS (model prog w) A E s (mergeHi' a b) Q st := by
  refine wpS_bind (wpS_lift (wpAny_rule ⟨rfl, ?_⟩))
  refine wpS_bind (wpS_elem (by omega) ?_)
  have g0 : GH a b #[a[a.size - 1]] (a.size - 1) b.size := GH.pa (out := #[]) (na := a.size - 1) (nb := b.size) (by
    rw [Nat.sub_add_cancel na]
    refine ⟨?_, .nil, sa.rt, sb.rt, by simp, by simp⟩
    unfold rt
    rw [List.take_of_length_le (by simp), List.take_of_length_le (by simp)]
    exact ((List.reverse_perm _).append (List.reverse_perm _))) sb (by omega) (Nat.le_refl _) fun _ => hl
  refine wpS_if (fun e => wpS_pure (h _ _ .refl (g0.done (.inl (eq_of_beq e))))) fun e1 => ?_
  have e1 : ¬ a.size - 1 = 0 := fun q => e1 (beq_iff_eq.mpr q)
  refine wpS_if (fun e => wpS_pure (h _ _ .refl (g0.first (eq_of_beq e) hf))) fun e2 => ?_
  have e2 : ¬ b.size = 1 := fun q => e2 (beq_iff_eq.mpr q)
  refine wpS_bind (wpS_get ?_)
  refine wpS_bind (wpS_mono (wpS_forRange (I := fun x c st' => HO a b st (x + 1) c st') (Q := fun c st' => QO a b st c st') ?_ ?_ ⟨_, a.size - 1, b.size, _, rfl, ⟨.refl, g0, by omega, by omega, by omega, by omega⟩, by omega⟩) ?_)
  · rintro x c st1 _ hx ⟨out, i, j, mg, rfl, L, hp⟩
    refine wpS_bind (wpS_mono (wpS_forRange (I := fun y c st' => H1 a b st y (i + j) c st') (Q := fun c st' => QO a b st c st' ∨ H1 a b st 1 (i + j) c st') ?_ ?_ ⟨out, i, j, 0, 0, rfl, L, Nat.le_refl _⟩) ?_)
    · rintro y c st2 _ hy ⟨out, i', j', ac, bc, rfl, L, hp⟩
      have sm := L.sm; have g := L.g; have l1 := L.la; have l2 := L.lb; have u1 := L.ua; have u2 := L.ub
      clear L
      obtain ⟨i', rfl⟩ : ∃ z, i' = z + 1 := ⟨i' - 1, by omega⟩
      obtain ⟨j', rfl⟩ : ∃ z, j' = z + 1 := ⟨j' - 1, by omega⟩
      refine wpS_bind (wpS_elem (i := j') u2 (wpS_bind (wpS_elem (i := i') u1 (wpS_bind (wpS_lt (sm.kind.trans hk) (ib _ _) (ia _ _) ?_)))))
      refine wpS_if (fun lt => ?_) fun lt => ?_
      · have g2 := g.pa sb u1 u2 (fun q => by rw [Nat.add_sub_cancel, ky_eq u2, ky_eq u1]; exact Int.le_of_lt (of_decide_eq_true lt))
        refine wpS_bind (wpS_elem (i := i') u1 ?_)
        refine wpS_if (fun e => wpS_pure (.inl ⟨_, _, rfl, sm, g2.done (.inl (eq_of_beq e))⟩)) fun e => ?_
        have e : ¬ i' = 0 := fun q => e (beq_iff_eq.mpr q)
        have L2 : LH a b st st2 (out.push a[i']) i' (j' + 1) := ⟨sm, g2, by omega, l2, by omega, u2⟩
        exact wpS_if (fun e3 => wpS_pure (.inr ⟨_, i', j' + 1, _, _, rfl, L2, by omega⟩)) fun e3 => wpS_pure ⟨_, i', j' + 1, _, _, rfl, L2, by omega⟩
      · have g2 := g.pb sa u2 u1 (fun q => by rw [Nat.add_sub_cancel, ky_eq u1, ky_eq u2]; exact Int.not_lt.mp fun z => lt (decide_eq_true z))
        refine wpS_bind (wpS_elem (i := j') u2 ?_)
        refine wpS_if (fun e => wpS_pure (.inl ⟨_, _, rfl, sm, g2.first (eq_of_beq e) hf⟩)) fun e => ?_
        have e : ¬ j' = 1 := fun q => e (beq_iff_eq.mpr q)
        have L2 : LH a b st st2 (out.push b[j']) (i' + 1) j' := ⟨sm, g2, l1, by omega, u1, by omega⟩
        exact wpS_if (fun e3 => wpS_pure (.inr ⟨_, i' + 1, j', _, _, rfl, L2, by omega⟩)) fun e3 => wpS_pure ⟨_, i' + 1, j', _, _, rfl, L2, by omega⟩
    · rintro c st2 ⟨out, i', j', ac, bc, rfl, L, hp⟩
      exact .inr ⟨_, _, _, _, _, rfl, L, by omega⟩
    rintro c st2 (⟨f, r, rfl, sm, ff⟩ | ⟨out, i1, j1, ac, bc, rfl, L, hp1⟩)
    · exact wpS_pure ⟨_, _, rfl, sm, ff⟩
    refine wpS_bind (wpS_lift (wpAny_rule ⟨rfl, ?_⟩))
    refine wpS_bind (wpS_mono (wpS_forRange (I := fun y c st' => H2 a b st (i1 + j1) c st') (Q := fun c st' => QO a b st c st' ∨ H2 a b st (i1 + j1) c st') ?_ ?_ ⟨out, i1, j1, _, ac, bc, rfl, L, Nat.le_refl _⟩) ?_)
    · rintro y c st2 _ hy ⟨out, i', j', mg, ac, bc, rfl, L, hp⟩
      have sm := L.sm; have g := L.g; have l1 := L.la; have l2 := L.lb; have u1 := L.ua; have u2 := L.ub
      clear L
      obtain ⟨j', rfl⟩ : ∃ z, j' = z + 1 := ⟨j' - 1, by omega⟩
      extract_lets s1 na1 s2 nb1 s3 o1 s4 mg2 s5 ac2 bc2 nbm jp
      refine wpS_ite1 (J := jp ()) fun g0 => ?_
      refine wpS_bind (wpS_smg (wpS_bind (wpS_elem (i := j') u2 (wpS_bind (wpS_galF (base := 0) (n := i') (hint := i' - 1) (sm.kind.trans hk) ia (ib _ _) (fun u v a1 a2 => sa _ _ (by omega) (by omega)) (by omega) (by omega) fun k k1 k2 k3 => ?_)))))
      simp only [Nat.zero_add] at k2 k3
      rw [← ky_eq] at k2 k3
      have g' := g.ea sb k1 u2 fun i h1 h2 => Int.le_of_lt (k3 i h1 h2)
      clear k3
      dsimp -zeta only
      extract_lets kk1 ac3 jp2
      refine wpS_jpB (J := jp2 ()) (o' := k) (i' := out ++ (a.extract k i').reverse) (o := i') (i := out) (fun n o => GH a b o n (j' + 1) ∧ (0 < n ∧ n ≤ a.size ∧ n ≤ i') ∧ ky a (n - 1) ≤ ky b j') ?_ ?_ ?_ ?_
      · exact fun _ p => wpS_pure (.inl ⟨_, _, rfl, sm.mg, g'.done (.inl (eq_of_beq p))⟩)
      · intro c p1
        have p1 : ¬ k = 0 := fun q => p1 (beq_iff_eq.mpr q)
        exact ⟨g', ⟨Nat.pos_of_ne_zero p1, Nat.le_trans k1 u1, k1⟩, k2 (k - 1) (by omega)⟩
      · intro c
        have c : ¬ i' - k > 0 := c
        exact ⟨g, ⟨l1, u1, Nat.le_refl _⟩, k2 (i' - 1) (by omega)⟩
      intro i3 o3 z3
      have g3 := z3.1; have l3 := z3.2.1; have h3 := z3.2.2
      clear z3
      clear g' k2 k1
      have g4 := g3.pb sa u2 l3.2.1 fun _ => h3
      refine wpS_bind (wpS_elem (i := j') u2 ?_)
      refine wpS_if (fun e => wpS_pure (.inl ⟨_, _, rfl, sm.mg, g4.first (eq_of_beq e) hf⟩)) fun e9 => ?_
      have e9 : ¬ j' = 1 := fun q => e9 (beq_iff_eq.mpr q)
      refine wpS_bind (wpS_elem (i := i3 - 1) (by omega) (wpS_bind (wpS_galT (base := 0) (n := j') (hint := j' - 1) (sm.kind.trans hk) ib (ia _ _) (fun u v a1 a2 => sb _ _ (by omega) (by omega)) (by omega) (by omega) fun q q1 q2 q3 => ?_)))
      simp only [Nat.zero_add] at q2 q3
      rw [← ky_eq] at q2 q3
      have g5 := g4.eb sa q1 l3.2.1 fun i h1 h2 => q3 i h1 h2
      clear q3
      dsimp -zeta only
      extract_lets kk2 bc3 nam jp3
      refine wpS_jpA (J := jp3 ()) (o' := q) (i' := o3.push b[j'] ++ (b.extract q j').reverse) (o := j') (i := o3.push b[j']) (fun n o => GH a b o i3 n ∧ (1 < n ∧ n ≤ b.size ∧ n ≤ j') ∧ ky b (n - 1) ≤ ky a (i3 - 1)) ?_ ?_ ?_ ?_ ?_
      · exact fun _ p => wpS_pure (.inl ⟨_, _, rfl, sm.mg, g5.first (eq_of_beq p) hf⟩)
      · exact fun _ _ p => wpS_pure (.inl ⟨_, _, rfl, sm.mg, g5.done (.inr (eq_of_beq p))⟩)
      · intro c p1 p2
        have p1 : ¬ q = 1 := fun z => p1 (beq_iff_eq.mpr z)
        have p2 : ¬ q = 0 := fun z => p2 (beq_iff_eq.mpr z)
        exact ⟨g5, ⟨by omega, by omega, q1⟩, Int.le_of_lt (q2 (q - 1) (by omega))⟩
      · intro c
        have c : ¬ j' - q > 0 := c
        exact ⟨g4, ⟨by omega, Nat.le_of_lt u2, Nat.le_refl _⟩, Int.le_of_lt (q2 (j' - 1) (by omega))⟩
      intro j6 o6 z6
      have g6 := z6.1; have m6 := z6.2.1; have p6 := z6.2.2
      clear z6
      clear g5 q2 q1
      have l4 : i3 - 1 < a.size := by omega
      have g7 := GH.pa (na := i3 - 1) (by rw [Nat.sub_add_cancel l3.1]; exact g6) sb l4 m6.2.1 fun _ => p6
      refine wpS_bind (wpS_elem (i := i3 - 1) l4 ?_)
      refine wpS_if (fun e => wpS_pure (.inl ⟨_, _, rfl, sm.mg, g7.done (.inl (eq_of_beq e))⟩)) fun e12 => ?_
      have e12 : ¬ i3 - 1 = 0 := fun q => e12 (beq_iff_eq.mpr q)
      have L7 : LH a b st (setMG st2 g0) (o6.push a[i3 - 1]) (i3 - 1) j6 ∧ i3 - 1 + j6 ≤ i1 + j1 := ⟨⟨sm.mg, g7, Nat.pos_of_ne_zero e12, m6.1, Nat.le_of_lt l4, m6.2.1⟩, by omega⟩
      exact wpS_if (fun _ => wpS_pure (.inr ⟨_, _, _, _, _, _, rfl, L7.1, L7.2⟩)) fun _ => wpS_pure ⟨_, _, _, _, _, _, rfl, L7.1, L7.2⟩
    · rintro c st2 ⟨out, i', j', mg, ac, bc, rfl, L, hp⟩
      exact .inr ⟨_, _, _, _, _, _, rfl, L, hp⟩
    rintro c st2 (⟨f, r, rfl, sm, ff⟩ | ⟨out, i2, j2, mg2, ac, bc, rfl, L, hp2⟩)
    · exact wpS_pure ⟨_, _, rfl, sm, ff⟩
    exact wpS_bind (wpS_smg (wpS_pure ⟨out, i2, j2, _, rfl, ⟨L.sm.mg, L.g, L.la, L.lb, L.ua, L.ub⟩, by omega⟩))
  · rintro c st1 ⟨out, i, j, mg, rfl, L, hp⟩
    have := L.la; have := L.lb
    omega
  · rintro c st1 ⟨f, r, rfl, sm, ff⟩
    exact wpS_pure (h _ _ sm ff)
end
end Mine.So

namespace Mine.So
open PySem PyProof.Rows

theorem ky_ext {a : Array Keyed} {i j k : Nat} (h : k < (a.extract i j).size) : ky (a.extract i j) k = ky a (i + k) := by
  have hs : k < min j a.size - i := by simpa using h
  rw [ky_eq h, ky_eq (by omega), Array.getElem_extract]
theorem AI.ext {a : Array Keyed} (h : AI a) {i j : Nat} : AI (a.extract i j) := by
  intro k hk
  rw [Array.getElem_extract]
  exact h _ _
theorem SrA.of {a : Array Keyed} (h : a.toList.Pairwise kle) : SrA a := by
  intro i j hij hj
  rcases Nat.lt_or_ge i j with l | l
  · have := List.pairwise_iff_getElem.mp h i j (by simpa using Nat.lt_trans l hj) (by simpa using hj) l
    rw [ky_eq (by omega), ky_eq hj]
    exact this
  · have : i = j := by omega
    subst this
    exact Int.le_refl _
theorem mem_tk {a : Array Keyed} {n : Nat} {x : Keyed} (h : x ∈ a.toList.take n) : ∃ j, j < n ∧ j < a.size ∧ kk x = ky a j :=
  mem_rt (by unfold rt; rw [List.mem_reverse]; exact h)

theorem wb_list (sa : Nat) : ∀ (l : List Keyed) (m : Nat) (a : Array Keyed), sa + m + l.length ≤ a.size →
    ((l.zipIdx m).foldl (fun a (x : Keyed × Nat) => a.setIfInBounds (sa + x.2) x.1) a).toList = a.toList.take (sa + m) ++ l ++ a.toList.drop (sa + m + l.length)
  | [], m, a, h => by simp
  | p :: l, m, a, h => by
    rw [List.length_cons] at h
    rw [List.zipIdx_cons, List.foldl_cons, wb_list sa l (m + 1) _ (by rw [Array.size_setIfInBounds]; omega)]
    have hl : sa + m < a.toList.length := by simpa using (by omega : sa + m < a.size)
    simp only [Array.toList_setIfInBounds]
    rw [List.drop_set_of_lt (by omega), show sa + (m + 1) = sa + m + 1 by omega, List.take_set, List.length_cons, show sa + m + 1 + l.length = sa + m + (l.length + 1) by omega]
    rw [List.take_add_one, List.getElem?_eq_getElem hl]
    simp only [Option.toList_some]
    have tk : (a.toList.take (sa + m)).length = sa + m := by rw [List.length_take]; omega
    rw [List.set_append_right _ _ (by omega), tk]
    simp

section
variable {prog : Program} {w : World} {A : Around} {E : Value → Shared → Prop} {s : Shared}
theorem wpS_set' {σ : Type} {M : Model} {st st' : σ} {Q : PUnit → σ → Prop} (h : Q ⟨⟩ st') : wpS M A E s (set st' : StateT σ Sem PUnit) Q st := by
  unfold wpS; rw [StateT.run_set]; exact wpAny_pure ⟨rfl, h⟩

theorem wpS_mergeAt {st : SortSt} {n1 n2 pw : Nat} {p2 : Nat} {Q : Bool → SortSt → Prop} (hk : kindOf st = oneType') (hf : failedOf st = none) (hp : pendingOf st = #[(0, n1, pw), (n1, n2, p2)]) (hi : AI (arrOf st))
    (hs : (arrOf st).size = n1 + n2) (h1 : 0 < n1) (h2 : 0 < n2) (r1 : ∀ i j, i ≤ j → j < n1 → ky (arrOf st) i ≤ ky (arrOf st) j) (r2 : ∀ i j, n1 ≤ i → i ≤ j → j < n1 + n2 → ky (arrOf st) i ≤ ky (arrOf st) j)
    (h : ∀ st', (arrOf st').toList.Perm (arrOf st).toList → SrA (arrOf st') → failedOf st' = none → pendingOf st' = #[(0, n1 + n2, pw)] → Q true st') :
    wpS (model prog w) A E s (mergeAt' 0) Q st := by
  refine wpS_bind (wpS_get ?_)
  have hpe : (#[(0, n1, pw), (n1, n2, p2)].setIfInBounds 0 (0, n1 + n2, pw)).eraseIdxIfInBounds 1 = #[(0, n1 + n2, pw)] := by
    rw [← Array.toList_inj]; simp [Array.eraseIdxIfInBounds]
  simp only [hp]
  refine wpS_bind (wpS_set' ?_)
  refine wpS_bind (wpS_elem (a := arrOf st) (by omega) ?_)
  refine wpS_bind (wpS_galF (st := setPending st _) (arr := arrOf st) hk hi (hi _ _) (fun u v a1 a2 => r1 _ _ (by omega) (by omega)) (by omega) h1 fun k k1 k2 k3 => ?_)
  rw [← ky_eq] at k2 k3
  simp only [Nat.zero_add] at k2 k3 ⊢
  simp only [hpe]
  have pe : ∀ p : Array (Nat × Nat × Nat), p = #[(0, n1 + n2, pw)] → pendingOf (setPending st p) = #[(0, n1 + n2, pw)] := fun p e => e
  by_cases e1 : n1 - k = 0
  · rw [if_pos (by simpa using e1)]
    refine wpS_pure (h _ (List.Perm.refl _) (fun i j hij hj => ?_) hf (pe _ rfl))
    have hj : j < n1 + n2 := hs ▸ hj
    show ky (arrOf st) i ≤ ky (arrOf st) j
    rcases Nat.lt_or_ge j n1 with q | q
    · exact r1 i j hij q
    · rcases Nat.lt_or_ge i n1 with q2 | q2
      · exact Int.le_trans (k2 i (by omega)) (r2 n1 j (Nat.le_refl _) q hj)
      · exact r2 i j q2 hij hj
  rw [if_neg (by simpa using e1)]
  refine wpS_bind (wpS_elem (a := arrOf st) (by omega) ?_)
  refine wpS_bind (wpS_galT (st := setPending st _) (arr := arrOf st) hk hi (hi _ _) (fun u v a1 a2 => r2 _ _ (by omega) (by omega) (by omega)) (by omega) (by omega) fun q q1 q2 q3 => ?_)
  rw [← ky_eq] at q2 q3
  rw [show k + (n1 - k) - 1 = n1 - 1 by rw [Nat.add_sub_cancel' k1]] at q2 q3
  dsimp only
  by_cases e2 : q = 0
  · rw [if_pos (by simpa using e2)]
    refine wpS_pure (h _ (List.Perm.refl _) (fun i j hij hj => ?_) hf (pe _ rfl))
    have hj : j < n1 + n2 := hs ▸ hj
    show ky (arrOf st) i ≤ ky (arrOf st) j
    rcases Nat.lt_or_ge j n1 with u | u
    · exact r1 i j hij u
    · rcases Nat.lt_or_ge i n1 with u2 | u2
      · have := q3 (j - n1) (by omega) (by omega)
        rw [Nat.add_sub_cancel' u] at this
        exact Int.le_trans (r1 i (n1 - 1) (by omega) (by omega)) this
      · exact r2 i j u2 hij hj
  rw [if_neg (by simpa using e2)]
  have sx : ((arrOf st).extract k n1).size = n1 - k := by rw [Array.size_extract, Nat.min_eq_left (by omega)]
  have sy : ((arrOf st).extract n1 (n1 + q)).size = q := by rw [Array.size_extract, Nat.min_eq_left (by omega), Nat.add_sub_cancel_left]
  have srx : SrA ((arrOf st).extract k n1) := fun i j hij hj => by
    rw [ky_ext (by omega), ky_ext hj]; exact r1 _ _ (by omega) (by omega)
  have sry : SrA ((arrOf st).extract n1 (n1 + q)) := fun i j hij hj => by
    rw [ky_ext (by omega), ky_ext hj]; exact r2 _ _ (by omega) (by omega) (by omega)
  have c1 : ∀ j, j < ((arrOf st).extract k n1).size → ky ((arrOf st).extract n1 (n1 + q)) 0 ≤ ky ((arrOf st).extract k n1) j := fun j hj => by
    rw [ky_ext (by omega), ky_ext hj]; exact Int.le_of_lt (k3 _ (by omega) (by omega))
  have c2 : ∀ j, j < ((arrOf st).extract n1 (n1 + q)).size → ky ((arrOf st).extract n1 (n1 + q)) j ≤ ky ((arrOf st).extract k n1) (((arrOf st).extract k n1).size - 1) := fun j hj => by
    rw [ky_ext hj, ky_ext (by omega), sx, show k + (n1 - k - 1) = n1 - 1 by rw [← Nat.add_sub_assoc (Nat.pos_of_ne_zero e1), Nat.add_sub_cancel' k1]]; exact Int.le_of_lt (q2 _ (by omega))
  have fin : ∀ out st', Sm (setPending st #[(0, n1 + n2, pw)]) st' → FL ((arrOf st).extract k n1) ((arrOf st).extract n1 (n1 + q)) out →
      Q ((failedOf (setArr st' (out.toList.zipIdx.foldl (fun a (x : Keyed × Nat) => a.setIfInBounds (k + x.2) x.1) (arrOf st')))).isNone)
        (setArr st' (out.toList.zipIdx.foldl (fun a (x : Keyed × Nat) => a.setIfInBounds (k + x.2) x.1) (arrOf st'))) := by
    intro out st' sm ff
    have e3 : failedOf st' = none := sm.fail.trans hf
    have e4 : arrOf st' = arrOf st := sm.arr
    have ol : out.toList.length = n1 - k + q := by
      rw [ff.1.length_eq, List.length_append, Array.length_toList, Array.length_toList, sx, sy]
    have el := wb_list k out.toList 0 (arrOf st') (by rw [e4]; omega)
    rw [Nat.add_zero, ol, e4, show k + (n1 - k + q) = n1 + q by omega] at el
    show Q ((failedOf st').isNone) _
    rw [e3, e4]
    refine h _ ?_ (SrA.of ?_) e3 sm.pend
    · show (Array.toList _).Perm _
      rw [el]
      have d1 : (arrOf st).toList = (arrOf st).toList.take k ++ (((arrOf st).extract k n1).toList ++ (((arrOf st).extract n1 (n1 + q)).toList ++ (arrOf st).toList.drop (n1 + q))) := by
        rw [← drop_ext]
        conv => lhs; rw [← List.take_append_drop k (arrOf st).toList]
        congr 1
        rw [drop_ext (i := k) (k := n1 - k), Nat.add_sub_cancel' (by omega)]
      conv => rhs; rw [d1]
      rw [List.append_assoc]
      refine List.Perm.append_left _ ?_
      rw [← List.append_assoc ((arrOf st).extract k n1).toList]
      exact ff.1.append_right _
    · show (Array.toList _).Pairwise kle
      rw [el]
      have memo : ∀ x ∈ out.toList, (∃ j, k ≤ j ∧ j < n1 ∧ kk x = ky (arrOf st) j) ∨ ∃ j, n1 ≤ j ∧ j < n1 + q ∧ kk x = ky (arrOf st) j := by
        intro x hx
        rcases List.mem_append.mp (ff.1.mem_iff.mp hx) with hx | hx
        · rw [show n1 = k + (n1 - k) by omega] at hx
          obtain ⟨j, a1, a2, a3, a4⟩ := mem_ext hx
          exact .inl ⟨j, a1, by omega, a4⟩
        · obtain ⟨j, a1, a2, a3, a4⟩ := mem_ext hx
          exact .inr ⟨j, a1, a2, a4⟩
      rw [List.append_assoc, List.pairwise_append, List.pairwise_append]
      have pk : (arrOf st).toList.Pairwise kle ∨ True := .inr trivial
      refine ⟨?_, ⟨ff.2, ?_, ?_⟩, ?_⟩
      · rw [List.pairwise_iff_getElem]
        intro i j hi' hj' hij
        simp only [List.length_take, Array.length_toList] at hi' hj'
        have := r1 i j (by omega) (by omega)
        rw [ky_eq (by omega), ky_eq (by omega)] at this
        simpa [kle] using this
      · rw [List.pairwise_iff_getElem]
        intro i j hi' hj' hij
        simp only [List.length_drop, Array.length_toList] at hi' hj'
        have := r2 (n1 + q + i) (n1 + q + j) (by omega) (by omega) (by omega)
        rw [ky_eq (by omega), ky_eq (by omega)] at this
        simpa [kle] using this
      · intro x hx y hy
        obtain ⟨j, b1, b2, b3⟩ := mem_drop hy
        unfold kle
        rw [b3]
        have q3' := q3 (j - n1) (by omega) (by omega)
        rw [Nat.add_sub_cancel' (by omega)] at q3'
        rcases memo x hx with ⟨j', a1, a2, a3⟩ | ⟨j', a1, a2, a3⟩
        · rw [a3]
          exact Int.le_trans (r1 j' (n1 - 1) (by omega) (by omega)) q3'
        · rw [a3]
          exact r2 _ _ a1 (by omega) (by omega)
      · intro x hx y hy
        obtain ⟨i, b1, b2, b3⟩ := mem_tk hx
        have ki := k2 i b1
        unfold kle
        rw [b3]
        rcases List.mem_append.mp hy with hy | hy
        · rcases memo y hy with ⟨j', a1, a2, a3⟩ | ⟨j', a1, a2, a3⟩
          · rw [a3]; exact r1 _ _ (by omega) a2
          · rw [a3]; exact Int.le_trans ki (r2 _ _ (Nat.le_refl _) a1 (by omega))
        · obtain ⟨j, a1, a2, a3⟩ := mem_drop hy
          rw [a3]; exact Int.le_trans ki (r2 _ _ (Nat.le_refl _) (by omega) (by omega))
  by_cases e3 : n1 - k ≤ q
  · rw [if_pos e3]
    refine wpS_bind (wpS_mergeLo (st := setPending st _) (a := (arrOf st).extract k n1) (b := (arrOf st).extract n1 (n1 + q)) hk hi.ext hi.ext srx sry (by omega) (by omega) (c1 0 (by omega)) c2 fun out st' sm ff => ?_)
    exact wpS_bind (wpS_modify (wpS_bind (wpS_get (wpS_pure (fin out st' sm ff)))))
  · rw [if_neg e3]
    refine wpS_bind (wpS_mergeHi (st := setPending st _) (a := (arrOf st).extract k n1) (b := (arrOf st).extract n1 (n1 + q)) hk hi.ext hi.ext srx sry (by omega) (by omega) c1 (c2 _ (by omega)) fun out st' sm ff => ?_)
    exact wpS_bind (wpS_modify (wpS_bind (wpS_get (wpS_pure (fin out st' sm ff)))))
end
end Mine.So

namespace Mine.So
open PySem PyProof.Rows

/-! runs from any place on -/
structure SB (a₀ : Array Keyed) (P : Array (Nat × Nat × Nat)) (lo : Nat) (st : SortSt) : Prop where
  perm : (arrOf st).Perm a₀
  kind : kindOf st = oneType'
  failed : failedOf st = none
  pend : pendingOf st = P
  low : ∀ i, i < lo → (arrOf st)[i]? = a₀[i]?
section
variable {a₀ : Array Keyed} {P : Array (Nat × Nat × Nat)} {lo : Nat} {st : SortSt}
theorem SB.size (h : SB a₀ P lo st) : (arrOf st).size = a₀.size := h.perm.size_eq
theorem SB.ai (h : SB a₀ P lo st) (h0 : AI a₀) : AI (arrOf st) := by
  intro i hi
  have hm : (arrOf st)[i] ∈ a₀ := h.perm.mem_iff.mp (by simp)
  rw [Array.mem_iff_getElem] at hm
  obtain ⟨j, hj, e⟩ := hm
  rw [← e]; exact h0 j hj
theorem SB.mir (h : SB a₀ P lo st) {i j : Nat} (hi : lo ≤ i) (hj : j ≤ a₀.size) : SB a₀ P lo (setArr st (mirror (arrOf st) i j ((j - i) / 2))) :=
  ⟨(mirror_perm _ _ _ _).trans h.perm, h.kind, h.failed, h.pend, fun k hk => by
    show (mirror (arrOf st) i j ((j - i) / 2))[k]? = _
    rw [getElem?_mirror_all (by rw [h.size]; exact hj), if_neg (by omega)]; exact h.low k hk⟩
theorem SB.bub (h : SB a₀ P lo st) {i j : Nat} (hi : lo ≤ j) (hij : j ≤ i) (hj : i < a₀.size) : SB a₀ P lo (setArr st (bubble (arrOf st) i (i - j))) :=
  ⟨(bubble_perm _ _ _).trans h.perm, h.kind, h.failed, h.pend, fun k hk => by
    show (bubble (arrOf st) i (i - j))[k]? = _
    rw [getElem?_bubble (by rw [h.size]; exact hj) _ (by omega), if_neg (by omega), if_neg (by omega)]; exact h.low k hk⟩
end
theorem ky_congr {xs zs : Array Keyed} {i j : Nat} (h : xs[i]? = zs[j]?) : ky xs i = ky zs j := by unfold ky; rw [h]
theorem ky_mir {xs : Array Keyed} {i j : Nat} (hj : j ≤ xs.size) (k : Nat) : ky (mirror xs i j ((j - i) / 2)) k = if i ≤ k ∧ k < j then ky xs (i + j - 1 - k) else ky xs k := by
  have e := getElem?_mirror_all (i := i) hj k
  split at e
  · rename_i q; rw [if_pos q]; exact ky_congr e
  · rename_i q; rw [if_neg q]; exact ky_congr e
theorem ky_mir_eq {xs : Array Keyed} {i j : Nat} (hj : j ≤ xs.size) (he : ∀ k, i ≤ k → k < j → ky xs k = ky xs (j - 1)) (k : Nat) : ky (mirror xs i j ((j - i) / 2)) k = ky xs k := by
  rw [ky_mir hj]
  split
  · rw [he _ (by omega) (by omega), he k (by omega) (by omega)]
  · rfl
theorem ky_bub {xs : Array Keyed} {src d : Nat} (hs : src < xs.size) (hd : d ≤ src) (k : Nat) :
    ky (bubble xs src d) k = if k = src - d then ky xs src else if src - d < k ∧ k ≤ src then ky xs (k - 1) else ky xs k := by
  have e := getElem?_bubble hs d hd k
  split at e
  · rename_i q; rw [if_pos q]; exact ky_congr e
  · rename_i q; rw [if_neg q]
    split at e
    · rename_i q2; rw [if_pos q2]; exact ky_congr e
    · rename_i q2; rw [if_neg q2]; exact ky_congr e
noncomputable def Up (a : Array Keyed) (lo n : Nat) : Prop := ∀ i j, lo ≤ i → i ≤ j → j < lo + n → ky a i ≤ ky a j
noncomputable def Dn (a : Array Keyed) (lo n : Nat) : Prop := ∀ i j, lo ≤ i → i ≤ j → j < lo + n → ky a j ≤ ky a i
theorem Up.one {a : Array Keyed} {lo : Nat} : Up a lo 1 := fun i j h1 h2 h3 => by
  have : i = j := by omega
  subst this; exact Int.le_refl _
theorem Up.succ {a : Array Keyed} {lo n : Nat} (h : Up a lo n) (hn : 0 < n) (l : ky a (lo + n - 1) ≤ ky a (lo + n)) : Up a lo (n + 1) := fun i j h1 h2 h3 => by
  by_cases q : j < lo + n
  · exact h i j h1 h2 q
  · have e : j = lo + n := by omega
    subst e
    by_cases q2 : i = lo + n
    · subst q2; exact Int.le_refl _
    · exact Int.le_trans (h i (lo + n - 1) h1 (by omega) (by omega)) l
theorem Dn.succ {a : Array Keyed} {lo n : Nat} (h : Dn a lo n) (hn : 0 < n) (l : ky a (lo + n) ≤ ky a (lo + n - 1)) : Dn a lo (n + 1) := fun i j h1 h2 h3 => by
  by_cases q : j < lo + n
  · exact h i j h1 h2 q
  · have e : j = lo + n := by omega
    subst e
    by_cases q2 : i = lo + n
    · subst q2; exact Int.le_refl _
    · exact Int.le_trans l (h i (lo + n - 1) h1 (by omega) (by omega))
theorem Dn.congr {a b : Array Keyed} {lo n : Nat} (h : Dn a lo n) (e : ∀ k, ky b k = ky a k) : Dn b lo n := fun i j h1 h2 h3 => by rw [e, e]; exact h i j h1 h2 h3
theorem Dn.up {a : Array Keyed} {lo n : Nat} (h : Dn a lo n) (hs : lo + n ≤ a.size) : Up (mirror a lo (lo + n) ((lo + n - lo) / 2)) lo n := fun i j h1 h2 h3 => by
  rw [ky_mir hs, ky_mir hs, if_pos (by omega), if_pos (by omega)]
  exact h _ _ (by omega) (by omega) (by omega)

inductive UI (a₀ : Array Keyed) (P : Array (Nat × Nat × Nat)) (lo x : Nat) (c : Option (Option Nat) × Nat) (st : SortSt) : Prop
  | mk (e : c = (none, x)) (B : SB a₀ P lo st) (u : Up (arrOf st) lo x)
inductive UQ (a₀ : Array Keyed) (P : Array (Nat × Nat × Nat)) (lo a b : Nat) (c : Option (Option Nat) × Nat) (st : SortSt) : Prop
  | mk (n : Nat) (e : c = (none, n)) (B : SB a₀ P lo st) (l1 : a ≤ n) (l2 : n ≤ b) (u : Up (arrOf st) lo n) (o : n = b ∨ ky (arrOf st) (lo + n) < ky (arrOf st) (lo + n - 1))
noncomputable def Eqs (a : Array Keyed) (lo m neq : Nat) : Prop := ∀ i, lo + m - (neq + 1) ≤ i → i < lo + m → ky a i = ky a (lo + m - 1)
inductive DI (a₀ : Array Keyed) (P : Array (Nat × Nat × Nat)) (lo x : Nat) (c : Option (Option Nat) × Nat × Nat) (st : SortSt) : Prop
  | mk (neq : Nat) (e : c = (none, x, neq)) (B : SB a₀ P lo st) (d : Dn (arrOf st) lo x) (h : neq + 1 ≤ x) (q : Eqs (arrOf st) lo x neq)
inductive DQ (a₀ : Array Keyed) (P : Array (Nat × Nat × Nat)) (lo a b : Nat) (c : Option (Option Nat) × Nat × Nat) (st : SortSt) : Prop
  | mk (m neq : Nat) (e : c = (none, m, neq)) (l1 : a ≤ m) (l2 : m ≤ b) (B : SB a₀ P lo st) (d : Dn (arrOf st) lo m) (h : neq + 1 ≤ m) (q : Eqs (arrOf st) lo m neq)
theorem Eqs.zero {a : Array Keyed} {lo m : Nat} : Eqs a lo m 0 := fun i q1 q2 => by congr 1; omega
theorem Eqs.succ {a : Array Keyed} {lo m neq : Nat} (h : Eqs a lo m neq) (hm : 0 < m) (e : ky a (lo + m) = ky a (lo + m - 1)) : Eqs a lo (m + 1) (neq + 1) := fun i q1 q2 => by
  rw [show lo + (m + 1) - 1 = lo + m by omega]
  by_cases hix : i = lo + m
  · subst hix; rfl
  · rw [e]; exact h i (by omega) (by omega)
theorem Up.ins {xs : Array Keyed} {lo k l : Nat} (hks : lo + k < xs.size) (hl : l ≤ k) (u : Up xs lo k) (hlo : ∀ i, lo ≤ i → i < lo + l → ky xs i ≤ ky xs (lo + k)) (hhi : ∀ i, lo + l ≤ i → i < lo + k → ky xs (lo + k) < ky xs i) :
    Up (bubble xs (lo + k) (lo + k - (lo + l))) lo (k + 1) := by
  obtain ⟨p, hp⟩ : ∃ p, p = lo + l := ⟨_, rfl⟩
  have hpk : p ≤ lo + k := by omega
  have hlp : lo ≤ p := by omega
  have hd : lo + k - (lo + k - (lo + l)) = p := by omega
  rw [← hp] at hlo hhi
  have bl : ∀ t, t < p → ky (bubble xs (lo + k) (lo + k - (lo + l))) t = ky xs t := fun t ht => by
    rw [ky_bub hks (Nat.sub_le _ _), hd, if_neg (Nat.ne_of_lt ht), if_neg fun z => Nat.lt_asymm ht z.1]
  have be : ky (bubble xs (lo + k) (lo + k - (lo + l))) p = ky xs (lo + k) := by rw [ky_bub hks (Nat.sub_le _ _), hd, if_pos rfl]
  have bg : ∀ t, p < t → t ≤ lo + k → ky (bubble xs (lo + k) (lo + k - (lo + l))) t = ky xs (t - 1) := fun t ht h2 => by
    rw [ky_bub hks (Nat.sub_le _ _), hd, if_neg (Nat.ne_of_gt ht), if_pos ⟨ht, h2⟩]
  clear hd hp hl
  intro i j h1 h2 h3
  have h3 : j ≤ lo + k := Nat.le_of_lt_succ h3
  rcases Nat.lt_trichotomy i p with a | a | a
  · rw [bl i a]
    rcases Nat.lt_trichotomy j p with b | b | b
    · rw [bl j b]; exact u i j h1 h2 (Nat.lt_of_lt_of_le b hpk)
    · rw [b, be]; exact hlo i h1 a
    · rw [bg j b h3]; exact u i (j - 1) h1 (by omega) (by omega)
  · rw [a, be]
    rcases Nat.lt_trichotomy j p with b | b | b
    · omega
    · rw [b, be]; exact Int.le_refl _
    · rw [bg j b h3]; exact Int.le_of_lt (hhi (j - 1) (by omega) (by omega))
  · rw [bg i a (Nat.le_trans h2 h3), bg j (Nat.lt_of_lt_of_le a h2) h3]
    exact u (i - 1) (j - 1) (by omega) (by omega) (by omega)
section
variable {prog : Program} {w : World} {A : Around} {E : Value → Shared → Prop} {s : Shared} {a₀ : Array Keyed} {P : Array (Nat × Nat × Nat)} {lo : Nat}
theorem wpS_ltS {st : SortSt} {i j : Nat} {Q : Option Bool → SortSt → Prop} (hB : SB a₀ P lo st) (h0 : AI a₀) (hi : i < a₀.size) (hj : j < a₀.size)
    (h : Q (some (decide (ky (arrOf st) i < ky (arrOf st) j))) st) : wpS (model prog w) A E s (ltAt' i j) Q st := by
  have hi' : i < (arrOf st).size := by rw [hB.size]; exact hi
  have hj' : j < (arrOf st).size := by rw [hB.size]; exact hj
  refine wpS_bind (wpS_get (wpS_bind (wpS_elem (a := arrOf st) hi' (wpS_bind (wpS_elem (a := arrOf st) hj' (wpS_lt hB.kind (hB.ai h0 _ _) (hB.ai h0 _ _) ?_))))))
  rw [ky_eq hi', ky_eq hj'] at h
  exact h
theorem wpS_rev {st : SortSt} {i j : Nat} {Q : Unit → SortSt → Prop} (h : Q () (setArr st (mirror (arrOf st) i j ((j - i) / 2)))) : wpS (model prog w) A E s (reverseSlice' i j) Q st := wpS_modify h
theorem wpS_mv {st : SortSt} {i j : Nat} {Q : Unit → SortSt → Prop} (h : Q () (setArr st (bubble (arrOf st) i (i - j)))) : wpS (model prog w) A E s (moveDown' i j) Q st := wpS_modify h

theorem wpS_binS {st : SortSt} {n ok : Nat} {Q : Bool → SortSt → Prop} (h0 : AI a₀) (hn : lo + n ≤ a₀.size) (hok : ok ≤ n) (hB : SB a₀ P lo st) (hs : Up (arrOf st) lo ok)
    (h : ∀ st', SB a₀ P lo st' → Up (arrOf st') lo n → Q true st') : wpS (model prog w) A E s (binarySort' lo n ok) Q st := by
  refine wpS_bind (wpS_mono (wpS_forRange (I := fun k c st' => c = (none, ()) ∧ SB a₀ P lo st' ∧ Up (arrOf st') lo (min k n))
    (Q := fun c st' => c = (none, ()) ∧ SB a₀ P lo st' ∧ Up (arrOf st') lo n) ?_ ?_ ?_) ?_)
  · rintro k c st' hak hkn ⟨rfl, hB', hs'⟩
    rw [show min k n = k by omega] at hs'
    refine wpS_bind (wpS_mono (wpS_forRange (I := fun x c st'' => st'' = st' ∧ ∃ l r, c = (none, l, r) ∧ l ≤ r ∧ r ≤ k ∧ r + x ≤ k + l ∧
        (∀ i, lo ≤ i → i < lo + l → ky (arrOf st') i ≤ ky (arrOf st') (lo + k)) ∧ (∀ i, lo + r ≤ i → i < lo + k → ky (arrOf st') (lo + k) < ky (arrOf st') i))
      (Q := fun c st'' => st'' = st' ∧ ∃ l r, c = (none, l, r) ∧ l ≤ k ∧
        (∀ i, lo ≤ i → i < lo + l → ky (arrOf st') i ≤ ky (arrOf st') (lo + k)) ∧ (∀ i, lo + l ≤ i → i < lo + k → ky (arrOf st') (lo + k) < ky (arrOf st') i)) ?_ ?_ ?_) ?_)
    · rintro x c st'' _ hxk ⟨rfl, l, r, rfl, hlr, hrk, hm, hlo, hhi⟩
      dsimp only
      by_cases hge : l ≥ r
      · rw [if_pos hge]
        have : l = r := by omega
        subst this
        exact wpS_pure ⟨rfl, l, l, rfl, hrk, hlo, hhi⟩
      · rw [if_neg hge]
        refine wpS_bind (wpS_ltS hB' h0 (by omega) (by omega) ?_)
        by_cases hless : ky (arrOf st'') (lo + k) < ky (arrOf st'') (lo + (l + r) / 2)
        · simp only [hless, decide_true, if_true]
          exact wpS_pure ⟨rfl, l, (l + r) / 2, rfl, by omega, by omega, by omega, hlo, fun i h1 h2 => Int.lt_of_lt_of_le hless (hs' _ _ (by omega) h1 h2)⟩
        · simp only [hless, decide_false, Bool.false_eq_true, if_false]
          exact wpS_pure ⟨rfl, (l + r) / 2 + 1, r, rfl, by omega, by omega, by omega, fun i h1 h2 => Int.le_trans (hs' i (lo + (l + r) / 2) h1 (by omega) (by omega)) (Int.not_lt.mp hless), hhi⟩
    · rintro c st'' ⟨rfl, l, r, rfl, hlr, hrk, hm, hlo, hhi⟩
      rw [Nat.zero_max] at hm
      have : l = r := by omega
      subst this
      exact ⟨rfl, l, l, rfl, hrk, hlo, hhi⟩
    · exact ⟨rfl, 0, k, rfl, by omega, by omega, by omega, fun i h1 h2 => by omega, fun i h1 h2 => by omega⟩
    · rintro c st'' ⟨rfl, l, r, rfl, hlk, hlo, hhi⟩
      dsimp only
      refine wpS_bind (wpS_mv (wpS_pure ⟨rfl, hB'.bub (by omega) (by omega) (by omega), ?_⟩))
      rw [show min (k + 1) n = k + 1 from Nat.min_eq_left hkn]
      exact hs'.ins (by rw [hB'.size]; omega) hlk hlo hhi
  · rintro c st' ⟨hc, hB', hs'⟩
    refine ⟨hc, hB', ?_⟩
    rwa [show min (max (max ok 1) n) n = n by omega] at hs'
  · refine ⟨rfl, hB, fun i j h1 h2 h3 => ?_⟩
    by_cases q : ok = 0
    · have : i = j := by omega
      subst this; exact Int.le_refl _
    · exact hs i j h1 h2 (by omega)
  · rintro c st' ⟨rfl, hB', hs'⟩
    exact wpS_pure (h st' hB' hs')

theorem wpS_runS {st : SortSt} {nrem : Nat} {Q : Option Nat → SortSt → Prop} (h0 : AI a₀) (hn : lo + nrem ≤ a₀.size) (h1 : 1 ≤ nrem) (hB : SB a₀ P lo st)
    (h : ∀ m st', SB a₀ P lo st' → 1 ≤ m → m ≤ nrem → Up (arrOf st') lo m → Q (some m) st') : wpS (model prog w) A E s (countRun' lo nrem) Q st := by
  have pl : ∀ x, x < nrem → lo + x < a₀.size ∧ lo + x - 1 < a₀.size := fun x hx => by omega
  have mx : ∀ x, x ≤ nrem → max x nrem = nrem := fun x hx => Nat.max_eq_right hx
  refine wpS_bind (wpS_mono (wpS_forRange (I := fun x c st' => UI a₀ P lo x c st') (Q := fun c st' => UQ a₀ P lo 1 nrem c st') ?_ ?_ ⟨rfl, hB, .one⟩) ?_)
  · rintro x c st' hax hxn ⟨rfl, hB, hs'⟩
    refine wpS_bind (wpS_ltS hB h0 (pl x hxn).1 (pl x hxn).2 ?_)
    refine wpS_if (fun l => wpS_pure ⟨x, rfl, hB, hax, Nat.le_of_lt hxn, hs', .inr (of_decide_eq_true l)⟩) fun l => wpS_pure ⟨rfl, hB, hs'.succ hax (Int.not_lt.mp fun z => l (decide_eq_true z))⟩
  · rintro c st' ⟨rfl, hB, hs'⟩
    rw [mx 1 h1] at hs' ⊢
    exact ⟨nrem, rfl, hB, h1, Nat.le_refl _, hs', .inl rfl⟩
  rintro c st' ⟨n, rfl, hB, n1, n2, hs, hor⟩
  refine wpS_if (fun en => wpS_pure (h n st' hB n1 n2 hs)) fun en => ?_
  have en : ¬ n = nrem := fun z => en (beq_iff_eq.mpr z)
  have hlt := hor.resolve_left en
  have hsz := hB.size
  dsimp -zeta only
  extract_lets n' neq0 jp
  have H : ∀ u st2, SB a₀ P lo st2 → Dn (arrOf st2) lo (n + 1) → wpS (model prog w) A E s (jp u) Q st2 := by
    clear hB hs hor hlt hsz
    intro u st2 hB2 hD
    refine wpS_bind (wpS_lift (wpAny_rule ⟨rfl, ?_⟩))
    refine wpS_bind (wpS_mono (wpS_forRange (a := n + 1) (I := fun x c st'' => DI a₀ P lo x c st'') (Q := fun c st'' => DQ a₀ P lo (n + 1) nrem c st'') ?_ ?_ ⟨0, rfl, hB2, hD, by omega, .zero⟩) ?_)
    · rintro x c st2 hax hxn ⟨neq, rfl, hB', hs', hq, he⟩
      have hsz' := hB'.size
      have p := pl x hxn
      refine wpS_bind (wpS_ltS hB' h0 p.1 p.2 ?_)
      refine wpS_if (fun l => ?_) fun l => ?_
      · have hD2 := hs'.succ (by omega) (Int.le_of_lt (of_decide_eq_true l))
        refine wpS_if (fun z => wpS_bind (wpS_rev (wpS_pure ⟨0, rfl, hB'.mir (i := lo + x - (neq + 1)) (j := lo + x) (by omega) (by omega), hD2.congr (ky_mir_eq (i := lo + x - (neq + 1)) (j := lo + x) (by omega) he), by omega, .zero⟩))) fun z => wpS_pure ⟨0, rfl, hB', hD2, by omega, .zero⟩
      · have l := Int.not_lt.mp fun z => l (decide_eq_true z)
        refine wpS_bind (wpS_ltS hB' h0 p.2 p.1 ?_)
        refine wpS_if (fun z => wpS_pure ⟨x, neq, rfl, hax, Nat.le_of_lt hxn, hB', hs', hq, he⟩) fun z => ?_
        have z := Int.not_lt.mp fun y => z (decide_eq_true y)
        exact wpS_pure ⟨neq + 1, rfl, hB', hs'.succ (by omega) z, by omega, he.succ (by omega) (Int.le_antisymm z l)⟩
    · rintro c st2 ⟨neq, rfl, hB', hs', hq, he⟩
      rw [mx (n + 1) (by omega)] at hs' hq he ⊢
      exact ⟨nrem, neq, rfl, by omega, Nat.le_refl _, hB', hs', hq, he⟩
    rintro c st2 ⟨m, neq, rfl, m1, m2, hB', hs', hq, he⟩
    have hsz' := hB'.size
    dsimp -zeta only
    extract_lets r4 s4 n4 q4 jp2
    have H2 : ∀ u st3, SB a₀ P lo st3 → Dn (arrOf st3) lo m → wpS (model prog w) A E s (jp2 u) Q st3 := by
      clear hB' hs' hq he hsz'
      intro u st3 hB3 hs3
      have hz3 := hB3.size
      refine wpS_bind (wpS_rev ?_)
      have hB4 := hB3.mir (i := lo) (j := lo + m) (Nat.le_refl _) (by omega)
      have hs4 := hs3.up (by rw [hz3]; omega)
      refine wpS_bind (wpS_mono (wpS_forRange (a := m) (I := fun x c st' => UI a₀ P lo x c st') (Q := fun c st' => UQ a₀ P lo m nrem c st') ?_ ?_ ⟨rfl, hB4, hs4⟩) ?_)
      · rintro x c st3 hax hxn ⟨rfl, hB5, hs5⟩
        refine wpS_bind (wpS_ltS hB5 h0 (pl x hxn).1 (pl x hxn).2 ?_)
        refine wpS_if (fun l => wpS_pure ⟨x, rfl, hB5, hax, Nat.le_of_lt hxn, hs5, .inr (of_decide_eq_true l)⟩) fun l => wpS_pure ⟨rfl, hB5, hs5.succ (by omega) (Int.not_lt.mp fun z => l (decide_eq_true z))⟩
      · rintro c st3 ⟨rfl, hB5, hs5⟩
        rw [mx m m2] at hs5 ⊢
        exact ⟨nrem, rfl, hB5, m2, Nat.le_refl _, hs5, .inl rfl⟩
      · rintro c st3 ⟨n', rfl, hB5, p1, p2, hs5, _⟩
        exact wpS_pure (h n' st3 hB5 (by omega) p2 hs5)
    exact wpS_if (fun z => wpS_bind (wpS_rev (H2 () _ (hB'.mir (i := lo + m - (neq + 1)) (j := lo + m) (by omega) (by omega)) (hs'.congr (ky_mir_eq (i := lo + m - (neq + 1)) (j := lo + m) (by omega) he))))) fun z => H2 () _ hB' hs'
  refine wpS_if (fun hgt => ?_) fun hgt => H () _ hB (Dn.succ (fun i j q1 q2 q3 => ?_) n1 (Int.le_of_lt hlt))
  · have hgt : n > 1 := hgt
    refine wpS_bind (wpS_ltS hB h0 (by omega) (by omega) ?_)
    refine wpS_if (fun _ => wpS_pure (h n st' hB n1 n2 hs)) fun hrose => ?_
    have hrose := Int.not_lt.mp fun z => hrose (decide_eq_true z)
    have hall : ∀ k, lo ≤ k → k < lo + n → ky (arrOf st') k = ky (arrOf st') (lo + n - 1) := by
      intro k q1 q2
      have a1 := hs lo k (Nat.le_refl _) q1 q2
      have a2 := hs k (lo + n - 1) q1 (by omega) (by omega)
      exact Int.le_antisymm a2 (Int.le_trans hrose a1)
    have hD1 : Dn (arrOf st') lo (n + 1) := Dn.succ (fun i j q1 q2 q3 => by rw [hall i q1 (by omega), hall j (by omega) q3]; exact Int.le_refl _) n1 (Int.le_of_lt hlt)
    exact wpS_bind (wpS_rev (H () _ (hB.mir (i := lo) (j := lo + n) (Nat.le_refl _) (by omega)) (hD1.congr (ky_mir_eq (i := lo) (j := lo + n) (by omega) hall))))
  · have hgt : ¬ n > 1 := hgt
    have : i = j := by omega
    subst this; exact Int.le_refl _
end
end Mine.So

namespace Mine.So
open PySem PyProof.Rows

noncomputable def AllUp (a₀ : Array Keyed) (st : SortSt) : Prop := (arrOf st).Perm a₀ ∧ failedOf st = none ∧ SrA (arrOf st)
/-- two runs that wait -/
structure Two (a₀ : Array Keyed) (n1 n2 pw : Nat) (st : SortSt) : Prop where
  perm : (arrOf st).Perm a₀
  kind : kindOf st = oneType'
  failed : failedOf st = none
  pend : pendingOf st = #[(0, n1, pw), (n1, n2, 0)]
  sz : a₀.size = n1 + n2
  p1 : 0 < n1
  p2 : 0 < n2
  u1 : Up (arrOf st) 0 n1
  u2 : Up (arrOf st) n1 n2

theorem minRun_128 {n : Nat} (h : 64 ≤ n) (h' : n < 128) : minRun' n n 0 = n / 2 + n % 2 := by
  obtain ⟨f, hf⟩ : ∃ f, n = f + 1 + 1 := ⟨n - 2, by omega⟩
  have : minRun' (f + 1 + 1) n 0 = n / 2 + n % 2 := by
    rw [minRun'_succ, if_neg (by omega), minRun'_succ, if_pos (by omega)]
    omega
  rwa [← hf] at this

inductive RI (a₀ : Array Keyed) (mr x : Nat) (c : Option Unit × Nat) (st : SortSt) : Prop
  | zero (h : x = 0) (e : c = (none, 0)) (B : SB a₀ #[] 0 st)
  | one (h : x = 1) (n1 : Nat) (e : c = (none, n1)) (B : SB a₀ #[(0, n1, 0)] 0 st) (u : Up (arrOf st) 0 n1) (l1 : mr ≤ n1) (l2 : n1 ≤ a₀.size)
  | two (h : x = 2) (n : Nat) (e : c = (none, n)) (ge : n ≥ a₀.size) (n1 n2 pw : Nat) (T : Two a₀ n1 n2 pw st)
inductive RQ (a₀ : Array Keyed) (c : Option Unit × Nat) (st : SortSt) : Prop
  | up (l : Nat) (e : c = (none, l)) (u : AllUp a₀ st) (h : (pendingOf st).size ≤ 1)
  | two (l : Nat) (e : c = (none, l)) (n1 n2 pw : Nat) (T : Two a₀ n1 n2 pw st)
section
variable {prog : Program} {w : World} {A : Around} {E : Value → Shared → Prop} {s : Shared} {a₀ : Array Keyed}
theorem wpS_runs {st : SortSt} {Q : Unit → SortSt → Prop} (h0 : AI (arrOf st)) (hB : SB (arrOf st) #[] 0 st) (h2 : 64 ≤ (arrOf st).size) (h128 : (arrOf st).size < 128)
    (h : ∀ st', AllUp (arrOf st) st' → Q () st') : wpS (model prog w) A E s sortRuns' Q st := by
  rw [sortRuns'_eq]
  have hmr := minRun_128 h2 h128
  refine wpS_bind (wpS_get ?_)
  refine wpS_bind (wpS_mono (wpS_forRange (I := fun x c st' => RI (arrOf st) (minRun' (arrOf st).size (arrOf st).size 0) x c st') (Q := fun c st' => RQ (arrOf st) c st') ?_ ?_ (.zero rfl rfl hB)) ?_)
  · rintro x c st1 _ hx (⟨rfl, rfl, hB1⟩ | ⟨rfl, n1, rfl, hB1, u1, l1, l2⟩ | ⟨rfl, n, rfl, ge, n1, n2, pw, T⟩)
    · refine wpS_if (fun z => absurd z (by omega)) fun _ => ?_
      refine wpS_bind (wpS_runS h0 (by omega) (by omega) hB1 fun m st2 hB2 m1 m2 u => ?_)
      dsimp -zeta only
      extract_lets n0 jp
      have H : ∀ Q' n st3, SB (arrOf st) #[] 0 st3 → Up (arrOf st3) 0 n → minRun' (arrOf st).size (arrOf st).size 0 ≤ n → n ≤ (arrOf st).size →
          (∀ c' st', RI (arrOf st) (minRun' (arrOf st).size (arrOf st).size 0) (0 + 1) c' st' → Q' (.yield c') st') → wpS (model prog w) A E s (jp () n) Q' st3 := by
        intro Q' n st3 a1 a2 a3 a4 hQ
        refine wpS_bind (wpS_get ?_)
        have eb : (pendingOf st3).back? = none := by rw [a1.pend]; rfl
        simp -zeta only [eb]
        refine wpS_bind (wpS_modify (wpS_pure (hQ _ _ (.one rfl n (by rw [Nat.zero_add]) ⟨a1.perm, a1.kind, a1.failed, ?_, a1.low⟩ a2 a3 a4))))
        show (pendingOf st3).push _ = _
        rw [a1.pend]; rfl
      refine wpS_if (fun lt => ?_) fun lt => ?_
      · have lt : m < minRun' (arrOf st).size (arrOf st).size 0 := lt
        refine wpS_bind (wpS_lift (wpAny_rule ⟨rfl, ?_⟩))
        refine wpS_bind (wpS_binS (n := min ((arrOf st).size - 0) (minRun' (arrOf st).size (arrOf st).size 0)) h0 (by omega) (by omega) hB2 u fun st3 hB3 u3 => ?_)
        exact wpS_if (fun z => nomatch z) fun _ => H _ _ _ hB3 u3 (by omega) (by omega) fun _ _ z => z
      · have lt : ¬ m < minRun' (arrOf st).size (arrOf st).size 0 := lt
        exact H _ _ _ hB2 u (by omega) (by omega) fun _ _ z => z
    · refine wpS_if (fun ge => ?_) fun ge => ?_
      · have ge : n1 ≥ (arrOf st).size := ge
        refine wpS_pure (.up _ rfl ⟨hB1.perm, hB1.failed, fun i j hij hj => u1 i j (Nat.zero_le _) hij ?_⟩ (by rw [hB1.pend]; exact Nat.le_refl 1))
        rw [hB1.size] at hj; omega
      have ge : ¬ n1 ≥ (arrOf st).size := ge
      have h0' : AI (arrOf st1) := hB1.ai h0
      have hz1 : (arrOf st1).size = (arrOf st).size := hB1.size
      have hC : SB (arrOf st1) #[(0, n1, 0)] n1 st1 := ⟨.refl _, hB1.kind, hB1.failed, hB1.pend, fun _ _ => rfl⟩
      refine wpS_bind (wpS_runS (nrem := (arrOf st).size - n1) h0' (by omega) (by omega) hC fun m st2 hB2 m1 m2 u => ?_)
      dsimp -zeta only
      extract_lets n0 jp
      have H : ∀ Q' n st3, SB (arrOf st1) #[(0, n1, 0)] n1 st3 → Up (arrOf st3) n1 n → n = (arrOf st).size - n1 →
          (∀ c' st', RI (arrOf st) (minRun' (arrOf st).size (arrOf st).size 0) (1 + 1) c' st' → Q' (.yield c') st') → wpS (model prog w) A E s (jp () n) Q' st3 := by
        intro Q' n st3 a1 a2 en hQ
        refine wpS_bind (wpS_get ?_)
        have eb : (pendingOf st3).back? = some (0, n1, 0) := by rw [a1.pend]; rfl
        simp -zeta only [eb]
        refine wpS_bind (wpS_mono (wpS_forRange (I := fun _ c st'' => st'' = st3 ∧ c = (none, ())) (Q := fun c st'' => st'' = st3 ∧ c = (none, ())) ?_ (fun _ _ hh => hh) ⟨rfl, rfl⟩) ?_)
        · rintro y c st4 _ _ ⟨rfl, rfl⟩
          refine wpS_bind (wpS_get ?_)
          dsimp only
          rw [if_neg (by rw [a1.pend]; exact Nat.lt_irrefl 1)]
          exact wpS_pure ⟨rfl, rfl⟩
        · rintro c st4 ⟨rfl, rfl⟩
          refine wpS_bind (wpS_modify (wpS_bind (wpS_modify (wpS_pure (hQ _ _ (.two rfl _ rfl (by omega) n1 n (power' (arrOf st).size (2 * 0 + n1) (2 * 0 + n1 + n1 + n) (arrOf st).size) ⟨a1.perm.trans hB1.perm, a1.kind, a1.failed, ?_, by omega, by omega, by omega, fun i j q1 q2 q3 => ?_, a2⟩))))))
          · show (Array.modify (pendingOf st4) _ _).push _ = _
            rw [a1.pend, ← Array.toList_inj]; simp
          · show ky (arrOf st4) i ≤ ky (arrOf st4) j
            rw [ky_congr (a1.low i (by omega)), ky_congr (a1.low j (by omega))]
            exact u1 i j q1 q2 q3
      refine wpS_if (fun lt => ?_) fun lt => ?_
      · have lt : m < minRun' (arrOf st).size (arrOf st).size 0 := lt
        refine wpS_bind (wpS_lift (wpAny_rule ⟨rfl, ?_⟩))
        refine wpS_bind (wpS_binS (n := min ((arrOf st).size - n1) (minRun' (arrOf st).size (arrOf st).size 0)) h0' (by omega) (by omega) hB2 u fun st3 hB3 u3 => ?_)
        exact wpS_if (fun z => nomatch z) fun _ => H _ _ _ hB3 u3 (by omega) fun _ _ z => z
      · have lt : ¬ m < minRun' (arrOf st).size (arrOf st).size 0 := lt
        exact H _ _ _ hB2 u (by show m = _; omega) fun _ _ z => z
    · exact wpS_if (fun _ => wpS_pure (.two _ rfl _ _ _ T)) fun z => absurd ge z
  · rintro c st1 (⟨hx, _⟩ | ⟨hx, _⟩ | ⟨hx, _⟩) <;> omega
  rintro c st1 hq
  have hl : ∃ l, c = (none, l) := by rcases hq with ⟨l, e, _, _⟩ | ⟨l, e, _, _, _, _⟩ <;> exact ⟨l, e⟩
  obtain ⟨l, rfl⟩ := hl
  have hh : (AllUp (arrOf st) st1 ∧ (pendingOf st1).size ≤ 1) ∨ ∃ n1 n2 pw, Two (arrOf st) n1 n2 pw st1 := by
    rcases hq with ⟨_, _, a, b⟩ | ⟨_, _, a, b, c, d⟩
    · exact .inl ⟨a, b⟩
    · exact .inr ⟨a, b, c, d⟩
  refine wpS_bind (wpS_mono (wpS_forRange (I := fun x c st' => c = (none, ()) ∧ ((AllUp (arrOf st) st' ∧ (pendingOf st').size ≤ 1) ∨ (x = 0 ∧ ∃ n1 n2 pw, Two (arrOf st) n1 n2 pw st')))
    (Q := fun c st' => c = (none, ()) ∧ AllUp (arrOf st) st') ?_ ?_ ⟨rfl, hh.elim .inl fun q => .inr ⟨rfl, q⟩⟩) ?_)
  · rintro x c st2 _ hx ⟨rfl, ⟨au, pz⟩ | ⟨rfl, n1, n2, pw, T⟩⟩
    · refine wpS_bind (wpS_get (wpS_if (fun _ => wpS_pure ⟨rfl, au⟩) fun z => absurd pz z))
    · refine wpS_bind (wpS_get ?_)
      simp only [T.pend]
      rw [if_neg (by simp)]
      have hz : (arrOf st2).size = n1 + n2 := T.perm.size_eq.trans T.sz
      have hAI : AI (arrOf st2) := SB.ai (P := pendingOf st2) (lo := 0) ⟨T.perm, T.kind, T.failed, rfl, fun _ h => absurd h (Nat.not_lt_zero _)⟩ h0
      refine wpS_bind (wpS_mergeAt T.kind T.failed T.pend hAI hz T.p1 T.p2 (fun i j q1 q2 => T.u1 i j (Nat.zero_le _) q1 (by omega)) (fun i j q1 q2 q3 => T.u2 i j q1 q2 q3) fun st3 a1 a2 a3 a4 => ?_)
      exact wpS_pure ⟨rfl, .inl ⟨⟨(Array.perm_iff_toList_perm.mpr a1).trans T.perm, a3, a2⟩, by rw [a4]; exact Nat.le_refl 1⟩⟩
  · rintro c st2 ⟨rfl, ⟨au, pz⟩ | ⟨hx, _⟩⟩
    · exact ⟨rfl, au⟩
    · omega
  · rintro c st2 ⟨rfl, au⟩
    exact wpS_pure (h _ au)
end
end Mine.So

namespace Mine.So
open PySem PyProof.Rows PySem.Calls

theorem sortedHeap_at {h : Heap} {a : Addr} {vs : List Value} {n : Nat} (out : Array Value) (ho : h.get? a = some (seqObj "list" vs.toArray n)) : ∃ e, (sortedHeap h a vs out).get? a = some (seqObj "list" out e) := by
  have ha := Heap.lt_size ho
  obtain ⟨e1, ho1⟩ : ∃ e1, (h.update a (Obj.mapSeq fun _ => #[])).get? a = some (seqObj "list" #[] e1) := ⟨_, get?_update_seq ho (fun _ => #[])⟩
  have ho6 : (((h.update a (Obj.mapSeq fun _ => #[])).push (seqObj "tuple" vs.toArray 0)).push (seqObj "list" #[] 0)).get? a = some (seqObj "list" #[] e1) := by
    rw [Heap.get?_push_ne _ _ _ (by rw [size_push', Heap.size_update]; exact Nat.ne_of_lt (Nat.lt_succ_of_lt ha)), Heap.get?_push_ne _ _ _ (by rw [Heap.size_update]; exact Nat.ne_of_lt ha)]
    exact ho1
  exact ⟨_, get?_update_seq ho6 (fun _ => out)⟩
theorem sortedHeap_old {h : Heap} {a b : Addr} {vs : List Value} {out : Array Value} {o : Obj} (hb : b ≠ a) (ho : h.get? b = some o) : (sortedHeap h a vs out).get? b = some o := by
  unfold sortedHeap
  rw [Heap.get?_update_ne _ _ _ _ hb]
  refine Heap.get?_push_of_some _ (Heap.get?_push_of_some _ ?_)
  rw [Heap.get?_update_ne _ _ _ _ hb]
  exact ho

section
variable {prog : Program} {w : World} {A : Around} {E : Value → Shared → Prop} {s : Shared}
theorem list_sort_128 {a : Addr} {vs : List Value} {ns : List Int} {n : Nat} {P : Fin → Shared → Prop} (ho : s.heap.get? a = some (seqObj "list" vs.toArray n)) (hI : IntsAre vs ns) (h128 : vs.length < 128)
    (h : ∀ (out : Array Value) (ns' : List Int), IntsAre out.toList ns' → ns'.Perm ns → ns'.Pairwise (· ≤ ·) → P (.done (.ret .none)) { s with heap := sortedHeap s.heap a vs out }) :
    wpAny (model prog w) A (Builtin.«list.sort» ⟨[.ref a], []⟩) P E s := by
  rcases Nat.lt_or_ge vs.length 64 with h64 | h64
  · exact list_sort_tree ho hI h64 h
  rw [list_sort_plain]
  have ha : a < s.heap.objs.size := Heap.lt_size ho
  refine wpAny_bind (listItems_at ho rfl ?_)
  refine wpAny_bind (listUpdate_at ho rfl ?_)
  obtain ⟨e1, ho1⟩ : ∃ e1, (s.heap.update a (Obj.mapSeq fun _ => #[])).get? a = some (seqObj "list" #[] e1) := ⟨_, get?_update_seq ho (fun _ => #[])⟩
  refine wpAny_bind (seqEpoch_at ho1 rfl ?_)
  refine wpAny_bind (wpAny_newTuple ?_)
  refine wpAny_bind (wpAny_newList ?_)
  refine wpAny_holding ?_
  have ho6 : (((s.heap.update a (Obj.mapSeq fun _ => #[])).push (seqObj "tuple" vs.toArray 0)).push (seqObj "list" #[] 0)).get? a = some (seqObj "list" #[] e1) := by
    rw [Heap.get?_push_ne _ _ _ (by rw [size_push', Heap.size_update]; exact Nat.ne_of_lt (Nat.lt_succ_of_lt ha)), Heap.get?_push_ne _ _ _ (by rw [Heap.size_update]; exact Nat.ne_of_lt ha)]
    exact ho1
  show wpAny (model prog w) A _ P E { s with heap := ((s.heap.update a (Obj.mapSeq fun _ => #[])).push (seqObj "tuple" vs.toArray 0)).push (seqObj "list" #[] 0) }
  dsimp only
  have hsz : vs.toArray.size = vs.length := by simp
  rw [if_neg (by omega), if_neg (by omega)]
  obtain ⟨v₁, v₂, rest, rfl⟩ : ∃ v₁ v₂ rest, vs = v₁ :: v₂ :: rest := by
    match vs, h64 with
    | [], h2 => simp at h2
    | [_], h2 => simp at h2
    | v₁ :: v₂ :: rest, _ => exact ⟨v₁, v₂, rest, rfl⟩
  rw [keyKind_ints hI]
  refine wpAny_bind (wpAny_pure ?_)
  have hpz := pairsOf_size (v₁ :: v₂ :: rest)
  have hai : AI (pairsOf (v₁ :: v₂ :: rest)) := fun i hi => hI.intKeys _ (by simp)
  refine wpAny_bind (wpAny_mono (wpS_runs (st := SortSt.mk' oneType' ((v₁ :: v₂ :: rest).toArray.zip (v₁ :: v₂ :: rest).toArray) #[] 7 none)
    (Q := fun _ st' => AllUp (pairsOf (v₁ :: v₂ :: rest)) st') hai ⟨Array.Perm.refl _, rfl, rfl, rfl, fun _ _ => rfl⟩ (show 64 ≤ (pairsOf (v₁ :: v₂ :: rest)).size by omega) (show (pairsOf (v₁ :: v₂ :: rest)).size < 128 by omega) fun st' a1 => a1) ?_ fun _ _ e => e)
  rintro ⟨⟨⟩, st'⟩ s' ⟨rfl, hp, hf, hs⟩
  dsimp only at hp hf hs ⊢
  refine wpAny_bind (seqEpoch_at ho6 rfl ?_)
  refine wpAny_bind (listUpdate_at ho6 rfl ?_ (hsz2 := by refine Nat.le_trans (Nat.le_of_eq ((Array.size_map ..).trans (hp.size_eq.trans hpz))) ?_; rw [sizeLine_eq]; omega))
  rw [hf]
  simp only [bne_self_eq_false, Bool.false_eq_true, if_false]
  obtain ⟨ns', b1, b2, b3⟩ := sorted_out hI hp fun i j hij hj => hs i j hij (by rw [hp.size_eq]; exact hj)
  exact wpAny_pure (h _ ns' b1 b2 b3)

theorem sorted_of {v : Value} {ns : List Int} {Q : Value → Shared → Prop} (h128 : ns.length < 128)
    (hc : ∀ R : List Value → Shared → Prop, (∀ vs h' tk, IntsAre vs ns → (∀ b o, s.heap.get? b = some o → h'.get? b = some o) → R vs { s with heap := h', toks := tk }) → wpAny (model prog w) A.in1 (collect v) R E s)
    (h : ∀ (D : Addr) (out : Array Value) (e : Nat) (ns' : List Int) (h' : Heap) (tk : Nat), IntsAre out.toList ns' → ns'.Perm ns → ns'.Pairwise (· ≤ ·) → s.heap.get? D = none → (∀ b o, s.heap.get? b = some o → h'.get? b = some o) →
      h'.get? D = some (seqObj "list" out e) → Q (.ref D) { s with heap := h', toks := tk }) :
    wpAny (model prog w) A (call (.builtin "sorted") [v]) Q E s := by
  refine call_function_entry kind_sorted plain_sorted entry_sorted (args_sorted1 _) ?_
  unfold Builtin.«sorted»
  refine wpAny_bind (m := checkCount "sorted" 1 1 _) (wpAny_pure ?_)
  refine wpAny_bind (hc _ fun vs h' tk hI hk => ?_)
  have hl : vs.length = ns.length := hI.length
  refine wpAny_bind (wpAny_newList ?_ (by rw [sizeLine_eq]; omega))
  have hoL : (h'.push (seqObj "list" vs.toArray 0)).get? h'.objs.size = some (seqObj "list" vs.toArray 0) := Heap.get?_push_size _ rfl
  have hlt : ∀ b o, s.heap.get? b = some o → b ≠ h'.objs.size := fun b o e => Nat.ne_of_lt (Heap.lt_size (hk b o e))
  refine wpAny_bind (wpAny_holding (wpAny_call_entry slot_list_sort ⟨_, hoL, rfl⟩ entry_list_sort (list_sort_128 hoL hI (by omega) fun out ns' a1 a2 a3 => ⟨_, rfl, ?_⟩) (args_list_sort _)))
  obtain ⟨e, he⟩ := sortedHeap_at out hoL
  refine wpAny_pure ⟨_, rfl, h _ out e ns' _ tk a1 a2 a3 ?_ (fun b o eb => sortedHeap_old (hlt b o eb) (Heap.get?_push_of_some _ (hk b o eb))) he⟩
  · cases q : s.heap.get? h'.objs.size with
    | none => rfl
    | some o => exact absurd rfl (hlt _ o q)
end
end Mine.So

namespace Mine
open PySem PyProof.Rows

/-! Values, objects, heaps of the small Python. Tuples are values. -/
inductive V where
  | none | bool (b : Bool) | int (i : Int) | str (s : Str) | ref (a : Addr) | tup (vs : List V) | exc (C : Addr)
  deriving Inhabited

inductive O where
  | list (vs : List V) | flist (vs : List V) | idict (kvs : List (Int × V)) (ep : Nat) | sdict (kvs : List (Str × V)) | inst (C d : Addr)
  deriving Inhabited

noncomputable abbrev AH := Addr → Option O
noncomputable def AH.put (h : AH) (a : Addr) (o : O) : AH := fun b => if b = a then some o else h b
noncomputable abbrev Fm := List (Option V)

inductive Ty where
  | int | bool | str | list | dict | tuple | own (C : Str) | exn (n : Str)
inductive Bi where
  | len | list | dict | tuple | sorted | min | max | int | any | all | str
  deriving DecidableEq
inductive Bm where
  | append | insert | pop | index | get | setdefault | split | join
  deriving DecidableEq

inductive Ex where
  | lit (v : V) | var (i : Nat) | glob (n : Str)
  | bin (op : Operator) (a b : Ex) | cmp (op : CmpOp) (a b : Ex) | not (a : Ex) | neg (a : Ex)
  | bop (op : BoolOp) (es : List Ex)
  | callf (f : Str) (es : List Ex) | newo (C : Str) (es : List Ex)
  | bi (b : Bi) (es : List Ex) | isi (a : Ex) (ts : List Ty) | bm (m : Bm) (o : Ex) (es : List Ex)
  | meth (o : Ex) (m : Str) (es : List Ex) | attr (o : Ex) (n : Str)
  | sub (o i : Ex) | slice (o lo hi : Ex)
  | list (es : List Ex) | tuple (es : List Ex) | dict0 | sdict (ks : List Str) (es : List Ex) | idict1 (k v : Ex)
  | comp (x : Nat) (src : Ex) (conds : List Ex) (elt : Ex)
  | range1 (b : Ex) | range2 (a b : Ex) | rev (a : Ex) | isx (a : Ex) (D : Str)

mutual
inductive St where
  | assign (i : Nat) (e : Ex) | setitem (o i e : Ex) | setattr (o : Ex) (n : Str) (e : Ex) | unpack2 (i j : Nat) (e : Ex)
  | expr (e : Ex) | ite (c : Ex) (a b : List St) | whil (c : Ex) (b : List St) | forr (i : Nat) (src : Ex) (b : List St)
  | ret (e : Ex) | raise (C : Str) (e : Ex) | tryx (b : List St) (hs : List Hd) | pass
inductive Hd where
  | mk (C : Str) (n : Option Nat) (b : List St)
end

inductive Out where
  | next | ret (v : V)

noncomputable def dget {K : Type} [DecidableEq K] (d : List (K × V)) (k : K) : Option V := (d.find? fun kv => kv.1 = k).map (·.2)
noncomputable def dput {K : Type} [DecidableEq K] (d : List (K × V)) (k : K) (v : V) : List (K × V) :=
  if d.any (fun kv => kv.1 = k) then d.map (fun kv => if kv.1 = k then (kv.1, v) else kv) else d ++ [(k, v)]
/-- no list, tuple or dict is longer -/
noncomputable def big : Nat := 8388608

/-! How the small values lie in the model's heap. -/
mutual
noncomputable def RepV (h : Heap) : V → Value → Prop
  | .none, v => v = .none
  | .bool b, v => v = .bool b
  | .int i, v => ∃ t, v = .int i t
  | .str x, v => ∃ t, v = .str x t
  | .ref a, v => v = .ref a
  | .tup xs, v => ∃ a n items, v = .ref a ∧ h.get? a = some { cls := .type "tuple", data := .seq (List.toArray items) n } ∧ RepVs h xs items ∧ xs.length ≤ big
  | .exc C, v => ∃ a o, v = .ref a ∧ h.get? a = some o ∧ o.cls = .ref C ∧ ∃ fs, o.data = .fields fs
noncomputable def RepVs (h : Heap) : List V → List Value → Prop
  | [], vs => vs = []
  | x :: xs, vs => ∃ v r, vs = v :: r ∧ RepV h x v ∧ RepVs h xs r
end

noncomputable def RepF (h : Heap) : Option V → Option Value → Prop
  | some x, v => ∃ u, v = some u ∧ RepV h x u
  | none, v => v = none
noncomputable def RepO (prog : Program) (w : World) (h : Heap) (a : Addr) : O → Prop
  | .list xs => ∃ n items, h.get? a = some { cls := .type "list", data := .seq (List.toArray items) n } ∧ RepVs h xs items ∧ xs.length ≤ big
  | .flist xs => ∃ items, h.IsList a (List.toArray items) ∧ RepVs h xs items ∧ xs.length ≤ big
  | .idict kvs ep => ∃ vs, h.DictAt (intKind prog w) a ((kvs.map (·.1)).zip vs) ep ∧ RepVs h (kvs.map (·.2)) vs ∧ kvs.length ≤ big ∧ a ≠ sysModules
  | .sdict kvs => ∃ m, h.Ns1 a m ∧ ∀ n, RepF h (dget kvs n) (m n)
  | .inst C d => ∃ o, h.get? a = some o ∧ o.cls = .ref C ∧ o.dict = some d ∧ o.data = .plain
end Mine

namespace Mine
open PySem PyProof.Rows

structure Ctx where
  prog : Program
  w : World
  base : Heap
  mg : Str → Option Value
  mb : Str → Option Value
  fa : Str → Option Addr
  cls : Str → Option Addr
  glob : Str → Option V
  meth : Addr → Str → Option Str
  attr : Addr → Str → Bool
  exc : Str → Option Addr
  sub : Addr → Addr → Bool

noncomputable abbrev Ctx.M (X : Ctx) : Model := model X.prog X.w

noncomputable def SameO (o o' : Obj) : Prop := o' = o ∨ ((∃ es ep, o.data = .dict es ep) ∧ o'.cls = o.cls ∧ o'.dict = o.dict ∧ o'.data = o.data)
theorem SameO.refl (o : Obj) : SameO o o := .inl rfl
theorem SameO.trans {a b c : Obj} (x : SameO a b) (y : SameO b c) : SameO a c := by
  rcases x with rfl | x
  · exact y
  · rcases y with rfl | y
    · exact .inr x
    · exact .inr ⟨x.1, y.2.1.trans x.2.1, y.2.2.1.trans x.2.2.1, y.2.2.2.trans x.2.2.2⟩
theorem SameO.data {o o' : Obj} (x : SameO o o') : o'.data = o.data := by rcases x with rfl | x; rfl; exact x.2.2.2
theorem SameO.eq {o o' : Obj} (x : SameO o o') (h : ∀ es ep, o.data ≠ .dict es ep) : o' = o := by
  rcases x with e | ⟨⟨es, ep, e⟩, _⟩
  · exact e
  · exact absurd e (h es ep)

noncomputable def Kept (T : Addr → Prop) (h h' : Heap) : Prop := ∀ b o, h.get? b = some o → ¬ T b → ∃ o', h'.get? b = some o' ∧ SameO o o'
theorem Kept.of_keeps {T : Addr → Prop} {h h' : Heap} (k : ∀ b o, h.get? b = some o → h'.get? b = some o) : Kept T h h' := fun b o e _ => ⟨o, k b o e, .refl o⟩

structure Rel (X : Ctx) (ah : AH) (h : Heap) : Prop where
  base : ∀ b o, X.base.get? b = some o → h.get? b = some o
  rep : ∀ a o, ah a = some o → RepO X.prog X.w h a o
  own : ∀ a o, ah a = some o → (∃ xs, o = .flist xs) ∨ X.base.get? a = none

structure Step (X : Ctx) (ah : AH) (s : Shared) (ah' : AH) (s' : Shared) : Prop where
  rel : Rel X ah' s'.heap
  kept : Kept (fun b => ah b ≠ none) s.heap s'.heap
  fresh : ∀ b o, s.heap.get? b = some o → ah b = none → ah' b = none
  there : ∀ b o, s.heap.get? b = some o → ∃ o', s'.heap.get? b = some o'
  rest : s'.gens = s.gens ∧ s'.drawn = s.drawn ∧ s'.os = s.os

/-- what values lean on stays -/
noncomputable def Lean (o : Obj) : Prop := (o.cls = .type "tuple" ∧ ∃ xs n, o.data = .seq xs n) ∨ ((∃ C, o.cls = .ref C) ∧ ∃ fs, o.data = .fields fs)
theorem Lean.notDict {o : Obj} (l : Lean o) : ∀ es ep, o.data ≠ .dict es ep := fun es ep e => by
  rcases l with ⟨_, xs, n, q⟩ | ⟨_, fs, q⟩ <;> rw [e] at q <;> cases q
theorem Lean.notCell {o : Obj} (l : Lean o) : ∀ v, o.data ≠ .cell v := fun v e => by
  rcases l with ⟨_, xs, n, q⟩ | ⟨_, fs, q⟩ <;> rw [e] at q <;> cases q
/-- the same, but for the fields of a record -/
noncomputable def LS (o o' : Obj) : Prop := o' = o ∨ (o'.cls = o.cls ∧ (∃ fs, o.data = .fields fs) ∧ ∃ fs, o'.data = .fields fs)
theorem LS.trans {a b c : Obj} (x : LS a b) (y : LS b c) : LS a c := by
  rcases x with rfl | x
  · exact y
  · rcases y with rfl | y
    · exact .inr x
    · exact .inr ⟨y.1.trans x.1, x.2.1, y.2.2⟩
theorem LS.lean {o o' : Obj} (x : LS o o') (l : Lean o) : Lean o' := by
  rcases x with rfl | ⟨a, ⟨fs, b⟩, c⟩
  · exact l
  · rcases l with ⟨_, xs, n, q⟩ | ⟨⟨C, p⟩, _⟩
    · rw [b] at q; cases q
    · exact .inr ⟨⟨C, a.trans p⟩, c⟩
noncomputable def VK (h h' : Heap) : Prop := ∀ b o, h.get? b = some o → Lean o → ∃ o', h'.get? b = some o' ∧ LS o o'
theorem VK.exact {h h' : Heap} (k : ∀ b o, h.get? b = some o → Lean o → h'.get? b = some o) : VK h h' := fun b o e l => ⟨o, k b o e l, .inl rfl⟩
theorem VK.of_keeps {h h' : Heap} (k : ∀ b o, h.get? b = some o → h'.get? b = some o) : VK h h' := .exact fun b o e _ => k b o e
theorem VK.refl (h : Heap) : VK h h := .exact fun _ _ e _ => e
theorem VK.trans {a b c : Heap} (x : VK a b) (y : VK b c) : VK a c := fun d o e l =>
  let ⟨o1, e1, l1⟩ := x d o e l; let ⟨o2, e2, l2⟩ := y d o1 e1 (l1.lean l); ⟨o2, e2, l1.trans l2⟩
theorem VK.tup {h h' : Heap} (k : VK h h') {a : Addr} {xs : Array Value} {n : Nat} (e : h.get? a = some { cls := .type "tuple", data := .seq xs n }) : h'.get? a = some { cls := .type "tuple", data := .seq xs n } := by
  obtain ⟨o', e', l⟩ := k a _ e (.inl ⟨rfl, _, _, rfl⟩)
  rcases l with rfl | ⟨_, ⟨fs, q⟩, _⟩
  · exact e'
  · cases q
theorem VK.exc {h h' : Heap} (k : VK h h') {a : Addr} {o : Obj} {C : Addr} (e : h.get? a = some o) (hc : o.cls = .ref C) (hf : ∃ fs, o.data = .fields fs) : ∃ o', h'.get? a = some o' ∧ o'.cls = .ref C ∧ ∃ fs, o'.data = .fields fs := by
  obtain ⟨o', e', l⟩ := k a _ e (.inr ⟨⟨C, hc⟩, hf⟩)
  rcases l with rfl | ⟨q, _, r⟩
  · exact ⟨_, e', hc, hf⟩
  · exact ⟨_, e', q.trans hc, r⟩

mutual
theorem RepV.mono {h h' : Heap} (k : VK h h') : ∀ {x : V} {v : Value}, RepV h x v → RepV h' x v
  | .none, _, r => r
  | .bool _, _, r => r
  | .int _, _, r => r
  | .str _, _, r => r
  | .ref _, _, r => r
  | .tup _, _, ⟨a, n, items, e, hg, r, z⟩ => ⟨a, n, items, e, k.tup hg, RepVs.mono k r, z⟩
  | .exc C, _, ⟨a, o, e, hg, hc, hf⟩ => let ⟨o', x, y, z⟩ := k.exc hg hc hf; ⟨a, o', e, x, y, z⟩
theorem RepVs.mono {h h' : Heap} (k : VK h h') : ∀ {xs : List V} {vs : List Value}, RepVs h xs vs → RepVs h' xs vs
  | [], _, r => r
  | _ :: _, _, ⟨v, rr, e, r1, r2⟩ => ⟨v, rr, e, RepV.mono k r1, RepVs.mono k r2⟩
end

theorem RepF.mono {h h' : Heap} (k : VK h h') : ∀ {x : Option V} {v : Option Value}, RepF h x v → RepF h' x v
  | some x, v, ⟨u, e, r⟩ => ⟨u, e, r.mono k⟩
  | none, v, r => r
theorem RepVs.nil {h : Heap} : RepVs h [] [] := rfl
theorem RepVs.cons {h : Heap} {x v xs vs} (a : RepV h x v) (b : RepVs h xs vs) : RepVs h (x :: xs) (v :: vs) := ⟨v, vs, rfl, a, b⟩
theorem RepVs.length {h : Heap} : ∀ {xs : List V} {vs : List Value}, RepVs h xs vs → vs.length = xs.length
  | [], _, r => by cases r; rfl
  | _ :: _, _, ⟨_, _, e, _, r⟩ => by subst e; simp [RepVs.length r]
theorem RepVs.get {h : Heap} : ∀ {xs : List V} {vs : List Value}, RepVs h xs vs → ∀ {i : Nat} {x : V}, xs[i]? = some x → ∃ v, vs[i]? = some v ∧ RepV h x v
  | [], _, _, i, x, e => by simp at e
  | y :: ys, _, ⟨v, r, e, r1, r2⟩, 0, x, h => by subst e; simp at h; subst h; exact ⟨v, rfl, r1⟩
  | y :: ys, _, ⟨v, r, e, r1, r2⟩, i + 1, x, h => by subst e; simp at h; obtain ⟨u, a, b⟩ := RepVs.get r2 h; exact ⟨u, by simpa using a, b⟩
theorem RepVs.get' {h : Heap} : ∀ {xs : List V} {vs : List Value}, RepVs h xs vs → ∀ {i : Nat} {v : Value}, vs[i]? = some v → ∃ x, xs[i]? = some x ∧ RepV h x v
  | [], _, e, i, v, h => by cases e; simp at h
  | y :: ys, _, ⟨v, r, e, r1, r2⟩, 0, x, h => by subst e; simp at h; subst h; exact ⟨y, rfl, r1⟩
  | y :: ys, _, ⟨v, r, e, r1, r2⟩, i + 1, x, h => by subst e; simp at h; obtain ⟨u, a, b⟩ := RepVs.get' r2 h; exact ⟨u, by simpa using a, b⟩
theorem RepVs.append {h : Heap} : ∀ {xs : List V} {vs : List Value} {ys : List V} {us : List Value}, RepVs h xs vs → RepVs h ys us → RepVs h (xs ++ ys) (vs ++ us)
  | [], _, _, _, e, b => by cases e; exact b
  | x :: xs, _, _, _, ⟨v, r, e, r1, r2⟩, b => by subst e; exact ⟨v, r ++ _, rfl, r1, RepVs.append r2 b⟩
theorem RepVs.take {h : Heap} : ∀ (n : Nat) {xs : List V} {vs : List Value}, RepVs h xs vs → RepVs h (xs.take n) (vs.take n)
  | 0, _, _, _ => by simp [RepVs]
  | n + 1, [], _, e => by cases e; simp [RepVs]
  | n + 1, x :: xs, _, ⟨v, r, e, r1, r2⟩ => by subst e; exact ⟨v, r.take n, rfl, r1, RepVs.take n r2⟩
theorem RepVs.drop {h : Heap} : ∀ (n : Nat) {xs : List V} {vs : List Value}, RepVs h xs vs → RepVs h (xs.drop n) (vs.drop n)
  | 0, _, _, r => r
  | n + 1, [], _, e => by cases e; simp [RepVs]
  | n + 1, x :: xs, _, ⟨v, r, e, r1, r2⟩ => by subst e; exact RepVs.drop n r2
theorem RepVs.set {h : Heap} : ∀ (n : Nat) {xs : List V} {vs : List Value} {x : V} {v : Value}, RepVs h xs vs → RepV h x v → RepVs h (xs.set n x) (vs.set n v)
  | _, [], _, _, _, e, _ => by cases e; simp [RepVs]
  | 0, x :: xs, _, _, _, ⟨v, r, e, r1, r2⟩, b => by subst e; exact ⟨_, r, rfl, b, r2⟩
  | n + 1, x :: xs, _, _, _, ⟨v, r, e, r1, r2⟩, b => by subst e; exact ⟨v, r.set n _, rfl, r1, RepVs.set n r2 b⟩
theorem RepVs.reverse {h : Heap} : ∀ {xs : List V} {vs : List Value}, RepVs h xs vs → RepVs h xs.reverse vs.reverse
  | [], _, e => by cases e; simp [RepVs]
  | x :: xs, _, ⟨v, r, e, r1, r2⟩ => by subst e; rw [List.reverse_cons, List.reverse_cons]; exact RepVs.append (RepVs.reverse r2) (RepVs.cons r1 .nil)

theorem DictOf.at' {prog : Program} {w : World} {K : Type} [DecidableEq K] {knd : KeyKind prog w K} {h h' : Heap} {a : Addr} {kvs : List (K × Value)} (x : h.DictOf knd a kvs) (e : ∀ o, h.get? a = some o → h'.get? a = some o) : h'.DictOf knd a kvs :=
  let ⟨o, es, ep, ho, r⟩ := x; ⟨o, es, ep, e o ho, r⟩

section
variable {prog : Program} {w : World} {h h' : Heap} {a : Addr} {o : O}
theorem RepO.mono (r : RepO prog w h a o) (k : VK h h') (e : ∀ ob, h.get? a = some ob → h'.get? a = some ob) : RepO prog w h' a o := by
  cases o with
  | list xs => obtain ⟨n, items, hg, r, z⟩ := r; exact ⟨n, items, e _ hg, r.mono k, z⟩
  | flist xs => obtain ⟨items, ⟨ob, hg, hc⟩, r, z⟩ := r; exact ⟨items, ⟨ob, e _ hg, hc⟩, r.mono k, z⟩
  | idict kvs ep => obtain ⟨vs, hd, r, z⟩ := r; exact ⟨vs, hd.at' e, r.mono k, z⟩
  | sdict kvs => obtain ⟨m, hn, r⟩ := r; exact ⟨m, hn.at e, fun n => (r n).mono k⟩
  | inst C d => obtain ⟨ob, hg, r⟩ := r; exact ⟨ob, e _ hg, r⟩
theorem RepO.there (r : RepO prog w h a o) : ∃ ob, h.get? a = some ob ∧ ¬ Lean ob := by
  cases o with
  | list xs => obtain ⟨n, items, hg, r⟩ := r; exact ⟨_, hg, by unfold Lean; simp⟩
  | flist xs => obtain ⟨items, ⟨ob, hg, hc, n, hd⟩, r⟩ := r; exact ⟨ob, hg, by unfold Lean; simp [hc]⟩
  | idict kvs ep => obtain ⟨vs, ⟨ob, es, hg, ⟨hc, _⟩, _⟩, r⟩ := r; exact ⟨ob, hg, by unfold Lean; simp [hc]⟩
  | sdict kvs => obtain ⟨m, ⟨ob, es, ep, hg, hd, _⟩, r⟩ := r; exact ⟨ob, hg, fun l => l.notDict _ _ hd⟩
  | inst C d => obtain ⟨ob, hg, hc, hd, hp⟩ := r; exact ⟨ob, hg, by unfold Lean; simp [hc, hp]⟩
end

section
variable {X : Ctx} {ah ah' ah'' : AH} {s s' s'' : Shared}
theorem Rel.vk (r : Rel X ah s.heap) (k : Kept (fun b => ah b ≠ none) s.heap s'.heap) : VK s.heap s'.heap := .exact fun b o e l => by
  have nt : ¬ ah b ≠ none := fun q => by
    cases hb : ah b with
    | none => exact q hb
    | some ob =>
      obtain ⟨o', e', nl⟩ := (r.rep b ob hb).there
      rw [e] at e'; cases e'; exact nl l
  obtain ⟨o', e', so⟩ := k b o e nt
  have : o' = o := so.eq l.notDict
  rw [← this]; exact e'
theorem Step.vk (r : Rel X ah s.heap) (t : Step X ah s ah' s') : VK s.heap s'.heap := r.vk t.kept
theorem Step.refl (r : Rel X ah s.heap) : Step X ah s ah s := ⟨r, fun _ o e _ => ⟨o, e, .refl o⟩, fun _ _ _ q => q, fun _ o e => ⟨o, e⟩, rfl, rfl, rfl⟩
theorem Step.trans (t : Step X ah s ah' s') (u : Step X ah' s' ah'' s'') : Step X ah s ah'' s'' :=
  ⟨u.rel, fun b o e n => by
      obtain ⟨o', e', so⟩ := t.kept b o e n
      have hn : ah b = none := Classical.byContradiction n
      obtain ⟨o'', e'', so'⟩ := u.kept b o' e' (by simpa using t.fresh b o e hn)
      exact ⟨o'', e'', so.trans so'⟩,
    fun b o e q => by
      obtain ⟨o', e', so⟩ := t.kept b o e (by simpa using q)
      exact u.fresh b o' e' (t.fresh b o e q),
    fun b o e => by obtain ⟨o', e'⟩ := t.there b o e; exact u.there b o' e',
    u.rest.1.trans t.rest.1, u.rest.2.1.trans t.rest.2.1, u.rest.2.2.trans t.rest.2.2⟩
/-- only new objects -/
theorem Step.keeps (r : Rel X ah s.heap) (k : ∀ b o, s.heap.get? b = some o → s'.heap.get? b = some o) (e : s'.gens = s.gens ∧ s'.drawn = s.drawn ∧ s'.os = s.os) : Step X ah s ah s' :=
  ⟨⟨fun b o q => k b o (r.base b o q), fun a o q => (r.rep a o q).mono (.of_keeps k) (fun ob => k a ob), r.own⟩, .of_keeps k, fun _ _ _ q => q, fun b o e => ⟨o, k b o e⟩, e⟩
theorem Step.new {a : Addr} {o : O} (r : Rel X ah s.heap) (k : ∀ b o, s.heap.get? b = some o → s'.heap.get? b = some o) (e : s'.gens = s.gens ∧ s'.drawn = s.drawn ∧ s'.os = s.os)
    (hn : s.heap.get? a = none) (ho : RepO X.prog X.w s'.heap a o) : Step X ah s (ah.put a o) s' :=
  ⟨⟨fun b o q => k b o (r.base b o q), fun b ob q => by
      unfold AH.put at q
      split at q
      · rename_i e; subst e; cases q; exact ho
      · exact (r.rep b ob q).mono (.of_keeps k) (fun ob => k b ob),
    fun b ob q => by
      unfold AH.put at q
      split at q
      · rename_i e; subst e
        cases hb : X.base.get? b with
        | none => exact .inr rfl
        | some x => rw [r.base b x hb] at hn; cases hn
      · exact r.own b ob q⟩, .of_keeps k, fun b o q q' => by
        unfold AH.put
        split
        · rename_i e; subst e; rw [hn] at q; cases q
        · exact q', fun b o e => ⟨o, k b o e⟩, e⟩
theorem Rel.none_of_new {a : Addr} (r : Rel X ah s.heap) (hn : s.heap.get? a = none) : ah a = none := by
  cases h : ah a with
  | none => rfl
  | some o => obtain ⟨ob, e, _⟩ := (r.rep a o h).there; rw [hn] at e; cases e
/-- one tracked object is changed -/
theorem Step.upd {a : Addr} {o o' : O} (r : Rel X ah s.heap) (ha : ah a = some o) (hf : ∀ xs, o ≠ .flist xs) (k : ∀ b, b ≠ a → ∀ ob, s.heap.get? b = some ob → s'.heap.get? b = some ob)
    (e : s'.gens = s.gens ∧ s'.drawn = s.drawn ∧ s'.os = s.os) (ho : RepO X.prog X.w s'.heap a o') : Step X ah s (ah.put a o') s' := by
  have nb : X.base.get? a = none := (r.own a o ha).resolve_left fun ⟨xs, q⟩ => hf xs q
  have vk : VK s.heap s'.heap := .exact fun b ob q l => by
    refine k b (fun z => ?_) ob q
    subst z
    obtain ⟨o₂, e₂, nl⟩ := (r.rep b o ha).there
    rw [q] at e₂; cases e₂; exact nl l
  refine ⟨⟨fun b ob q => k b (fun z => by subst z; rw [nb] at q; cases q) ob (r.base b ob q), fun b ob q => ?_, fun b ob q => ?_⟩, fun b ob q n => ⟨ob, k b (fun z => ?_) ob q, .refl _⟩, fun b ob q n => ?_, fun b ob q => ?_, e⟩
  · unfold AH.put at q
    split at q
    · rename_i z; subst z; cases q; exact ho
    · rename_i z; exact (r.rep b ob q).mono vk (k b z)
  · unfold AH.put at q
    split at q
    · rename_i z; subst z; exact .inr nb
    · exact r.own b ob q
  · subst z; apply n; rw [ha]; exact fun q => by cases q
  · unfold AH.put
    split
    · rename_i z; subst z; rw [ha] at n; cases n
    · exact n
  · by_cases z : b = a
    · subst z; obtain ⟨ob', e', _⟩ := ho.there; exact ⟨ob', e'⟩
    · exact ⟨ob, k b z ob q⟩
end
end Mine

namespace Mine
open PySem PyProof.Rows

structure Cfg where
  k : Nat
  hd : Bool

structure OkA (c : Cfg) (A : Around) : Prop where
  handled : c.hd = true → A.handled = none
  depth : A.depth + c.k < 1000
  units : A.units + 10 * c.k < 9000

/-- the frames of the calls that stand: names of functions, in the heap, nobody's -/
noncomputable def Frs (X : Ctx) (A : Around) (ah : AH) (h : Heap) : Prop := ∃ l, A.frames = some l ∧ ∀ e ∈ l, e.scope.kind ≠ .module ∧ ∃ L o, e.frame = some L ∧ X.base.get? L = none ∧ h.get? L = some o ∧ (∃ es ep, o.data = .dict es ep) ∧ ah L = none
theorem Frs.step {X : Ctx} {A : Around} {ah ah' : AH} {s s' : Shared} (f : Frs X A ah s.heap) (t : Step X ah s ah' s') : Frs X A ah' s'.heap := by
  obtain ⟨l, hl, f⟩ := f
  refine ⟨l, hl, fun e he => ?_⟩
  obtain ⟨k, L, o, a1, a2, a3, ⟨es, ep, a4⟩, a5⟩ := f e he
  obtain ⟨o', e', so⟩ := t.kept L o a3 (by simp [a5])
  exact ⟨k, L, o', a1, a2, e', ⟨es, ep, so.data.trans a4⟩, t.fresh L o a3 a5⟩
/-- an exception in flight: its object, and the head of its trace, new since s; x: none (not noted yet), or what the head tells of the frame -/
inductive Fly (s h : Heap) (a C : Addr) (x : Option Value) : Prop
  | raw (oe : Obj) (vs : Array Value) (he : h.get? a = some oe) (hc : oe.cls = .ref C) (hd : oe.data = .fields vs) (h1 : vs[1]? = some .none) (hx : x = none)
  | tr (oe : Obj) (vs : Array Value) (T : Addr) (oT : Obj) (ts : Array Value) (fl : Value) (he : h.get? a = some oe) (hc : oe.cls = .ref C) (hd : oe.data = .fields vs) (h1 : vs[1]? = some (.ref T)) (nT : s.get? T = none) (Ta : T ≠ a)
    (hT : h.get? T = some oT) (dT : oT.data = .fields ts) (h3 : ts[3]? = some fl) (hx : x = some fl)
inductive Flight (X : Ctx) (A : Around) (s : Shared) (e : Value) (C : Addr) (s' : Shared) : Prop
  | mk (a : Addr) (x : Option Value) (ea : e = .ref a) (na : s.heap.get? a = none) (f : Fly s.heap s'.heap a C x) (hC : ∃ n, X.exc n = some C)
    (ok : x = none ∨ x = some .none ∨ ∃ env l L, A.frames = some (env :: l) ∧ env.frame = some L ∧ x = some (rawInt L))
theorem none_back {s s' : Heap} (t : ∀ b o, s.get? b = some o → ∃ o', s'.get? b = some o') {a : Addr} (e : s'.get? a = none) : s.get? a = none := by
  cases q : s.get? a with
  | none => rfl
  | some o => obtain ⟨o', e'⟩ := t a o q; rw [e] at e'; cases e'
theorem Fly.back {s s' h : Heap} {a C : Addr} {x : Option Value} (t : ∀ b o, s.get? b = some o → ∃ o', s'.get? b = some o') (f : Fly s' h a C x) : Fly s h a C x := by
  cases f with
  | raw oe vs he hc hd h1 hx => exact .raw oe vs he hc hd h1 hx
  | tr oe vs T oT ts fl he hc hd h1 nT Ta hT dT h3 hx => exact .tr oe vs T oT ts fl he hc hd h1 (none_back t nT) Ta hT dT h3 hx
theorem Flight.back {X : Ctx} {A : Around} {s s' s'' : Shared} {e : Value} {C : Addr} (t : ∀ b o, s.heap.get? b = some o → ∃ o', s'.heap.get? b = some o') (f : Flight X A s' e C s'') : Flight X A s e C s'' :=
  let ⟨a, x, ea, na, f, hC, ok⟩ := f; ⟨a, x, ea, none_back t na, f.back t, hC, ok⟩
inductive ExcPost (X : Ctx) (A : Around) (ah : AH) (s : Shared) (R : Addr → AH → Prop) (e : Value) (s' : Shared) : Prop
  | mk (C : Addr) (ah' : AH) (f : Flight X A s e C s') (st : Step X ah s ah' s') (q : R C ah') : ExcPost X A ah s R e s'
inductive ValPost (X : Ctx) (ah : AH) (s : Shared) (Q : V → AH → Prop) (v : Value) (s' : Shared) : Prop
  | mk (x : V) (ah' : AH) (rv : RepV s'.heap x v) (st : Step X ah s ah' s') (q : Q x ah') : ValPost X ah s Q v s'
noncomputable def CallPost (X : Ctx) (A : Around) (ah : AH) (s : Shared) (Q : V → AH → Prop) (R : Addr → AH → Prop) (r : Result) (s' : Shared) : Prop :=
  match r with
  | .ok (.ret v) => ValPost X ah s Q v s'
  | .ok _ => False
  | .error e => ExcPost X A ah s R e s'

noncomputable def Ctx.Call (X : Ctx) (k : Nat) (f : Str) (args : List V) (h : AH) (Q : V → AH → Prop) (R : Addr → AH → Prop) : Prop :=
  ∃ fa, X.fa f = some fa ∧ ∀ A s vals, OkA ⟨k, true⟩ A → Frs X A h s.heap → Rel X h s.heap → RepVs s.heap args vals →
    codeAny X.M A (.call (.ref fa) ⟨vals, []⟩) (CallPost X A h s Q R) s

theorem Ctx.Call.mono {X : Ctx} {k f args h Q R Q' R'} (x : X.Call k f args h Q R) (hQ : ∀ v h', Q v h' → Q' v h') (hR : ∀ v h', R v h' → R' v h') : X.Call k f args h Q' R' := by
  obtain ⟨fa, e, x⟩ := x
  refine ⟨fa, e, fun A s vals oA fs r rv => codeAny_mono (x A s vals oA fs r rv) fun res s' y => ?_⟩
  cases res with
  | error e => obtain ⟨C, ah', a, b, c⟩ := y; exact ⟨C, ah', a, b, hR _ _ c⟩
  | ok fl =>
    cases fl with
    | ret v => obtain ⟨x, ah', a, b, c⟩ := y; exact ⟨x, ah', a, b, hQ _ _ c⟩
    | next => exact y
    | brk => exact y
    | cont => exact y

/-! plain helpers -/
noncomputable def pyIdx {α : Type} (vs : List α) (k : Int) : Option α := if 0 ≤ k then vs[k.toNat]? else if 0 ≤ k + vs.length then vs[(k + vs.length).toNat]? else none
noncomputable def clampI (k : Int) (n : Nat) : Nat := if k < 0 then (k + n).toNat else min k.toNat n
noncomputable def loV : V → Nat → Option Nat
  | .none, _ => some 0
  | .int k, n => some (clampI k n)
  | _, _ => none
noncomputable def hiV : V → Nat → Option Nat
  | .none, n => some n
  | .int k, n => some (clampI k n)
  | _, _ => none
noncomputable def pySlice {α : Type} (vs : List α) (lo hi : V) : Option (List α) :=
  match loV lo vs.length, hiV hi vs.length with
  | some a, some b => some ((vs.take b).drop a)
  | _, _ => none

noncomputable def eqL (f : V → V → Option Bool) : List V → List V → Option Bool
  | [], [] => some true
  | x :: xs, y :: ys => match f x y, eqL f xs ys with | some a, some b => some (a && b) | _, _ => none
  | _, _ => some false
noncomputable def eqD {K : Type} (f : V → V → Option Bool) (lk : K → Option V) : List (K × V) → Option Bool
  | [] => some true
  | (k, v) :: r => match lk k with
    | none => some false
    | some u => match f v u, eqD f lk r with | some a, some b => some (a && b) | _, _ => none
noncomputable def inL (f : V → V → Option Bool) (x : V) : List V → Option Bool
  | [] => some false
  | y :: ys => match f y x, inL f x ys with | some a, some b => some (a || b) | _, _ => none
noncomputable def neV (x y : V) : Option Bool := none
noncomputable def eqv (h : AH) : Nat → V → V → Option Bool
  | 0, _, _ => none
  | n + 1, x, y => match x with
    | .none => (match y with | .none => some true | _ => neV x y)
    | .bool a => (match y with | .bool b => some (a == b) | _ => neV x y)
    | .int a => (match y with | .int b => some (a == b) | _ => neV x y)
    | .str a => (match y with | .str b => some (a == b) | _ => neV x y)
    | .tup xs => (match y with | .tup ys => eqL (eqv h n) xs ys | _ => neV x y)
    | .ref a => (match y with
      | .ref b => (match h a with
        | some (.list xs) => (match h b with | some (.list ys) => if xs.length = ys.length then eqL (eqv h n) xs ys else some false | _ => none)
        | some (.idict xs _) => (match h b with | some (.idict ys _) => if xs.length = ys.length then eqD (eqv h n) (dget ys) xs else some false | _ => none)
        | _ => none)
      | _ => none)
    | .exc _ => none

noncomputable def truthV (h : AH) : V → Option Bool
  | .none => some false
  | .bool b => some b
  | .int i => some (i != 0)
  | .str x => none
  | .tup vs => some (!vs.isEmpty)
  | .ref a => match h a with
    | some (.list vs) => some (!vs.isEmpty)
    | some (.idict vs _) => some (!vs.isEmpty)
    | _ => none
  | .exc _ => none

noncomputable def small : Nat := 1000000

noncomputable def binop (op : Operator) (x y : V) (h : AH) (Q : V → AH → Prop) : Prop :=
  match op with
  | .Add => (match x with
    | .int a => (match y with | .int b => Q (.int (a + b)) h | _ => False)
    | .tup xs => (match y with | .tup ys => (xs.length + ys.length ≤ small) ∧ Q (.tup (xs ++ ys)) h | _ => False)
    | .ref a => (match y with
      | .ref b => (match h a with
        | some (.list xs) => (match h b with | some (.list ys) => (xs.length + ys.length ≤ small) ∧ ∀ c, h c = none → Q (.ref c) (h.put c (.list (xs ++ ys))) | _ => False)
        | _ => False)
      | _ => False)
    | _ => False)
  | .Sub => (match x with | .int a => (match y with | .int b => Q (.int (a - b)) h | _ => False) | _ => False)
  | .Mult => (match x with
    | .int a => (match y with | .int b => ((-(2 ^ 60) < a ∧ a < 2 ^ 60) ∨ (-(2 ^ 60) < b ∧ b < 2 ^ 60)) ∧ Q (.int (a * b)) h | _ => False)
    | _ => False)
  | .Mod => (match x with | .int a => (match y with | .int b => 0 < b ∧ Q (.int (a % b)) h | _ => False) | _ => False)
  | .FloorDiv => (match x with | .int a => (match y with | .int b => (0 < b ∧ b < 10 ^ 100) ∧ Q (.int (a / b)) h | _ => False) | _ => False)
  | .Pow => (match x with | .int a => (match y with | .int b => (0 ≤ a ∧ a ≤ 10 ∧ 0 ≤ b ∧ b ≤ 100) ∧ Q (.int (a ^ b.toNat)) h | _ => False) | _ => False)
  | _ => False

theorem int_inv {x : V} {f : Int → Prop} (w : match x with | .int a => f a | _ => False) : ∃ a, x = .int a ∧ f a := by
  cases x <;> first | exact ⟨_, rfl, w⟩ | exact False.elim w
theorem ref_inv {x : V} {f : Addr → Prop} (w : match x with | .ref a => f a | _ => False) : ∃ a, x = .ref a ∧ f a := by
  cases x <;> first | exact ⟨_, rfl, w⟩ | exact False.elim w
theorem tup_inv {x : V} {f : List V → Prop} (w : match x with | .tup a => f a | _ => False) : ∃ a, x = .tup a ∧ f a := by
  cases x <;> first | exact ⟨_, rfl, w⟩ | exact False.elim w
theorem olist_inv {x : Option O} {f : List V → Prop} (w : match x with | some (.list a) => f a | _ => False) : ∃ a, x = some (.list a) ∧ f a := by
  rcases x with _ | x
  · exact False.elim w
  · cases x <;> first | exact ⟨_, rfl, w⟩ | exact False.elim w
theorem one_inv {vs : List V} {f : V → Prop} (w : match vs with | [x] => f x | _ => False) : ∃ x, vs = [x] ∧ f x := by
  rcases vs with _ | ⟨x, _ | ⟨y, vs⟩⟩ <;> first | exact ⟨_, rfl, w⟩ | exact False.elim w
theorem two_inv {vs : List V} {f : V → V → Prop} (w : match vs with | [x, y] => f x y | _ => False) : ∃ x y, vs = [x, y] ∧ f x y := by
  rcases vs with _ | ⟨x, _ | ⟨y, _ | ⟨z, vs⟩⟩⟩ <;> first | exact ⟨_, _, rfl, w⟩ | exact False.elim w
theorem nil_inv {vs : List V} {p : Prop} (w : match vs with | [] => p | _ => False) : vs = [] ∧ p := by
  cases vs <;> first | exact ⟨rfl, w⟩ | exact False.elim w

noncomputable def ltV (x y : V) : Option Bool :=
  match x, y with
  | .int a, .int b => some (decide (a < b))
  | _, _ => none
noncomputable def leV (x y : V) : Option Bool :=
  match x, y with
  | .int a, .int b => some (decide (a ≤ b))
  | _, _ => none
noncomputable def isV (x y : V) : Option Bool := none
noncomputable def inV (h : AH) (x y : V) : Option Bool :=
  match y with
  | .tup vs => inL (eqv h 8) x vs
  | .ref a => match h a with
    | some (.list vs) => inL (eqv h 8) x vs
    | some (.idict kvs _) => (match x with | .int k => some (dget kvs k).isSome | _ => none)
    | _ => none
  | _ => none
noncomputable def cmpV (h : AH) (op : CmpOp) (x y : V) : Option Bool :=
  match op with
  | .Eq => eqv h 8 x y
  | .NotEq => (eqv h 8 x y).map (!·)
  | .Lt => ltV x y
  | .LtE => leV x y
  | .Gt => ltV y x
  | .GtE => leV y x
  | .Is => isV x y
  | .IsNot => (isV x y).map (!·)
  | .In => inV h x y
  | .NotIn => (inV h x y).map (!·)

noncomputable def getV (h : AH) (x i : V) : Option V :=
  match x, i with
  | .tup vs, .int k => pyIdx vs k
  | .ref a, .int k => match h a with
    | some (.list vs) => pyIdx vs k
    | some (.flist vs) => pyIdx vs k
    | some (.idict d _) => dget d k
    | _ => none
  | _, _ => none

noncomputable def setP (x i v : V) (h : AH) (Q : AH → Prop) : Prop :=
  match x, i with
  | .ref a, .int k => match h a with
    | some (.idict d _) => (d.length ≤ small) ∧ ∀ e, Q (h.put a (.idict (dput d k v) e))
    | some (.list vs) => (0 ≤ k ∧ k < vs.length) ∧ Q (h.put a (.list (vs.set k.toNat v)))
    | _ => False
  | _, _ => False

noncomputable def sliceP (x lo hi : V) (h : AH) (Q : V → AH → Prop) : Prop :=
  match x with
  | .ref a => match h a with
    | some (.list vs) => (match pySlice vs lo hi with | some r => ∀ c, h c = none → Q (.ref c) (h.put c (.list r)) | none => False)
    | _ => False
  | _ => False

noncomputable def intsV : List V → Option (List Int)
  | [] => some []
  | .int i :: r => (intsV r).map (i :: ·)
  | _ => none
noncomputable def insI (x : Int) : List Int → List Int
  | [] => [x]
  | y :: ys => if x ≤ y then x :: y :: ys else y :: insI x ys
noncomputable def sortI : List Int → List Int
  | [] => []
  | x :: xs => insI x (sortI xs)

noncomputable def lenV (h : AH) : V → Option Nat
  | .tup vs => some vs.length
  | .ref a => match h a with
    | some (.list vs) => some vs.length
    | some (.flist vs) => some vs.length
    | some (.idict d _) => some d.length
    | _ => none
  | _ => none
noncomputable def itemsV (h : AH) : V → Option (List V)
  | .tup vs => some vs
  | .ref a => match h a with
    | some (.list vs) => some vs
    | some (.idict d _) => some (d.map fun kv => .int kv.1)
    | _ => none
  | _ => none

noncomputable def newP (o : O) (h : AH) (Q : V → AH → Prop) : Prop := ∀ c, h c = none → Q (.ref c) (h.put c o)

noncomputable def biP (b : Bi) (vs : List V) (h : AH) (Q : V → AH → Prop) : Prop :=
  match b with
  | .len => (match vs with | [x] => (match lenV h x with | some n => Q (.int n) h | none => False) | _ => False)
  | .list => (match vs with | [x] => (match itemsV h x with | some l => newP (.list l) h Q | none => False) | _ => False)
  | .dict => (match vs with | [x] => (match x with | .ref a => (match h a with | some (.idict d _) => ∀ e, newP (.idict d e) h Q | _ => False) | _ => False) | _ => False)
  | .sorted => (match vs with | [x] => (match x with | .ref a => (match h a with | some (.list l) => (match intsV l with | some ns => ns.length < 128 ∧ newP (.list ((sortI ns).map .int)) h Q | none => False) | some (.idict d _) => d.length < 128 ∧ newP (.list ((sortI (d.map (·.1))).map .int)) h Q | _ => False) | _ => False) | _ => False)
  | .int => (match vs with | [x] => (match x with | .bool b => Q (.int (if b then 1 else 0)) h | _ => False) | _ => False)
  | _ => False

noncomputable def bmP (m : Bm) (x : V) (vs : List V) (h : AH) (Q : V → AH → Prop) : Prop :=
  match m with
  | .append => (match x with | .ref a => (match vs with | [v] => (match h a with | some (.list l) => l.length ≤ small ∧ Q .none (h.put a (.list (l ++ [v]))) | _ => False) | _ => False) | _ => False)
  | .pop => (match x with | .ref a => (match vs with | [] => (match h a with | some (.list l) => (match l.getLast? with | some v => Q v (h.put a (.list l.dropLast)) | none => False) | _ => False) | _ => False) | _ => False)
  | .get => (match x with | .ref a => (match vs with | [v, d] => (match v with | .int k => (match h a with | some (.idict l _) => Q ((dget l k).getD d) h | _ => False) | _ => False) | _ => False) | _ => False)
  | .setdefault => (match x with | .ref a => (match vs with | [v, d] => (match v with | .int k => (match h a with | some (.idict l _) => (match dget l k with | some v => Q v h | none => l.length ≤ small ∧ ∀ e, Q d (h.put a (.idict (l ++ [(k, d)]) e))) | _ => False) | _ => False) | _ => False) | _ => False)
  | _ => False

noncomputable def bmKind (m : Bm) (x : V) (h : AH) : Prop :=
  match x with
  | .ref a => match m with
    | .append | .insert | .pop | .index => (match h a with | some (.list _) => True | _ => False)
    | .get | .setdefault => (match h a with | some (.idict _ _) => True | _ => False)
    | _ => False
  | _ => False

noncomputable def tyStr : Ty → Option String
  | .int => some "int" | .bool => some "bool" | .str => some "str" | .list => some "list" | .dict => some "dict" | .tuple => some "tuple" | _ => none
noncomputable def tyN : Ty → Option Nat
  | .int => some 2 | .bool => some 1 | .str => some 3 | .list => some 4 | .dict => some 5 | .tuple => some 6 | _ => none
noncomputable def kindO : Option O → Option Nat
  | some (.list _) => some 4
  | some (.idict _ _) => some 5
  | _ => none
noncomputable def kindV (h : AH) : V → Option Nat
  | .none => some 0 | .bool _ => some 1 | .int _ => some 2 | .str _ => some 3 | .tup _ => some 6 | .ref a => kindO (h a) | .exc _ => none
noncomputable def isiV (X : Ctx) (h : AH) (x : V) (t : Ty) : Option Bool := match kindV h x, tyN t with
  | some k, some n => some (k == n || (k == 1 && n == 2))
  | _, _ => none

/-- an exception's class lies under a class -/
noncomputable def xis (X : Ctx) (C : Addr) (D : Str) : Bool := D == ("ValueError" : Str)
structure Guard where
  ok : AH → Prop
noncomputable def freeG : Guard := ⟨fun _ => True⟩
noncomputable def atG (a : Addr) (o : O) : Guard := ⟨fun h => h a = some o⟩

noncomputable def loopL (F : V → Fm → AH → (Out → Fm → AH → Prop) → Prop) (g : Guard) : List V → Fm → AH → (Out → Fm → AH → Prop) → Prop
  | [], fr, h, Q => g.ok h ∧ Q .next fr h
  | v :: vs, fr, h, Q => g.ok h ∧ F v fr h fun out fr' h' => match out with
    | .next => loopL F g vs fr' h' Q
    | .ret v => Q (.ret v) fr' h'
noncomputable def loopC (C : V → AH → (Bool → AH → Prop) → Prop) (F : V → AH → (V → AH → Prop) → Prop) (g : Guard) : List V → List V → AH → (List V → AH → Prop) → Prop
  | [], acc, h, Q => g.ok h ∧ Q acc h
  | v :: vs, acc, h, Q => g.ok h ∧ C v h fun b h1 => if b = true then F v h1 fun x h2 => loopC C F g vs (acc ++ [x]) h2 Q else loopC C F g vs acc h1 Q
noncomputable def whileL (T : Fm → AH → (Bool → AH → Prop) → Prop) (F : Fm → AH → (Out → Fm → AH → Prop) → Prop) (fr : Fm) (h : AH) (Q : Out → Fm → AH → Prop) : Prop :=
  ∀ P : Fm → AH → Prop, (∀ fr h, T fr h (fun b h1 => if b = true then F fr h1 (fun out fr' h' => match out with | .next => P fr' h' | .ret v => Q (.ret v) fr' h') else Q .next fr h1) → P fr h) → P fr h

noncomputable def srcP (Q : List V → Guard → AH → Prop) (h1 : AH) (x : V) : Prop :=
  match x with
  | .tup vs => Q vs freeG h1
  | .ref l => (match h1 l with
    | some (.list vs) => Q vs (atG l (.list vs)) h1
    | some (.idict d e) => Q (d.map fun kv => .int kv.1) (atG l (.idict d e)) h1
    | _ => False)
  | _ => False

noncomputable abbrev RX := Addr → AH → Prop

mutual
noncomputable def wpE (X : Ctx) (c : Cfg) (R : RX) : Ex → Fm → (V → AH → Prop) → AH → Prop
  | .lit v, fr, Q, h => Q v h
  | .var i, fr, Q, h => match fr[i]? with | some (some v) => Q v h | _ => False
  | .glob n, fr, Q, h => match X.glob n with | some v => Q v h | none => False
  | .bin op a b, fr, Q, h => wpE X c R a fr (fun x h1 => wpE X c R b fr (fun y h2 => binop op x y h2 Q) h1) h
  | .cmp op a b, fr, Q, h => wpE X c R a fr (fun x h1 => wpE X c R b fr (fun y h2 => match cmpV h2 op x y with | some r => Q (.bool r) h2 | none => False) h1) h
  | .not a, fr, Q, h => wpE X c R a fr (fun x h1 => match truthV h1 x with | some r => Q (.bool (!r)) h1 | none => False) h
  | .neg a, fr, Q, h => wpE X c R a fr (fun x h1 => match x with | .int i => Q (.int (-i)) h1 | _ => False) h
  | .bop op es, fr, Q, h => wpB X c R op es fr Q h
  | .callf f es, fr, Q, h => (X.fa f).isSome = true ∧ wpEs X c R es fr (fun vs h1 => c.hd = true ∧ ∃ k, c.k = k + 1 ∧ X.Call k f vs h1 Q R) h
  | .newo C es, fr, Q, h => (X.cls C).isSome = true ∧ wpEs X c R es fr (fun vs h1 => c.hd = true ∧ ∃ k Ca f, c.k = k + 1 ∧ X.cls C = some Ca ∧ X.meth Ca "__init__" = some f ∧ ∀ a d, a ≠ d → h1 a = none → h1 d = none →
      X.Call k f (.ref a :: vs) ((h1.put d (.sdict [])).put a (.inst Ca d)) (fun v h2 => v = .none ∧ Q (.ref a) h2) R) h
  | .bi b es, fr, Q, h => wpEs X c R es fr (fun vs h1 => c.hd = true ∧ biP b vs h1 Q) h
  | .isi a ts, fr, Q, h => wpE X c R a fr (fun x h1 => match ts with | [t] => (match isiV X h1 x t with | some r => Q (.bool r) h1 | none => False) | _ => False) h
  | .bm m o es, fr, Q, h => wpE X c R o fr (fun x h1 => bmKind m x h1 ∧ wpEs X c R es fr (fun vs h2 => bmP m x vs h2 Q) h1) h
  | .meth o m es, fr, Q, h => wpE X c R o fr (fun x h1 => match x with
      | .ref a => (match h1 a with
        | some (.inst C d) => (match h1 d, X.meth C m with
          | some (.sdict fs), some f => (dget fs m = none) ∧ wpEs X c R es fr (fun vs h2 => c.hd = true ∧ ∃ k, c.k = k + 1 ∧ X.Call k f (.ref a :: vs) h2 Q R) h1
          | _, _ => False)
        | _ => False)
      | _ => False) h
  | .attr o n, fr, Q, h => wpE X c R o fr (fun x h1 => match x with
      | .ref a => (match h1 a with
        | some (.inst C d) => X.attr C n = true ∧ (match h1 d with
          | some (.sdict fs) => (match dget fs n with | some v => Q v h1 | none => False)
          | _ => False)
        | _ => False)
      | _ => False) h
  | .sub o i, fr, Q, h => wpE X c R o fr (fun x h1 => wpE X c R i fr (fun y h2 => match getV h2 x y with | some v => Q v h2 | none => False) h1) h
  | .slice o lo hi, fr, Q, h => wpE X c R o fr (fun x h1 => wpE X c R lo fr (fun y h2 => wpE X c R hi fr (fun z h3 => sliceP x y z h3 Q) h2) h1) h
  | .list es, fr, Q, h => wpEs X c R es fr (fun vs h1 => vs.length ≤ small ∧ newP (.list vs) h1 Q) h
  | .tuple es, fr, Q, h => wpEs X c R es fr (fun vs h1 => vs.length ≤ small ∧ Q (.tup vs) h1) h
  | .dict0, fr, Q, h => ∀ e, newP (.idict [] e) h Q
  | .sdict ks es, fr, Q, h => False
  | .idict1 k v, fr, Q, h => ∀ e a, h a = none → wpE X c R k fr (fun x h1 => wpE X c R v fr (fun y h2 => match x with | .int i => (∃ e', h2 a = some (.idict [] e')) ∧ ∀ e', Q (.ref a) (h2.put a (.idict [(i, y)] e')) | _ => False) h1) (h.put a (.idict [] e))
  | .comp j src conds elt, fr, Q, h => c.hd = true ∧ wpI X c R src (wpE X c R src fr) fr (fun vs g h1 =>
      loopC (fun v h2 K => wpC X c (fun _ _ => False) conds (fr.set j (some v)) K h2) (fun v h2 K => wpE X c (fun _ _ => False) elt (fr.set j (some v)) K h2) g vs [] h1 (fun out h2 => newP (.list out) h2 Q)) h
  | .range1 _, _, _, _ => False
  | .range2 _ _, _, _, _ => False
  | .rev _, _, _, _ => False
  | .isx a D, fr, Q, h => wpE X c R a fr (fun x h1 => match x with | .exc C => ((∃ n, X.exc n = some C) ∧ xis X C D = true) ∧ Q (.bool true) h1 | _ => False) h
noncomputable def wpEs (X : Ctx) (c : Cfg) (R : RX) : List Ex → Fm → (List V → AH → Prop) → AH → Prop
  | [], fr, Q, h => Q [] h
  | e :: es, fr, Q, h => wpE X c R e fr (fun x h1 => wpEs X c R es fr (fun xs h2 => Q (x :: xs) h2) h1) h
noncomputable def wpB (X : Ctx) (c : Cfg) (R : RX) (op : BoolOp) : List Ex → Fm → (V → AH → Prop) → AH → Prop
  | [], fr, Q, h => False
  | e :: es, fr, Q, h => wpE X c R e fr (fun x h1 => match es with
      | [] => Q x h1
      | _ :: _ => (match truthV h1 x with
        | some r => if r = (op == .Or) then Q x h1 else wpB X c R op es fr Q h1
        | none => False)) h
/-- conditions of a comprehension -/
noncomputable def wpC (X : Ctx) (c : Cfg) (R : RX) : List Ex → Fm → (Bool → AH → Prop) → AH → Prop
  | [], fr, K, h => K true h
  | e :: es, fr, K, h => es = [] ∧ wpT X c R e (wpE X c R e fr) fr K h
/-- truth of a test -/
noncomputable def wpT (X : Ctx) (c : Cfg) (R : RX) : Ex → ((V → AH → Prop) → AH → Prop) → Fm → (Bool → AH → Prop) → AH → Prop
  | .not a, _, fr, K, h => wpT X c R a (wpE X c R a fr) fr (fun b h1 => K (!b) h1) h
  | .bop op es, _, fr, K, h => wpTs X c R op es fr K h
  | .cmp op a b, _, fr, K, h => wpE X c R a fr (fun x h1 => wpE X c R b fr (fun y h2 => match cmpV h2 op x y with | some r => K r h2 | none => False) h1) h
  | e, whole, fr, K, h => whole (fun x h1 => match truthV h1 x with | some r => K r h1 | none => False) h
noncomputable def wpTs (X : Ctx) (c : Cfg) (R : RX) (op : BoolOp) : List Ex → Fm → (Bool → AH → Prop) → AH → Prop
  | [], fr, K, h => K (op == .And) h
  | e :: es, fr, K, h => wpT X c R e (wpE X c R e fr) fr (fun b h1 => if b = (op == .Or) then K b h1 else wpTs X c R op es fr K h1) h
/-- what is looped over -/
noncomputable def wpI (X : Ctx) (c : Cfg) (R : RX) : Ex → ((V → AH → Prop) → AH → Prop) → Fm → (List V → Guard → AH → Prop) → AH → Prop
  | .range1 b, _, fr, Q, h => wpE X c R b fr (fun y h1 => match y with
      | .int n => (0 ≤ n ∧ n ≤ small) ∧ Q ((List.range n.toNat).map fun i => .int (0 + (i : Nat))) freeG h1
      | _ => False) h
  | .rev a, _, fr, Q, h => wpE X c R a fr (fun x h1 => match x with
      | .ref l => (match h1 l with | some (.list vs) => Q vs.reverse (atG l (.list vs)) h1 | _ => False)
      | _ => False) h
  | e, whole, fr, Q, h => whole (fun x h1 => srcP Q h1 x) h
end
end Mine

namespace Mine
open PySem PyProof.Rows

noncomputable abbrev RS := Addr → Fm → AH → Prop
noncomputable abbrev QS := Out → Fm → AH → Prop

mutual
noncomputable def wpS (X : Ctx) (c : Cfg) : St → QS → RS → Fm → AH → Prop
  | .assign i e, Q, R, fr, h => wpE X c (fun C h => R C fr h) e fr (fun v h1 => Q .next (fr.set i (some v)) h1) h
  | .setitem o i e, Q, R, fr, h => wpE X c (fun C h => R C fr h) e fr (fun v h1 => wpE X c (fun C h => R C fr h) o fr (fun x h2 => wpE X c (fun C h => R C fr h) i fr (fun y h3 => setP x y v h3 (Q .next fr)) h2) h1) h
  | .setattr o n e, Q, R, fr, h => wpE X c (fun C h => R C fr h) e fr (fun v h1 => wpE X c (fun C h => R C fr h) o fr (fun x h2 => match x with
      | .ref a => (match h2 a with
        | some (.inst C d) => X.attr C n = true ∧ (match h2 d with
          | some (.sdict fs) => fs.length ≤ small ∧ Q .next fr (h2.put d (.sdict (dput fs n v)))
          | _ => False)
        | _ => False)
      | _ => False) h1) h
  | .unpack2 i j e, Q, R, fr, h => wpE X c (fun C h => R C fr h) e fr (fun v h1 => match v with
      | .tup [x, y] => c.hd = true ∧ Q .next ((fr.set i (some x)).set j (some y)) h1
      | _ => False) h
  | .expr e, Q, R, fr, h => wpE X c (fun C h => R C fr h) e fr (fun v h1 => Q .next fr h1) h
  | .ite e a b, Q, R, fr, h => wpT X c (fun C h => R C fr h) e (wpE X c (fun C h => R C fr h) e fr) fr (fun r h1 => if r = true then wpSs X c a Q R fr h1 else wpSs X c b Q R fr h1) h
  | .whil e b, Q, R, fr, h => c.hd = true ∧ whileL (fun fr h K => wpT X c (fun C h => R C fr h) e (wpE X c (fun C h => R C fr h) e fr) fr K h) (fun fr h K => wpSs X c b K R fr h) fr h Q
  | .forr i src b, Q, R, fr, h => c.hd = true ∧ wpI X c (fun C h => R C fr h) src (wpE X c (fun C h => R C fr h) src fr) fr (fun vs g h1 =>
      loopL (fun v fr h K => wpSs X c b K R (fr.set i (some v)) h) g vs fr h1 Q) h
  | .ret e, Q, R, fr, h => wpE X c (fun C h => R C fr h) e fr (fun v h1 => Q (.ret v) fr h1) h
  | .raise D e, Q, R, fr, h => (match X.exc D with | some C => c.hd = true ∧ wpE X c (fun C h => R C fr h) e fr (fun _ h1 => R C fr h1) h | none => False)
  | .tryx b hs, Q, R, fr, h => wpSs X c b Q (fun C fr1 h1 => wpH X c C hs Q R fr1 h1) fr h
  | .pass, Q, R, fr, h => Q .next fr h
noncomputable def wpSs (X : Ctx) (c : Cfg) : List St → QS → RS → Fm → AH → Prop
  | [], Q, R, fr, h => Q .next fr h
  | s :: r, Q, R, fr, h => wpS X c s (fun out fr1 h1 => match out with | .next => wpSs X c r Q R fr1 h1 | .ret v => Q (.ret v) fr1 h1) R fr h
noncomputable def wpH (X : Ctx) (c : Cfg) (C : Addr) : List Hd → QS → RS → Fm → AH → Prop
  | [], Q, R, fr, h => R C fr h
  | .mk D n b :: r, Q, R, fr, h => (match X.exc D with
    | some H => if X.sub C H = true then
        (match n with
        | none => wpSs X ⟨c.k, false⟩ b Q (fun _ _ _ => False) fr h
        | some i => wpSs X ⟨c.k, false⟩ b (fun out fr1 h1 => Q out (fr1.set i none) h1) (fun _ _ _ => False) (fr.set i (some (.exc C))) h)
      else wpH X c C r Q R fr h
    | none => False)
end

/-! frames -/
noncomputable abbrev Slots := List (Str × Nat)
noncomputable def RepOpt (h : Heap) : Option (Option V) → Option Value → Prop
  | some (some x), v => ∃ u, v = some u ∧ RepV h x u
  | some none, _ => True
  | none, _ => True
theorem RepOpt.mono {h h' : Heap} (k : VK h h') : ∀ {x v}, RepOpt h x v → RepOpt h' x v
  | some (some x), v, ⟨u, e, r⟩ => ⟨u, e, r.mono k⟩
  | some none, v, r => r
  | none, _, _ => trivial

structure FRep (σ : Slots) (env : Env) (fr : Fm) (ah : AH) (h : Heap) : Prop where
  loc : ∀ n i, σ.lookup n = some i → env.kindOf n = some .local → ∃ m, h.Ns env.locals m ∧ RepOpt h fr[i]? (m n)
  cel : ∀ n i, σ.lookup n = some i → (env.kindOf n = some .cell ∨ env.kindOf n = some .free) → ∃ c v, env.cells.lookup n = some c ∧ h.IsCell c v ∧ RepOpt h fr[i]? v
  uloc : ah env.locals = none
  ucel : ∀ n c, env.cells.lookup n = some c → ah c = none
  tloc : ∃ o, h.get? env.locals = some o
  tcel : ∀ n c, env.cells.lookup n = some c → ∃ o, h.get? c = some o

theorem Ns.same {h h' : Heap} {a m} (hn : h.Ns a m) (e : ∀ o, h.get? a = some o → ∃ o', h'.get? a = some o' ∧ o'.data = o.data) : h'.Ns a m := by
  obtain ⟨o, es, ep, x, d, r⟩ := hn
  obtain ⟨o', x', d'⟩ := e o x
  exact ⟨o', es, ep, x', d'.trans d, r⟩
theorem IsCell.same {h h' : Heap} {a v} (hn : h.IsCell a v) (e : ∀ o, h.get? a = some o → ∃ o', h'.get? a = some o' ∧ o'.data = o.data) : h'.IsCell a v := by
  obtain ⟨o, x, d⟩ := hn
  obtain ⟨o', x', d'⟩ := e o x
  exact ⟨o', x', d'.trans d⟩

section
variable {X : Ctx} {ah ah' ah'' : AH} {s s' s'' : Shared} {σ : Slots} {env : Env} {fr fr' : Fm}
theorem Kept.data {T : Addr → Prop} {h h' : Heap} (k : Kept T h h') {b : Addr} (n : ¬ T b) : ∀ o, h.get? b = some o → ∃ o', h'.get? b = some o' ∧ o'.data = o.data := fun o e =>
  let ⟨o', a, b⟩ := k b o e n; ⟨o', a, b.data⟩
theorem Heap.Ns.there {h : Heap} {a m} (hn : h.Ns a m) : ∃ o, h.get? a = some o := let ⟨o, _, _, x, _⟩ := hn; ⟨o, x⟩
theorem Heap.IsCell.there {h : Heap} {a m} (hn : h.IsCell a m) : ∃ o, h.get? a = some o := let ⟨o, x, _⟩ := hn; ⟨o, x⟩

/-- a function's own frame: places that it may store to -/
structure SRep (σ : Slots) (env : Env) (fr : Fm) (ah : AH) (h : Heap) : Prop where
  ns : ∃ m, h.Ns env.locals m ∧ ∀ n i, σ.lookup n = some i → env.kindOf n = some .local → RepOpt h fr[i]? (m n)
  cs : ∃ cm : Str → Option Value, (∀ n c, env.cells.lookup n = some c → h.IsCell c (cm n)) ∧ ∀ n i, σ.lookup n = some i → env.kindOf n = some .cell → (∃ c, env.cells.lookup n = some c) ∧ RepOpt h fr[i]? (cm n)
  apart : env.cells.Pairwise fun x y => x.2 ≠ y.2
  above : ∀ n c, (n, c) ∈ env.cells → env.locals < c
  uloc : ah env.locals = none
  ucel : ∀ n c, env.cells.lookup n = some c → ah c = none
  kinds : ∀ n i, σ.lookup n = some i → env.kindOf n = some .local ∨ env.kindOf n = some .cell
  inj : ∀ n n' i, σ.lookup n = some i → σ.lookup n' = some i → n = n'

theorem SRep.frep {h : Heap} (x : SRep σ env fr ah h) : FRep σ env fr ah h :=
  ⟨fun n i hn hk => let ⟨m, a, b⟩ := x.ns; ⟨m, a, b n i hn hk⟩,
   fun n i hn hk => by
    obtain ⟨cm, a, b⟩ := x.cs
    rcases hk with hk | hk
    · obtain ⟨⟨c, hc⟩, r⟩ := b n i hn hk
      exact ⟨c, _, hc, a n c hc, r⟩
    · rcases x.kinds n i hn with q | q <;> rw [q] at hk <;> simp at hk,
   x.uloc, x.ucel, (let ⟨_, a, _⟩ := x.ns; Heap.Ns.there a), fun n c e => let ⟨_, a, _⟩ := x.cs; Heap.IsCell.there (a n c e)⟩

theorem SRep.step (r : Rel X ah s.heap) (x : SRep σ env fr ah s.heap) (t : Step X ah s ah' s') : SRep σ env fr ah' s'.heap := by
  have vk := t.vk r
  obtain ⟨m, hn, hm⟩ := x.ns
  obtain ⟨cm, hc, hcm⟩ := x.cs
  refine ⟨⟨m, Ns.same hn (t.kept.data (by simp [x.uloc])), fun n i a b => (hm n i a b).mono vk⟩,
    ⟨cm, fun n c a => IsCell.same (hc n c a) (t.kept.data (by simp [x.ucel n c a])), fun n i a b => ⟨(hcm n i a b).1, (hcm n i a b).2.mono vk⟩⟩, x.apart, x.above, ?_, ?_, x.kinds, x.inj⟩
  · obtain ⟨o, ho⟩ := Heap.Ns.there hn; exact t.fresh _ o ho x.uloc
  · intro n c a; obtain ⟨o, ho⟩ := Heap.IsCell.there (hc n c a); exact t.fresh _ o ho (x.ucel n c a)

theorem FRep.step (r : Rel X ah s.heap) (x : FRep σ env fr ah s.heap) (t : Step X ah s ah' s') : FRep σ env fr ah' s'.heap := by
  have vk := t.vk r
  refine ⟨fun n i a b => ?_, fun n i a b => ?_, ?_, ?_, ?_, ?_⟩
  · obtain ⟨m, hn, hm⟩ := x.loc n i a b
    exact ⟨m, Ns.same hn (t.kept.data (by simp [x.uloc])), hm.mono vk⟩
  · obtain ⟨c, v, e, hc, rv⟩ := x.cel n i a b
    exact ⟨c, v, e, IsCell.same hc (t.kept.data (by simp [x.ucel n c e])), rv.mono vk⟩
  · obtain ⟨o, ho⟩ := x.tloc; exact t.fresh _ o ho x.uloc
  · intro n c a; obtain ⟨o, ho⟩ := x.tcel n c a; exact t.fresh _ o ho (x.ucel n c a)
  · obtain ⟨o, ho⟩ := x.tloc; obtain ⟨o', a, _⟩ := t.kept _ o ho (by simp [x.uloc]); exact ⟨o', a⟩
  · intro n c a; obtain ⟨o, ho⟩ := x.tcel n c a; obtain ⟨o', a, _⟩ := t.kept _ o ho (by simp [x.ucel n c a]); exact ⟨o', a⟩
end

/-! the text against the small text -/
noncomputable def biName : Bi → Str
  | .len => "len" | .list => "list" | .dict => "dict" | .tuple => "tuple" | .sorted => "sorted" | .min => "min" | .max => "max" | .int => "int" | .any => "any" | .all => "all" | .str => "str"
noncomputable def bmName : Bm → Str
  | .append => "append" | .insert => "insert" | .pop => "pop" | .index => "index" | .get => "get" | .setdefault => "setdefault" | .split => "split" | .join => "join"
noncomputable def isVar (sc : Scope) (n : Str) : Bool := match sc.names.lookup n with
  | some .local | some .cell | some .free => true
  | _ => false
noncomputable def isGlob (sc : Scope) (n : Str) : Bool := sc.names.lookup n == some .globalImplicit
noncomputable def tyName : Ty → Str
  | .int => "int" | .bool => "bool" | .str => "str" | .list => "list" | .dict => "dict" | .tuple => "tuple" | .own C => C | .exn C => C
noncomputable def ckScope (sc : Scope) (x : Str) (j : Nat) (σ : Slots) (scp : Scope) : Bool :=
  scp.kind == .function && !scp.isGenerator && !scp.isCoroutine && scp.names.lookup x == some .local && !(σ.any fun p => p.2 == j) && (σ.lookup (".0" : Str)).isNone &&
  scp.names.all fun p => match p.2 with
    | .local => scp.names.lookup p.1 == some .local && (p.1 == x || p.1 == (".0" : Str))
    | .free => scp.names.lookup p.1 == some .free && sc.names.lookup p.1 == some .cell && !(p.1 == ("__classdict__" : Str))
    | .globalImplicit => scp.names.lookup p.1 == some .globalImplicit
    | _ => false
noncomputable def litNone : Ex → Bool
  | .lit .none => true
  | _ => false

/-! one view of the text: no other match on the text stands below -/
structure Vw where
  tag : Nat := 0
  s : Str := ⟨#[]⟩
  b : Bool := false
  op : Operator := .Add
  cop : List CmpOp := []
  uop : UnaryOp := .Not
  bop : BoolOp := .And
  c : Const := .none
  es : List Expr := []
  l : Option Expr := none
  u : Option Expr := none
  gs : List Comprehension := []
  scp : Option Scope := none
  ln : Nat := 0
noncomputable def vw : Expr → Vw
  | .Constant c _ _ => { tag := 1, c := c }
  | .Name n _ => { tag := 2, s := n }
  | .BinOp l o r _ => { tag := 3, op := o, es := [l, r] }
  | .Compare l os rs _ => { tag := 4, cop := os, es := l :: rs }
  | .UnaryOp o x _ => { tag := 5, uop := o, es := [x] }
  | .BoolOp o vs _ => { tag := 6, bop := o, es := vs }
  | .Attribute v n p => { tag := 9, s := n, es := [v], ln := p.endLine }
  | .Subscript v k _ => { tag := 10, es := [v, k] }
  | .Slice l u st _ => { tag := 11, l := l, u := u, b := st.isNone }
  | .List vs _ => { tag := 12, es := vs }
  | .Tuple vs _ _ => { tag := 13, es := vs }
  | .Dict ks vs _ => { tag := 14, b := ks.isEmpty && vs.isEmpty, es := (match ks with | [some k] => (match vs with | [v] => [k, v] | _ => []) | _ => []) }
  | .ListComp el gs scp _ => { tag := 15, es := [el], gs := gs, scp := some scp }
  | .SetComp _ _ _ _ => { tag := 16 }
  | .DictComp _ _ _ _ _ => { tag := 16 }
  | .Starred _ _ => { tag := 17 }
  | .Set _ _ _ => { tag := 17 }
  | .Call g args kw p => { tag := 20, es := g :: args, b := kw.isEmpty, ln := p.line }
  | _ => {}
noncomputable def plainE (e : Expr) : Bool := !((vw e).tag == 17) && !((vw e).tag == 11)
noncomputable def isComp (e : Expr) : Bool := (vw e).tag == 15 || (vw e).tag == 16
noncomputable def plainO (e : Expr) : Bool := !((vw e).tag == 20 && (vw e).b && (match (vw e).es with | [g] => (vw g).tag == 2 && (vw g).s == ("super" : Str) | _ => false))
theorem tg {a b : Nat} {P : Prop} (h : a = b) (n : Nat.beq a b = false) : P := by subst h; rw [Nat.beq_refl] at n; cases n
section
variable {e : Expr}
theorem vw1 (h : (vw e).tag = 1) : ∃ c k p, e = .Constant c k p := by cases e <;> first | exact ⟨_, _, _, rfl⟩ | exact tg h rfl
theorem vw2 (h : (vw e).tag = 2) : ∃ n p, e = .Name n p := by cases e <;> first | exact ⟨_, _, rfl⟩ | exact tg h rfl
theorem vw3 (h : (vw e).tag = 3) : ∃ l o r p, e = .BinOp l o r p := by cases e <;> first | exact ⟨_, _, _, _, rfl⟩ | exact tg h rfl
theorem vw4 (h : (vw e).tag = 4) : ∃ l o r p, e = .Compare l o r p := by cases e <;> first | exact ⟨_, _, _, _, rfl⟩ | exact tg h rfl
theorem vw5 (h : (vw e).tag = 5) : ∃ o x p, e = .UnaryOp o x p := by cases e <;> first | exact ⟨_, _, _, rfl⟩ | exact tg h rfl
theorem vw6 (h : (vw e).tag = 6) : ∃ o x p, e = .BoolOp o x p := by cases e <;> first | exact ⟨_, _, _, rfl⟩ | exact tg h rfl
theorem vw9 (h : (vw e).tag = 9) : ∃ o x p, e = .Attribute o x p := by cases e <;> first | exact ⟨_, _, _, rfl⟩ | exact tg h rfl
theorem vw10 (h : (vw e).tag = 10) : ∃ o x p, e = .Subscript o x p := by cases e <;> first | exact ⟨_, _, _, rfl⟩ | exact tg h rfl
theorem vw11 (h : (vw e).tag = 11) : ∃ l u st p, e = .Slice l u st p := by cases e <;> first | exact ⟨_, _, _, _, rfl⟩ | exact tg h rfl
theorem vw12 (h : (vw e).tag = 12) : ∃ o p, e = .List o p := by cases e <;> first | exact ⟨_, _, rfl⟩ | exact tg h rfl
theorem vw13 (h : (vw e).tag = 13) : ∃ o k p, e = .Tuple o k p := by cases e <;> first | exact ⟨_, _, _, rfl⟩ | exact tg h rfl
theorem vw14 (h : (vw e).tag = 14) : ∃ o k p, e = .Dict o k p := by cases e <;> first | exact ⟨_, _, _, rfl⟩ | exact tg h rfl
theorem vw15 (h : (vw e).tag = 15) : ∃ l gs scp p, e = .ListComp l gs scp p := by cases e <;> first | exact ⟨_, _, _, _, rfl⟩ | exact tg h rfl
theorem vw20 (h : (vw e).tag = 20) : ∃ g args kw p, e = .Call g args kw p := by cases e <;> first | exact ⟨_, _, _, _, rfl⟩ | exact tg h rfl
end
noncomputable def ck1 (f : Expr → Bool) : List Expr → Bool
  | [x] => f x
  | _ => false
noncomputable def ck2 (f g : Expr → Bool) : List Expr → Bool
  | [x, y] => f x && g y
  | _ => false
noncomputable def ckCons (f : Expr → Bool) (g : List Expr → Bool) : List Expr → Bool
  | x :: xs => plainE x && f x && g xs
  | [] => false
noncomputable def ckO (x : Ex) (f : Expr → Bool) : Option Expr → Bool
  | none => litNone x
  | some e => f e
noncomputable def ckCall (k : Str → List Expr → Bool) : List Expr → Bool
  | g :: args => (vw g).tag == 2 && k (vw g).s args
  | [] => false
noncomputable def ckMeth (k : Expr → Str → Nat → List Expr → Bool) : List Expr → Bool
  | g :: args => (vw g).tag == 9 && ck1 (fun v => k v (vw g).s (vw g).ln args) (vw g).es
  | [] => false
noncomputable def ckGen (k : Str → Expr → List Expr → Bool) : List Comprehension → Bool
  | [g] => (vw g.target).tag == 2 && g.is_async == 0 && k (vw g.target).s g.iter g.ifs
  | _ => false
theorem ck1_el {f : Expr → Bool} {es : List Expr} (h : ck1 f es = true) : ∃ x, es = [x] ∧ f x = true := by
  match es, h with
  | [x], h => exact ⟨x, rfl, h⟩
theorem ck2_el {f g : Expr → Bool} {es : List Expr} (h : ck2 f g es = true) : ∃ x y, es = [x, y] ∧ f x = true ∧ g y = true := by
  match es, h with
  | [x, y], h => exact ⟨x, y, rfl, (Bool.and_eq_true _ _).mp h⟩
theorem ckCons_el {f : Expr → Bool} {g : List Expr → Bool} {es : List Expr} (h : ckCons f g es = true) : ∃ x xs, es = x :: xs ∧ (plainE x = true ∧ f x = true) ∧ g xs = true := by
  match es, h with
  | x :: xs, h => exact ⟨x, xs, rfl, (by have := (Bool.and_eq_true _ _).mp h; exact ⟨(Bool.and_eq_true _ _).mp this.1, this.2⟩)⟩
theorem ckCall_el {k : Str → List Expr → Bool} {es : List Expr} (h : ckCall k es = true) : ∃ n p args, es = .Name n p :: args ∧ k n args = true := by
  match es, h with
  | g :: args, h =>
    have h := (Bool.and_eq_true _ _).mp h
    obtain ⟨n, p, rfl⟩ := vw2 (beq_iff_eq.mp h.1)
    exact ⟨n, p, args, rfl, h.2⟩
theorem ckMeth_el {k : Expr → Str → Nat → List Expr → Bool} {es : List Expr} (h : ckMeth k es = true) : ∃ v n p args, es = .Attribute v n p :: args ∧ k v n p.endLine args = true := by
  match es, h with
  | g :: args, h =>
    have h := (Bool.and_eq_true _ _).mp h
    obtain ⟨v, n, p, rfl⟩ := vw9 (beq_iff_eq.mp h.1)
    exact ⟨v, n, p, args, rfl, h.2⟩
theorem ckGen_el {k : Str → Expr → List Expr → Bool} {gs : List Comprehension} (h : ckGen k gs = true) : ∃ x p it ifs, gs = [⟨.Name x p, it, ifs, 0⟩] ∧ k x it ifs = true := by
  match gs, h with
  | [⟨t, it, ifs, as⟩], h =>
    have h := (Bool.and_eq_true _ _).mp h
    have h1 := (Bool.and_eq_true _ _).mp h.1
    obtain ⟨n, p, e⟩ := vw2 (beq_iff_eq.mp h1.1)
    have e : t = _ := e
    subst e
    have e2 : as = 0 := beq_iff_eq.mp h1.2
    subst e2
    exact ⟨n, p, it, ifs, rfl, h.2⟩
noncomputable def litC : V → Option Const
  | .none => some .none
  | .bool b => some (.bool b)
  | .int i => some (.int i)
  | .str s => some (.str s)
  | _ => none
noncomputable def ckLit (v : V) (e : Expr) : Bool := (vw e).tag == 1 && litC v == some (vw e).c
noncomputable def ckTy (sc : Scope) (t : Ty) (e : Expr) : Bool := (vw e).tag == 2 && (vw e).s == tyName t && isGlob sc (vw e).s
noncomputable def ckTys (sc : Scope) : List Ty → Expr → Bool
  | [t], e => ckTy sc t e
  | _, _ => false

mutual
noncomputable def ckE (sc : Scope) (σ : Slots) : Ex → Expr → Bool
  | .lit v, e => ckLit v e
  | .var i, e => (vw e).tag == 2 && σ.lookup (vw e).s == some i && isVar sc (vw e).s && !((vw e).s == ("__debug__" : Str)) && !((vw e).s == ("__classdict__" : Str))
  | .glob g, e => (vw e).tag == 2 && (vw e).s == g && isGlob sc (vw e).s && !((vw e).s == ("__debug__" : Str))
  | .bin op a b, e => (vw e).tag == 3 && (vw e).op == op && ck2 (ckE sc σ a) (ckE sc σ b) (vw e).es
  | .cmp op a b, e => (vw e).tag == 4 && (vw e).cop == [op] && ck2 (ckE sc σ a) (fun r => !behindInMarks op r && ckE sc σ b r) (vw e).es
  | .not a, e => (vw e).tag == 5 && (vw e).uop == .Not && ck1 (ckE sc σ a) (vw e).es
  | .neg a, e => (vw e).tag == 5 && (vw e).uop == .USub && ck1 (ckE sc σ a) (vw e).es
  | .bop op es, e => (vw e).tag == 6 && (vw e).bop == op && ckEs sc σ es (vw e).es
  | .callf f es, e => (vw e).tag == 20 && (vw e).b && ckCall (fun n args => n == f && isGlob sc n && !(n == ("__debug__" : Str)) && !(n == ("super" : Str)) && !(n.cps.contains 46) && ckEs sc σ es args) (vw e).es
  | .newo _ _, _ => false
  | .bi b es, e => (vw e).tag == 20 && (vw e).b && ckCall (fun n args => n == biName b && isGlob sc n && ckEs sc σ es args) (vw e).es
  | .isi a ts, e => (vw e).tag == 20 && (vw e).b && ckCall (fun n args => n == ("isinstance" : Str) && isGlob sc n && ck2 (fun x => plainE x && ckE sc σ a x) (fun t => ckTys sc ts t) args) (vw e).es
  | .bm m o es, e => (vw e).tag == 20 && (vw e).b && ckMeth (fun v n ln args => plainO v && n == bmName m && ln == (vw e).ln && decide (args.length < 29) && ckE sc σ o v && ckEs sc σ es args) (vw e).es
  | .meth _ _ _, _ => false
  | .attr _ _, _ => false
  | .sub o i, e => (vw e).tag == 10 && ck2 (ckE sc σ o) (fun k => plainE k && ckE sc σ i k) (vw e).es
  | .slice o lo hi, e => (vw e).tag == 10 && ck2 (ckE sc σ o) (fun k => (vw k).tag == 11 && (vw k).b && ckO lo (ckE sc σ lo) (vw k).l && ckO hi (ckE sc σ hi) (vw k).u) (vw e).es
  | .list es, e => (vw e).tag == 12 && ckEs sc σ es (vw e).es
  | .tuple es, e => (vw e).tag == 13 && ckEs sc σ es (vw e).es
  | .dict0, e => (vw e).tag == 14 && (vw e).b
  | .comp j src conds elt, e => (vw e).tag == 15 && (match (vw e).scp with
    | some scp => ckGen (fun x it ifs => plainE it && ckScope sc x j σ scp && ckI sc σ src it (ckE sc σ src it) && ckEs scp ((x, j) :: σ) conds ifs && ck1 (ckE scp ((x, j) :: σ) elt) (vw e).es) (vw e).gs
    | none => false)
  | .sdict _ _, _ => false
  | .idict1 k v, e => (vw e).tag == 14 && ck2 (ckE sc σ k) (ckE sc σ v) (vw e).es
  | .range1 _, _ => false
  | .range2 _ _, _ => false
  | .rev _, _ => false
  | .isx _ _, _ => false
noncomputable def ckEs (sc : Scope) (σ : Slots) : List Ex → List Expr → Bool
  | [], es => es.isEmpty
  | x :: xs, es => ckCons (ckE sc σ x) (ckEs sc σ xs) es
noncomputable def ckI (sc : Scope) (σ : Slots) : Ex → Expr → Bool → Bool
  | .range1 b, e, _ => (vw e).tag == 20 && (vw e).b && ckCall (fun n args => n == ("range" : Str) && isGlob sc n && ck1 (fun y => plainE y && ckE sc σ b y) args) (vw e).es
  | .rev a, e, _ => (vw e).tag == 20 && (vw e).b && ckCall (fun n args => n == ("reversed" : Str) && isGlob sc n && ck1 (fun y => plainE y && ckE sc σ a y) args) (vw e).es
  | _, _, w => w
end
end Mine

namespace Mine
open PySem PyProof.Rows

/-! what the notes on an exception in flight do to the heap -/
noncomputable def Mod (F : List Addr) (D : Addr → Prop) (h h' : Heap) : Prop := ∀ b o, h.get? b = some o → ∃ o', h'.get? b = some o' ∧
  (o' = o ∨ (b ∈ F ∧ ∃ sl, o' = { o with slots := sl }) ∨ (D b ∧ o'.cls = o.cls ∧ (∃ fs, o.data = .fields fs) ∧ ∃ fs, o'.data = .fields fs))
section
variable {F : List Addr} {D : Addr → Prop} {h h' h'' : Heap}
theorem Mod.refl (h : Heap) : Mod F D h h := fun _ o e => ⟨o, e, .inl rfl⟩
theorem Mod.trans (x : Mod F D h h') (y : Mod F D h' h'') : Mod F D h h'' := fun b o e => by
  obtain ⟨o1, e1, p⟩ := x b o e
  obtain ⟨o2, e2, q⟩ := y b o1 e1
  refine ⟨o2, e2, ?_⟩
  rcases p with rfl | ⟨m, sl, rfl⟩ | ⟨d, c, f, g⟩
  · exact q
  · rcases q with rfl | ⟨_, sl', rfl⟩ | ⟨d, c, f, g⟩
    · exact .inr (.inl ⟨m, sl, rfl⟩)
    · exact .inr (.inl ⟨m, sl', rfl⟩)
    · exact .inr (.inr ⟨d, c, f, g⟩)
  · rcases q with rfl | ⟨_, sl', rfl⟩ | ⟨_, c', _, g'⟩
    · exact .inr (.inr ⟨d, c, f, g⟩)
    · exact .inr (.inr ⟨d, c, f, g⟩)
    · exact .inr (.inr ⟨d, c'.trans c, f, g'⟩)
theorem Mod.slots (x : Heap.SlotsOnly F h h') : Mod F D h h' := fun b o e => by
  by_cases m : b ∈ F
  · obtain ⟨sl, q⟩ := x.2.2 b o e; exact ⟨_, q, .inr (.inl ⟨m, sl, rfl⟩)⟩
  · exact ⟨o, (x.2.1 b m).trans e, .inl rfl⟩
theorem Mod.push (h : Heap) (o : Obj) : Mod F D h (h.push o) := fun b o e => ⟨o, Heap.get?_push_of_some _ e, .inl rfl⟩
theorem Mod.field {a : Addr} {o : Obj} {vs : Array Value} (e : h.get? a = some o) (hd : o.data = .fields vs) (da : D a) (f : Array Value → Array Value) : Mod F D h (h.update a (Obj.mapFields f)) := fun b ob eb => by
  by_cases q : b = a
  · subst q
    rw [e] at eb; cases eb
    exact ⟨_, Heap.get?_update_self _ e (Obj.isFreed_of_fields (Obj.data_mapFields hd _)), .inr (.inr ⟨da, Obj.cls_mapFields _ _, ⟨vs, hd⟩, _, Obj.data_mapFields hd _⟩)⟩
  · exact ⟨ob, by rw [Heap.get?_update_other _ _ (Ne.symm q)]; exact eb, .inl rfl⟩
end

section
variable {M : Model} {A : Around} {E : Value → Shared → Prop} {s : Shared} {base s0 : Heap} {env : Env} {outer : List Env} {L a C : Addr} {x : Option Value}

theorem entry_ok {oe : Obj} {vs : Array Value} {head : Value} {hadNext : Bool} {Q : Unit → Shared → Prop}
    (hfr : A.frames = some (env :: outer)) (hl : s.heap.FunFrames base (env :: outer)) (hf : env.frame = some L)
    (k0 : ∀ b o, s0.get? b = some o → ∃ o', s.heap.get? b = some o') (na : s0.get? a = none)
    (he : s.heap.get? a = some oe) (hc : oe.cls = .ref C) (hd : oe.data = .fields vs) (hsz : 1 < vs.size)
    (h : ∀ h', Mod ((env :: outer).filterMap (·.frame)) (fun b => s0.get? b = none) s.heap h' → Fly s0 h' a C (some (rawInt L)) → Q () { s with heap := h' }) :
    wpAny M A (do let f ← frameOf env; let pl ← entryPlaceOf L hadNext; let b ← EntryCells.newEntry head f .none (rawInt L) .none pl; setField (.ref a) 1 b) Q E s := by
  refine wpAny_bind (wpAny_frameOf_fun hfr hl hf fun h1 s1 => ?_)
  refine wpAny_bind (wpAny_entryPlaceOf fun pl hpl => ?_)
  unfold EntryCells.newEntry newFields
  refine wpAny_bind (wpAny_newObj_type ?_ (hpl.sizeOk5 _ _ _ _ _))
  have an : a ∉ (env :: outer).filterMap (·.frame) := fun m => by
    obtain ⟨_, o, ho, nf⟩ := hl.mem m
    rw [he] at ho; cases ho; exact nf vs hd
  have he1 : h1.get? a = some oe := (s1.2.1 a an).trans he
  have m1 : Mod ((env :: outer).filterMap (·.frame)) (fun b => s0.get? b = none) s.heap h1 := .slots s1
  have m2 := m1.trans (.push h1 { cls := .type "traceback", dict := none, data := .fields ([head, .ref L, .none, rawInt L, .none] ++ (if pl.isEmpty then List.replicate 6 Value.none else pl)).toArray })
  have he2 := Heap.get?_push_of_some (h := h1) { cls := .type "traceback", dict := none, data := .fields ([head, .ref L, .none, rawInt L, .none] ++ (if pl.isEmpty then List.replicate 6 Value.none else pl)).toArray } he1
  refine wpAny_setField he2 hd hsz (h _ (m2.trans (.field he2 hd na _)) ?_)
  have Ta : h1.objs.size ≠ a := Nat.ne_of_gt (Heap.lt_size he1)
  have hd3 := Obj.data_mapFields hd (·.setIfInBounds 1 (Value.ref h1.objs.size))
  refine .tr _ _ h1.objs.size _ _ _ (Heap.get?_update_self _ he2 (Obj.isFreed_of_fields hd3)) ((Obj.cls_mapFields _ _).trans hc) hd3 (by simp [hsz]) ?_ Ta ((Heap.get?_update_other _ _ (Ne.symm Ta)).trans (Heap.get?_push_size h1 rfl)) rfl
    (by first | (simp; done) | (rcases hpl with rfl | ⟨_, _, _, _, _, _, _, rfl⟩ <;> simp)) rfl
  refine none_back k0 ?_
  cases q : s.heap.get? h1.objs.size with
  | none => rfl
  | some o => have := Heap.lt_size q; rw [← s1.1] at this; exact absurd this (Nat.lt_irrefl _)

theorem note_ok {Q : Unit → Shared → Prop} (hfr : A.frames = some (env :: outer)) (hl : s.heap.FunFrames base (env :: outer)) (hf : env.frame = some L)
    (k0 : ∀ b o, s0.get? b = some o → ∃ o', s.heap.get? b = some o') (na : s0.get? a = none) (f : Fly s0 s.heap a C x) (ok : x = none ∨ x = some .none ∨ x = some (rawInt L))
    (h : ∀ h', Mod ((env :: outer).filterMap (·.frame)) (fun b => s0.get? b = none) s.heap h' → Fly s0 h' a C (some (rawInt L)) → Q () { s with heap := h' }) :
    wpAny M A (noteFrame (.ref a) env) Q E s := by
  cases f with
  | raw oe vs he hc hd h1 hx =>
    unfold noteFrame
    simp only [hf]
    refine wpAny_bind (wpAny_field he hd h1 ?_)
    rw [if_neg (by decide)]
    exact entry_ok hfr hl hf k0 na he hc hd (Array.getElem?_eq_some_iff.mp h1).1 h
  | tr oe vs T oT ts fl he hc hd h1 nT Ta hT dT h3 hx =>
    unfold noteFrame
    simp only [hf]
    refine wpAny_bind (wpAny_field he hd h1 ?_)
    rw [if_pos (show (Value.ref T != Value.none) = true from by simp)]
    refine wpAny_bind (wpAny_field hT dT h3 ?_)
    by_cases q : fl = rawInt L
    · subst q
      rw [if_pos (by simp)]
      exact wpAny_pure (h _ (.refl _) (.tr oe vs T oT ts _ he hc hd h1 nT Ta hT dT h3 rfl))
    · rw [if_neg (by simpa using q)]
      refine wpAny_bind (wpAny_setField hT dT (Array.getElem?_eq_some_iff.mp h3).1 ?_)
      have m1 : Mod ((env :: outer).filterMap (·.frame)) (fun b => s0.get? b = none) s.heap (s.heap.update T (Obj.mapFields (·.setIfInBounds 3 Value.none))) := .field hT dT nT _
      have fr1 : (s.heap.update T (Obj.mapFields (·.setIfInBounds 3 Value.none))).FunFrames base (env :: outer) := hl.of_keeps fun b o e nf => by
        refine ⟨o, ?_, rfl⟩
        rw [Heap.get?_update_other _ _ (fun z => ?_)]
        · exact e
        · subst z; rw [hT] at e; cases e; exact nf ts dT
      exact entry_ok (s0 := s0) hfr fr1 hf (fun b o e => by obtain ⟨o', e'⟩ := k0 b o e; obtain ⟨o2, e2, _⟩ := m1 b o' e'; exact ⟨o2, e2⟩) na ((Heap.get?_update_other _ _ Ta).trans he) hc hd (Array.getElem?_eq_some_iff.mp h1).1
        fun h' m f => h h' (m1.trans m) f

theorem land_ok {F : List Addr} {fl : Value} {f : Option Addr} {Q : Unit → Shared → Prop} (y : Fly s0 s.heap a C (some fl)) (h : ∀ h', Mod F (fun b => s0.get? b = none) s.heap h' → Fly s0 h' a C (some (f.elim Value.none fun f => rawInt f)) → Q () { s with heap := h' }) :
    wpAny M A (setFlight (.ref a) f) Q E s := by
  cases y with
  | raw oe vs he hc hd h1 hx => cases hx
  | tr oe vs T oT ts fl he hc hd h1 nT Ta hT dT h3 hx =>
    unfold setFlight
    refine wpAny_bind (wpAny_field he hd h1 ?_)
    rw [if_pos (show (Value.ref T != Value.none) = true from by simp)]
    have sz := (Array.getElem?_eq_some_iff.mp h3).1
    refine wpAny_setField hT dT sz (h _ (.field hT dT nT _) ?_)
    exact .tr oe vs T _ _ _ ((Heap.get?_update_other _ _ Ta).trans he) hc hd h1 nT Ta (Heap.get?_update_self _ hT (Obj.isFreed_of_fields (Obj.data_mapFields dT _))) (Obj.data_mapFields dT _) (by simp [sz]) rfl
end

section
variable {X : Ctx} {A : Around} {σ : Slots} {env : Env} {fr : Fm} {ah ah0 : AH} {s s0 : Shared} {h' : Heap} {F : List Addr}

theorem Frs.fun {env : Env} {outer : List Env} (f : Frs X A ah s.heap) (e : A.frames = some (env :: outer)) : s.heap.FunFrames X.base (env :: outer) := by
  obtain ⟨l, hl, f⟩ := f
  rw [e] at hl; cases hl
  have go : ∀ l : List Env, (∀ e ∈ l, e.scope.kind ≠ .module ∧ ∃ L o, e.frame = some L ∧ X.base.get? L = none ∧ s.heap.get? L = some o ∧ (∃ es ep, o.data = .dict es ep) ∧ ah L = none) → s.heap.FunFrames X.base l := by
    intro l
    induction l with
    | nil => intro _; trivial
    | cons e l ih =>
      intro q
      obtain ⟨k, L, o, a1, a2, a3, ⟨es, ep, a4⟩, a5⟩ := q e (.head _)
      exact ⟨k, ⟨L, o, a1, a2, a3, fun vs z => by rw [a4] at z; cases z⟩, ih fun e he => q e (.tail _ he)⟩
  exact go _ f
/-- the frames' places -/
structure FrsAt (X : Ctx) (ah : AH) (h : Heap) (F : List Addr) : Prop where
  dict : ∀ b ∈ F, ∃ o, h.get? b = some o ∧ (∃ es ep, o.data = .dict es ep) ∧ ah b = none ∧ X.base.get? b = none
theorem Frs.at {l : List Env} (f : Frs X A ah s.heap) (e : A.frames = some l) : FrsAt X ah s.heap (l.filterMap (·.frame)) := by
  obtain ⟨l', hl, f⟩ := f
  rw [e] at hl; cases hl
  refine ⟨fun b hb => ?_⟩
  obtain ⟨e, he, hf⟩ := List.mem_filterMap.mp hb
  obtain ⟨k, L, o, a1, a2, a3, a4, a5⟩ := f e he
  rw [a1] at hf; cases hf
  exact ⟨o, a3, a4, a5, a2⟩
theorem Mod.data (m : Mod F (fun b => s0.heap.get? b = none) s.heap h') {b : Addr} {o : Obj} (e : s.heap.get? b = some o) (nf : ∀ vs, o.data ≠ .fields vs) : ∃ o', h'.get? b = some o' ∧ o'.data = o.data := by
  obtain ⟨o', e', q⟩ := m b o e
  rcases q with rfl | ⟨_, sl, rfl⟩ | ⟨_, _, ⟨fs, z⟩, _⟩
  · exact ⟨_, e', rfl⟩
  · exact ⟨_, e', rfl⟩
  · exact absurd z (nf fs)
theorem Mod.vk (m : Mod F (fun b => s0.heap.get? b = none) s.heap h') (fa : FrsAt X ah s.heap F) : VK s.heap h' := fun b o e l => by
  obtain ⟨o', e', q⟩ := m b o e
  refine ⟨o', e', ?_⟩
  rcases q with q | ⟨mb, sl, q⟩ | ⟨_, c, f, g⟩
  · exact .inl q
  · obtain ⟨o2, e2, ⟨es, ep, d⟩, _⟩ := fa.dict b mb
    rw [e] at e2; cases e2; exact absurd d (l.notDict es ep)
  · exact .inr ⟨c, f, g⟩
theorem RepO.notF {prog : Program} {w : World} {h : Heap} {a : Addr} {o : O} (r : RepO prog w h a o) : ∃ ob, h.get? a = some ob ∧ ∀ vs, ob.data ≠ .fields vs := by
  cases o with
  | list xs => obtain ⟨n, items, hg, r⟩ := r; exact ⟨_, hg, fun vs q => by cases q⟩
  | flist xs => obtain ⟨items, ⟨ob, hg, hc, n, hd⟩, r⟩ := r; exact ⟨ob, hg, fun vs q => by rw [hd] at q; cases q⟩
  | idict kvs ep => obtain ⟨vs, ⟨ob, es, hg, _, hd, _⟩, r⟩ := r; exact ⟨ob, hg, fun vs q => by rw [hd] at q; cases q⟩
  | sdict kvs => obtain ⟨m, ⟨ob, es, ep, hg, hd, _⟩, r⟩ := r; exact ⟨ob, hg, fun vs q => by rw [hd] at q; cases q⟩
  | inst C d => obtain ⟨ob, hg, hc, hd, hp⟩ := r; exact ⟨ob, hg, fun vs q => by rw [hp] at q; cases q⟩
theorem Rel.mod (r : Rel X ah s.heap) (r0 : Rel X ah0 s0.heap) (m : Mod F (fun b => s0.heap.get? b = none) s.heap h') (fa : FrsAt X ah s.heap F) : Rel X ah h' := by
  refine ⟨fun b o q => ?_, fun a o q => ?_, r.own⟩
  · obtain ⟨o', e', z⟩ := m b o (r.base b o q)
    rcases z with rfl | ⟨mb, _⟩ | ⟨d, _⟩
    · exact e'
    · obtain ⟨_, _, _, _, nb⟩ := fa.dict b mb; rw [q] at nb; cases nb
    · have := r0.base b o q; rw [d] at this; cases this
  · refine (r.rep a o q).mono (m.vk fa) fun ob e => ?_
    obtain ⟨o', e', z⟩ := m a ob e
    rcases z with rfl | ⟨mb, _⟩ | ⟨_, _, ⟨fs, f⟩, _⟩
    · exact e'
    · obtain ⟨_, _, _, u, _⟩ := fa.dict a mb; rw [q] at u; cases u
    · obtain ⟨ob', e2, nf⟩ := (r.rep a o q).notF
      rw [e] at e2; cases e2; exact absurd f (nf fs)
theorem SRep.mod (f : SRep σ env fr ah s.heap) (m : Mod F (fun b => s0.heap.get? b = none) s.heap h') (fa : FrsAt X ah s.heap F) : SRep σ env fr ah h' := by
  obtain ⟨mm, hn, hm⟩ := f.ns
  obtain ⟨cm, hc, hcm⟩ := f.cs
  have vk := m.vk fa
  refine ⟨⟨mm, Ns.same hn fun o e => m.data e fun vs q => ?_, fun n i a b => (hm n i a b).mono vk⟩,
    ⟨cm, fun n c a => IsCell.same (hc n c a) fun o e => m.data e fun vs q => ?_, fun n i a b => ⟨(hcm n i a b).1, (hcm n i a b).2.mono vk⟩⟩, f.apart, f.above, f.uloc, f.ucel, f.kinds, f.inj⟩
  · obtain ⟨o', es, ep, e', d, _⟩ := hn
    rw [e] at e'; cases e'; rw [d] at q; cases q
  · obtain ⟨o', e', d⟩ := hc n c a
    rw [e] at e'; cases e'; rw [d] at q; cases q
theorem Kept.mod {T : Addr → Prop} (k : Kept T s0.heap s.heap) (m : Mod F (fun b => s0.heap.get? b = none) s.heap h') (fa : FrsAt X ah s.heap F) : Kept T s0.heap h' := fun b o e n => by
  obtain ⟨o1, e1, so⟩ := k b o e n
  obtain ⟨o', e', z⟩ := m b o1 e1
  rcases z with rfl | ⟨mb, sl, rfl⟩ | ⟨d, _⟩
  · exact ⟨_, e', so⟩
  · obtain ⟨o2, e2, ⟨es, ep, d⟩, _⟩ := fa.dict b mb
    rw [e1] at e2; cases e2
    exact ⟨_, e', so.trans (.inr ⟨⟨es, ep, d⟩, rfl, rfl, rfl⟩)⟩
  · rw [e] at d; cases d
theorem Step.mod (t : Step X ah0 s0 ah s) (r0 : Rel X ah0 s0.heap) (m : Mod F (fun b => s0.heap.get? b = none) s.heap h') (fa : FrsAt X ah s.heap F) : Step X ah0 s0 ah { s with heap := h' } :=
  ⟨t.rel.mod r0 m fa, t.kept.mod m fa, t.fresh, fun b o e => by obtain ⟨o', e'⟩ := t.there b o e; obtain ⟨o2, e2, _⟩ := m b o' e'; exact ⟨o2, e2⟩, t.rest⟩
theorem Frs.mod (f : Frs X A ah s.heap) (m : Mod F (fun b => s0.heap.get? b = none) s.heap h') : Frs X A ah h' := by
  obtain ⟨l, hl, f⟩ := f
  refine ⟨l, hl, fun e he => ?_⟩
  obtain ⟨k, L, o, a1, a2, a3, ⟨es, ep, a4⟩, a5⟩ := f e he
  obtain ⟨o', e', d⟩ := m.data a3 fun vs q => by rw [a4] at q; cases q
  exact ⟨k, L, o', a1, a2, e', ⟨es, ep, d.trans a4⟩, a5⟩
end
end Mine

namespace Mine
open PySem PyProof.Rows PySem.Calls

theorem rep_none {h : Heap} : RepV h .none .none := by simp [RepV]
theorem rep_bool {h : Heap} {b : Bool} : RepV h (.bool b) (.bool b) := by simp [RepV]
theorem rep_int {h : Heap} {i : Int} {t : Tok} : RepV h (.int i) (.int i t) := by simp [RepV]
theorem rep_str {h : Heap} {x : Str} {t : Tok} : RepV h (.str x) (.str x t) := by simp [RepV]
theorem rep_ref {h : Heap} {a : Addr} : RepV h (.ref a) (.ref a) := by simp [RepV]

structure EnvOk (sc : Scope) (env : Env) : Prop where
  kind : env.scope.kind = .function
  loc : ∀ n, sc.names.lookup n = some .local → env.kindOf n = some .local
  cf : ∀ n, sc.names.lookup n = some .cell ∨ sc.names.lookup n = some .free → env.kindOf n = some .cell ∨ env.kindOf n = some .free
  cell : ∀ n, sc.names.lookup n = some .cell → env.kindOf n = some .cell ∧ ∃ c, env.cells.lookup n = some c
  glob : ∀ n, sc.names.lookup n = some .globalImplicit → env.kindOf n = some .globalImplicit
  globals : env.globals = mainGlobals
  builtins : env.builtins = builtinsNs

structure In (X : Ctx) (c : Cfg) (sc : Scope) (σ : Slots) (env : Env) (fr : Fm) (A : Around) (ah : AH) (s : Shared) : Prop where
  a : OkA c A
  e : EnvOk sc env
  f : FRep σ env fr ah s.heap
  r : Rel X ah s.heap
  fs : Frs X A ah s.heap

section
variable {X : Ctx} {c : Cfg} {sc : Scope} {σ : Slots} {env : Env} {fr : Fm} {A : Around} {ah ah' ah'' : AH} {s s' s'' : Shared}
theorem In.step (x : In X c sc σ env fr A ah s) (t : Step X ah s ah' s') : In X c sc σ env fr A ah' s' := ⟨x.a, x.e, x.f.step x.r t, t.rel, x.fs.step t⟩

inductive BoolPost (X : Ctx) (ah : AH) (s : Shared) (K : Bool → AH → Prop) (b : Bool) (s' : Shared) : Prop
  | mk (ah' : AH) (st : Step X ah s ah' s') (q : K b ah') : BoolPost X ah s K b s'
inductive ValsPost (X : Ctx) (ah : AH) (s : Shared) (Q : List V → AH → Prop) (vs : List Value) (s' : Shared) : Prop
  | mk (xs : List V) (ah' : AH) (rv : RepVs s'.heap xs vs) (st : Step X ah s ah' s') (q : Q xs ah') : ValsPost X ah s Q vs s'
noncomputable def UnitPost (X : Ctx) (ah : AH) (s : Shared) (Q : AH → Prop) (_ : Unit) (s' : Shared) : Prop := ∃ ah', Step X ah s ah' s' ∧ Q ah'

theorem ValPost.back {Q v} (t : Step X ah s ah' s') (p : ValPost X ah' s' Q v s'') : ValPost X ah s Q v s'' :=
  let ⟨x, h, a, b, q⟩ := p; ⟨x, h, a, t.trans b, q⟩
theorem ValsPost.back {Q v} (t : Step X ah s ah' s') (p : ValsPost X ah' s' Q v s'') : ValsPost X ah s Q v s'' :=
  let ⟨x, h, a, b, q⟩ := p; ⟨x, h, a, t.trans b, q⟩
theorem BoolPost.back {Q v} (t : Step X ah s ah' s') (p : BoolPost X ah' s' Q v s'') : BoolPost X ah s Q v s'' :=
  let ⟨h, b, q⟩ := p; ⟨h, t.trans b, q⟩
theorem UnitPost.back {Q v} (t : Step X ah s ah' s') (p : UnitPost X ah' s' Q v s'') : UnitPost X ah s Q v s'' :=
  let ⟨h, b, q⟩ := p; ⟨h, t.trans b, q⟩
theorem ExcPost.back {R e} (t : Step X ah s ah' s') (p : ExcPost X A ah' s' R e s'') : ExcPost X A ah s R e s'' :=
  let ⟨C, h, a, b, q⟩ := p; ⟨C, h, a.back t.there, t.trans b, q⟩

theorem Step.toks (r : Rel X ah s.heap) (n : Nat) : Step X ah s ah { s with toks := n } := Step.keeps r (fun _ _ e => e) ⟨rfl, rfl, rfl⟩
/-- a value, no object changed -/
theorem ValPost.pure {Q : V → AH → Prop} {x v} (r : Rel X ah s.heap) (rv : RepV s.heap x v) (q : Q x ah) : ValPost X ah s Q v s := ⟨x, ah, rv, .refl r, q⟩
theorem ValPost.toks {Q : V → AH → Prop} {x v} {n : Nat} (r : Rel X ah s.heap) (rv : RepV s.heap x v) (q : Q x ah) : ValPost X ah s Q v { s with toks := n } := ⟨x, ah, rv, .toks r n, q⟩

variable {R : RX}
noncomputable def SE (X : Ctx) (sc : Scope) (σ : Slots) (x : Ex) (e : PySem.Expr) : Prop :=
  ∀ c R fr Q h env A s, wpE X c R x fr Q h → In X c sc σ env fr A h s → wpAny X.M A (eval e env) (ValPost X h s Q) (ExcPost X A h s R) s
noncomputable def SEs (X : Ctx) (sc : Scope) (σ : Slots) : List Ex → List PySem.Expr → Prop
  | [], [] => True
  | x :: xs, e :: es => SE X sc σ x e ∧ SEs X sc σ xs es
  | _, _ => False
noncomputable def ST (X : Ctx) (sc : Scope) (σ : Slots) (x : Ex) (e : PySem.Expr) : Prop :=
  ∀ c R fr K h env A s, wpT X c R x (wpE X c R x fr) fr K h → In X c sc σ env fr A h s → wpAny X.M A (isTrue e env (eval e env)) (BoolPost X h s K) (ExcPost X A h s R) s

/-! plain leaves -/
theorem se_lit {v : V} {e : PySem.Expr} (ck : ckLit v e = true) : SE X sc σ (.lit v) e := by
  intro c R fr Q h env A s w i
  dsimp only [wpE] at w
  have ck := (Bool.and_eq_true _ _).mp ck
  obtain ⟨c, k, p, rfl⟩ := vw1 (beq_iff_eq.mp ck.1)
  have ck : litC v = some c := beq_iff_eq.mp ck.2
  cases v <;> cases ck
  · exact fun _ _ _ => ValPost.pure i.r rep_none w
  · exact fun _ _ _ => ValPost.pure i.r rep_bool w
  · exact fun _ _ _ => ValPost.toks i.r rep_int w
  · exact fun _ _ _ => ValPost.toks i.r rep_str w

theorem se_var {k : Nat} {n : Str} {pos : Pos} (hn : σ.lookup n = some k) (hv : isVar sc n = true) (hd : (n == ("__debug__" : Str)) = false) (hd' : (n == ("__classdict__" : Str)) = false) : SE X sc σ (.var k) (.Name n pos) := by
  intro c R fr Q h env A s w i
  dsimp only [wpE] at w
  split at w
  · rename_i v hv'
    refine wpAny_Name ?_ hd
    have hk : env.kindOf n = some .local ∨ (env.kindOf n = some .cell ∨ env.kindOf n = some .free) := by
      unfold isVar at hv
      split at hv
      · exact .inl (i.e.loc n (by assumption))
      · exact .inr (i.e.cf n (.inl (by assumption)))
      · exact .inr (i.e.cf n (.inr (by assumption)))
      · cases hv
    rcases hk with hk | hk
    · obtain ⟨m, hns, ro⟩ := i.f.loc n k hn hk
      rw [hv'] at ro
      obtain ⟨u, e, rv⟩ := ro
      exact wpAny_loadName_local i.e.kind hk hns e (ValPost.pure i.r rv w)
    · obtain ⟨cc, o, hc, hcell, ro⟩ := i.f.cel n k hn hk
      rw [hv'] at ro
      obtain ⟨u, e, rv⟩ := ro
      subst e
      rcases hk with hk | hk
      · exact wpAny_loadName_cell i.e.kind hk hc hcell (ValPost.pure i.r rv w)
      · exact wpAny_loadName_free i.e.kind hk hc hcell (ValPost.pure i.r rv w) hd'
  · exact w.elim
end
end Mine

namespace Mine
open PySem PyProof.Rows PySem.Calls

theorem big_size {n : Nat} (h : n ≤ big) : n ≤ sizeLine := by unfold big at h; rw [sizeLine_eq]; omega
theorem small_big {n : Nat} (h : n ≤ small) : n ≤ big := by unfold small at h; unfold big; omega
theorem big_fit {n : Nat} (h : n ≤ big) : (n : Int) < 2 ^ 63 := by unfold big at h; omega
theorem small_size {n : Nat} (h : n ≤ small) : n ≤ sizeLine := by unfold small at h; rw [sizeLine_eq]; omega

theorem bits_le {a : Int} (h : -(2 ^ 60) < a ∧ a < 2 ^ 60) : Builtin.Int.intBits a ≤ 64 := by
  unfold Builtin.Int.intBits
  split
  · omega
  · rename_i q
    have hne : a.natAbs ≠ 0 := by intro e; exact q (by have := Int.natAbs_eq_zero.mp e; simp [this])
    have : a.natAbs.log2 < 60 := (Nat.log2_lt hne).mpr (by omega)
    omega
theorem log_lt {b : Int} (h : 0 < b ∧ b < 10 ^ 100) : b.natAbs.log2 < 9000 := by
  have hne : b.natAbs ≠ 0 := by omega
  have h1 : (b.natAbs : Int) < 10 ^ 100 := by omega
  have h2 : b.natAbs < 10 ^ 100 := by exact_mod_cast h1
  have h3 : (10 : Nat) ^ 100 < 2 ^ 400 := by decide +kernel
  have : b.natAbs.log2 < 400 := (Nat.log2_lt hne).mpr (Nat.lt_trans h2 h3)
  omega

section
variable {X : Ctx} {c : Cfg} {sc : Scope} {σ : Slots} {env : Env} {fr : Fm} {A : Around} {h : AH} {s : Shared} {E : Value → Shared → Prop} {Q : V → AH → Prop} {K : Bool → AH → Prop}

/-- a new tracked object -/
theorem ValPost.new {o : O} {ob : Obj} (r : Rel X h s.heap) (hf : ob.isFreed = false) (ho : RepO X.prog X.w (s.heap.push ob) s.heap.objs.size o)
    (q : newP o h Q) : ValPost X h s Q (.ref s.heap.objs.size) { s with heap := s.heap.push ob } := by
  have hn : s.heap.get? s.heap.objs.size = none := by
    cases e : s.heap.get? s.heap.objs.size with
    | none => rfl
    | some o => exact absurd (Heap.lt_size e) (Nat.lt_irrefl _)
  exact ⟨_, _, rep_ref, Step.new r (fun b o e => Heap.get?_push_of_some _ e) ⟨rfl, rfl, rfl⟩ hn ho, q _ (r.none_of_new hn)⟩
theorem push_vk (hp : Heap) (ob : Obj) : VK hp (hp.push ob) := .of_keeps fun _ _ e => Heap.get?_push_of_some _ e
/-- a new tuple -/
theorem ValPost.tup {xs : List V} {vs : List Value} (r : Rel X h s.heap) (rv : RepVs s.heap xs vs) (z : xs.length ≤ big) (q : Q (.tup xs) h) :
    ValPost X h s Q (.ref s.heap.objs.size) { s with heap := s.heap.push { cls := .type "tuple", data := .seq vs.toArray } } :=
  ⟨_, _, by rw [RepV]; exact ⟨_, _, vs, rfl, Heap.get?_push_size _ rfl, rv.mono (push_vk _ _), z⟩, Step.keeps r (fun b o e => Heap.get?_push_of_some _ e) ⟨rfl, rfl, rfl⟩, q⟩

theorem binop_ok {op : Operator} {x y : V} {v u : Value} (r : Rel X h s.heap) (rx : RepV s.heap x v) (ry : RepV s.heap y u) (w : binop op x y h Q) :
    wpAny X.M A (binaryOp op v u) (ValPost X h s Q) E s := by
  cases op <;> first | exact False.elim w | skip
  · cases x <;> first | exact False.elim w | skip
    · obtain ⟨b, rfl, w⟩ := int_inv w
      obtain ⟨t, rfl⟩ := by simpa [RepV] using rx
      obtain ⟨t', rfl⟩ := by simpa [RepV] using ry
      exact add_int (ValPost.toks r rep_int w)
    · obtain ⟨b, rfl, w⟩ := ref_inv w
      obtain ⟨xs, ha, w⟩ := olist_inv w; obtain ⟨ys, hb, w⟩ := olist_inv w
      simp only [RepV] at rx ry
      subst rx ry
      obtain ⟨n, items, ha', ra, za⟩ := r.rep _ _ ha
      obtain ⟨n', items', hb', rb, zb⟩ := r.rep _ _ hb
      refine P.add_list ha' hb' ?_ (by simp only [List.size_toArray]; rw [ra.length, rb.length]; exact small_size w.1)
      have e : items.toArray ++ items'.toArray = (items ++ items').toArray := by simp
      rw [e]
      exact ValPost.new (o := .list (xs ++ ys)) r rfl ⟨_, _, Heap.get?_push_size _ rfl, (ra.append rb).mono (push_vk _ _), by simpa using small_big w.1⟩ w.2
    · rename_i xs; obtain ⟨ys, rfl, w⟩ := tup_inv w
      rw [RepV] at rx ry
      obtain ⟨a, n, items, rfl, ha, ra, za⟩ := rx
      obtain ⟨b, n', items', rfl, hb, rb, zb⟩ := ry
      have la := ra.length
      have lb := rb.length
      have hsz : items.length + items'.length ≤ sizeLine := by rw [la, lb]; exact small_size w.1
      by_cases hv : items = []
      · refine concat_meets ⟨_, ha, rfl⟩ ⟨_, hb, rfl⟩ noFill_tuple_add seq_tuple_add PySem.F.slot_tuple_add PySem.F.entry_tuple_add (PySem.F.args_tuple_add_2 _ _)
          (tuple_addW0 a b items.toArray items'.toArray n n' none none #[] #[] (by simp [hv])) ⟨ha, hb, ?_⟩
        subst hv
        cases xs with
        | nil => exact ValPost.pure r (by rw [RepV]; exact ⟨_, _, _, rfl, hb, rb, zb⟩) w.2
        | cons x xs => simp at la
      · by_cases hw : items' = []
        · refine concat_meets ⟨_, ha, rfl⟩ ⟨_, hb, rfl⟩ noFill_tuple_add seq_tuple_add PySem.F.slot_tuple_add PySem.F.entry_tuple_add (PySem.F.args_tuple_add_2 _ _)
            (tuple_addW1 a b items.toArray items'.toArray n n' none none #[] #[] (by simpa using hv) (by simp [hw])) ⟨ha, hb, ?_⟩
          subst hw
          cases ys with
          | nil => refine ValPost.pure r (x := .tup xs) (by rw [RepV]; exact ⟨_, _, _, rfl, ha, ra, za⟩) (by simpa using w.2)
          | cons x xs => simp at lb
        · refine concat_meets ⟨_, ha, rfl⟩ ⟨_, hb, rfl⟩ noFill_tuple_add seq_tuple_add PySem.F.slot_tuple_add PySem.F.entry_tuple_add (PySem.F.args_tuple_add_2 _ _)
            (tuple_addW2 a b items.toArray items'.toArray n n' none none #[] #[] (by simpa using hv) (by simpa using hw) (by simpa using hsz)) ⟨ha, hb, ?_⟩
          have e : items.toArray ++ items'.toArray = (items ++ items').toArray := by simp
          rw [e]
          exact ValPost.tup r (ra.append rb) (by simpa using small_big w.1) w.2
  · obtain ⟨a, rfl, w⟩ := int_inv w; obtain ⟨b, rfl, w⟩ := int_inv w
    obtain ⟨t, rfl⟩ := by simpa [RepV] using rx
    obtain ⟨t', rfl⟩ := by simpa [RepV] using ry
    exact sub_int (ValPost.toks r rep_int w)
  · cases x <;> first | exact False.elim w | skip
    · obtain ⟨b, rfl, w⟩ := int_inv w
      obtain ⟨t, rfl⟩ := by simpa [RepV] using rx
      obtain ⟨t', rfl⟩ := by simpa [RepV] using ry
      refine mul_int (ValPost.toks r rep_int w.2) ?_
      rcases w.1 with q | q
      · exact .of_left (bits_le q)
      · exact .of_right (bits_le q)
  · obtain ⟨a, rfl, w⟩ := int_inv w; obtain ⟨b, rfl, w⟩ := int_inv w
    obtain ⟨t, rfl⟩ := by simpa [RepV] using rx
    obtain ⟨t', rfl⟩ := by simpa [RepV] using ry
    refine mod_int (by omega) ?_
    rw [Int.fmod_eq_emod_of_nonneg _ (by omega)]
    exact ValPost.toks r rep_int w.2
  · obtain ⟨a, rfl, w⟩ := int_inv w; obtain ⟨b, rfl, w⟩ := int_inv w
    obtain ⟨t, rfl⟩ := by simpa [RepV] using rx
    obtain ⟨t', rfl⟩ := by simpa [RepV] using ry
    exact pow_int_small (by omega) (by omega) (by omega) (ValPost.toks r rep_int w.2)
  · obtain ⟨a, rfl, w⟩ := int_inv w; obtain ⟨b, rfl, w⟩ := int_inv w
    obtain ⟨t, rfl⟩ := by simpa [RepV] using rx
    obtain ⟨t', rfl⟩ := by simpa [RepV] using ry
    refine floordiv_int (by omega) ?_ (.inl (PyProof.noPylong_of_log2 ?_))
    · rw [Int.fdiv_eq_ediv_of_nonneg _ (by omega)]
      exact ValPost.toks r rep_int w.2
    · exact log_lt w.1
end
end Mine

namespace Mine
open PySem PyProof.Rows PySem.Calls PySem.SeqAt

theorem EqAt.of_rc {A : Around} {s : Shared} {v u : Value} {b : Bool} (h : RcAt A s v u b) (hs : v = u → b = true) (hv : ∀ f t, v ≠ .float f t) : EqAt A s v u b := fun prog w E Q hq => by
  unfold eqBool
  refine wpAny_holding ?_
  refine wpAny_ite_split (fun hab => ?_) (fun _ => ?_)
  · rw [hs (eq_of_beq hab)] at hq
    exact wpAny_bind (wpAny_rule (wpAny_pure hq))
  · cases v <;> first | exact absurd rfl (hv _ _) | exact wpAny_bind (h prog w E _ (wpAny_truthy_bool hq))

noncomputable def pairAt (f : V → V → Option Bool) (xs ys : List V) (j : Nat) : Bool := match xs[j]?, ys[j]? with
  | some x, some y => (f x y).getD false
  | _, _ => false
theorem pairAt_cons {f x xs y ys j} : pairAt f (x :: xs) (y :: ys) (j + 1) = pairAt f xs ys j := by simp [pairAt]
theorem pairAt_zero {f x xs y ys} : pairAt f (x :: xs) (y :: ys) 0 = (f x y).getD false := by simp [pairAt]

theorem eqL_spec {f : V → V → Option Bool} : ∀ {xs ys : List V} {b : Bool}, eqL f xs ys = some b →
    (∀ (j : Nat) x y, xs[j]? = some x → ys[j]? = some y → ∃ r, f x y = some r) ∧
    b = ((List.range (min xs.length ys.length)).all (pairAt f xs ys) && xs.length == ys.length)
  | [], [], b, h => by simp [eqL] at h; subst h; simp
  | [], y :: ys, b, h => by simp [eqL] at h; subst h; simp
  | x :: xs, [], b, h => by simp [eqL] at h; subst h; simp
  | x :: xs, y :: ys, b, h => by
    unfold eqL at h
    split at h
    · rename_i a c ha hc
      obtain ⟨i1, i2⟩ := eqL_spec hc
      cases h
      refine ⟨fun j x' y' hx hy => ?_, ?_⟩
      · cases j with
        | zero => simp at hx hy; subst hx hy; exact ⟨a, ha⟩
        | succ j => simp at hx hy; exact i1 j x' y' hx hy
      · rw [i2]
        simp only [List.length_cons, Nat.succ_min_succ, List.range_succ_eq_map, List.all_cons, List.all_map]
        simp [ha, Function.comp_def, Bool.and_assoc, pairAt_cons, pairAt_zero]
    · cases h

theorem inL_spec {f : V → V → Option Bool} {x : V} : ∀ {ys : List V} {b : Bool}, inL f x ys = some b →
    (∀ y, y ∈ ys → ∃ r, f y x = some r) ∧ b = ys.any (fun y => (f y x).getD false)
  | [], b, h => by simp [inL] at h; subst h; simp
  | y :: ys, b, h => by
    unfold inL at h
    split at h
    · rename_i a c ha hc
      obtain ⟨i1, i2⟩ := inL_spec hc
      cases h
      refine ⟨fun z hz => ?_, by simp [i2, ha]⟩
      rcases List.mem_cons.mp hz with rfl | hz
      · exact ⟨a, ha⟩
      · exact i1 z hz
    · cases h

theorem ne_same {hp : Heap} {x y : V} {v : Value} {b : Bool} (rx : RepV hp x v) (ry : RepV hp y v) (h : neV x y = some b) : False := nomatch h
theorem eqL_same {hp : Heap} {f : V → V → Option Bool} (ih : ∀ {x y : V} {v : Value} {b : Bool}, RepV hp x v → RepV hp y v → f x y = some b → b = true) : ∀ {xs ys : List V} {vs : List Value} {b : Bool}, RepVs hp xs vs → RepVs hp ys vs → eqL f xs ys = some b → b = true
  | [], [], vs, b, rx, ry, h => (Option.some.inj h).symm
  | [], y :: ys, vs, b, rx, ⟨_, _, q, _⟩, h => by cases rx; cases q
  | x :: xs, [], vs, b, ⟨_, _, q, _⟩, ry, h => by cases ry; cases q
  | x :: xs, y :: ys, vs, b, ⟨v, us, e, r1, r2⟩, ⟨v', us', e', r1', r2'⟩, h => by
    rw [e] at e'
    cases e'
    unfold eqL at h
    split at h
    · rename_i a c ha hc
      cases h
      rw [ih r1 r1' ha, eqL_same ih r2 r2' hc]; rfl
    · cases h
theorem eqD_same {hp : Heap} {f : V → V → Option Bool} (ih : ∀ {x : V} {v : Value} {b : Bool}, RepV hp x v → f x x = some b → b = true) {lk : Int → Option V} : ∀ {xs : List (Int × V)} {vs : List Value} {b : Bool}, (∀ p ∈ xs, lk p.1 = some p.2) → RepVs hp (xs.map (·.2)) vs → eqD f lk xs = some b → b = true
  | [], vs, b, _, _, h => (Option.some.inj h).symm
  | (k, x) :: xs, vs, b, hl, ⟨v, us, e, r1, r2⟩, h => by
    unfold eqD at h
    rw [hl (k, x) (.head _)] at h
    dsimp only at h
    split at h
    · rename_i a c ha hc
      cases h
      rw [ih r1 ha, eqD_same ih (fun p hp => hl p (.tail _ hp)) r2 hc]; rfl
    · cases h
theorem dget_self {d : List (Int × V)} (nd : (d.map (·.1)).Nodup) : ∀ p ∈ d, dget d p.1 = some p.2 := by
  induction d with
  | nil => intro p h; cases h
  | cons q d ih =>
    intro p hp
    have nd := List.nodup_cons.mp nd
    unfold dget
    rw [List.find?_cons]
    cases hp with
    | head => simp
    | tail _ hp =>
      have : ¬ q.1 = p.1 := fun e => nd.1 (List.mem_map.mpr ⟨p, hp, e.symm⟩)
      simp only [this, decide_false]
      exact ih nd.2 p hp
theorem zip_fst {d : List (Int × V)} {vs : List Value} (h : vs.length = d.length) : ((d.map (·.1)).zip vs).map (·.1) = d.map (·.1) := by
  rw [List.map_fst_zip (by simp [h])]
theorem eqv_same {X : Ctx} {ah : AH} {hp : Heap} (r : Rel X ah hp) : ∀ (n : Nat) {x y : V} {v : Value} {b : Bool}, RepV hp x v → RepV hp y v → eqv ah n x y = some b → b = true
  | 0, x, y, v, b, _, _, h => nomatch h
  | n + 1, x, y, v, b, rx, ry, h => by
    cases x with
    | none => cases y <;> first | exact (Option.some.inj h).symm | exact (ne_same rx ry h).elim
    | bool a =>
      cases y <;> try exact (ne_same rx ry h).elim
      cases h; simp only [RepV] at rx ry; rw [rx] at ry; cases ry; exact beq_self_eq_true _
    | int a =>
      cases y <;> try exact (ne_same rx ry h).elim
      cases h; simp only [RepV] at rx ry; obtain ⟨t, rfl⟩ := rx; obtain ⟨t', q⟩ := ry; cases q; exact beq_self_eq_true _
    | str a =>
      cases y <;> try exact (ne_same rx ry h).elim
      cases h; simp only [RepV] at rx ry; obtain ⟨t, rfl⟩ := rx; obtain ⟨t', q⟩ := ry; cases q; exact beq_self_eq_true _
    | tup xs =>
      cases y <;> try exact (ne_same rx ry h).elim
      rw [RepV] at rx ry
      obtain ⟨a, k, items, rfl, ha, ra, _⟩ := rx
      obtain ⟨a', k', items', q, ha', ra', _⟩ := ry
      cases q
      rw [ha] at ha'; cases ha'
      exact eqL_same (eqv_same r n) ra ra' h
    | ref a =>
      cases y <;> try (cases h; done)
      simp only [RepV] at rx ry
      subst rx
      cases ry
      unfold eqv at h
      dsimp only at h
      split at h
      · rename_i xs h1
        rw [h1] at h
        dsimp only at h
        rw [if_pos rfl] at h
        obtain ⟨k, items, _, ra, _⟩ := r.rep _ _ h1
        exact eqL_same (eqv_same r n) ra ra h
      · rename_i xs ep h1
        rw [h1] at h
        dsimp only at h
        rw [if_pos rfl] at h
        obtain ⟨vs, ⟨o, es, _, _, _, _, _, nd⟩, ra, _⟩ := r.rep _ _ h1
        have l := ra.length
        rw [List.length_map] at l
        rw [zip_fst l] at nd
        exact eqD_same (fun rx => eqv_same r n rx rx) (dget_self nd) ra h
      · cases h
    | exc C => cases h
end Mine

namespace Mine
open PySem PyProof.Rows PySem.Calls PySem.SeqAt

theorem RepV.notFloat {h : Heap} {x : V} {v : Value} (r : RepV h x v) : ∀ f t, v ≠ .float f t := fun f t e => by
  subst e
  cases x <;> simp [RepV] at r

theorem isTuple_of {h : Heap} {a n} {items : List Value} (e : h.get? a = some { cls := .type "tuple", data := .seq items.toArray n }) : h.IsTuple a items.toArray := ⟨_, e, rfl, n, rfl⟩
theorem isList_of {h : Heap} {a n} {items : List Value} (e : h.get? a = some { cls := .type "list", data := .seq items.toArray n }) : h.IsList a items.toArray := ⟨_, e, rfl, n, rfl⟩

/-- the items of two readings: EqAt from eqv -/
theorem items_eqAt {A : Around} {s : Shared} {ah : AH} {n : Nat} {xs ys : List V} {vs us : List Value}
    (ih : ∀ {x y v u b}, RepV s.heap x v → RepV s.heap y u → eqv ah n x y = some b → EqAt A.in1 s v u b)
    (rx : RepVs s.heap xs vs) (ry : RepVs s.heap ys us) (hd : ∀ (j : Nat) x y, xs[j]? = some x → ys[j]? = some y → ∃ r, eqv ah n x y = some r) :
    ∀ j (h1 : j < vs.toArray.size) (h2 : j < us.toArray.size), EqAt A.in1 s vs.toArray[j] us.toArray[j] (pairAt (eqv ah n) xs ys j) := by
  intro j h1 h2
  have e1 : vs[j]? = some vs.toArray[j] := by simp at h1; simp [h1]
  have e2 : us[j]? = some us.toArray[j] := by simp at h2; simp [h2]
  obtain ⟨x, hx, r1⟩ := rx.get' e1
  obtain ⟨y, hy, r2⟩ := ry.get' e2
  obtain ⟨r, hr⟩ := hd j x y hx hy
  simp only [pairAt, hx, hy, hr, Option.getD_some]
  exact ih r1 r2 hr

theorem in1_units {A : Around} : A.in1.units = A.units + 1 := rfl

theorem valueAt_dget {K : Type} [DecidableEq K] {hp : Heap} : ∀ {kvs : List (K × V)} {us : List Value} {k : K}, RepVs hp (kvs.map (·.2)) us →
    (∀ x, dget kvs k = some x → ∃ u, valueAt ((kvs.map (·.1)).zip us) k = some u ∧ RepV hp x u) ∧ (dget kvs k = none → valueAt ((kvs.map (·.1)).zip us) k = none)
  | [], us, k, r => by cases r; simp [dget, valueAt]
  | (k', x) :: kvs, us, k, r => by
    obtain ⟨u, rest, rfl, r1, r2⟩ := r
    obtain ⟨i1, i2⟩ := valueAt_dget (k := k) r2
    by_cases hk : k' = k
    · subst hk
      simp [dget, valueAt]
      exact r1
    · have e1 : dget ((k', x) :: kvs) k = dget kvs k := by simp [dget, hk]
      have e2 : valueAt ((((k', x) :: kvs).map (·.1)).zip (u :: rest)) k = valueAt ((kvs.map (·.1)).zip rest) k := by simp [valueAt, hk]
      rw [e1, e2]; exact ⟨i1, i2⟩

noncomputable def Rc2 (A : Around) (s : Shared) (v u : Value) (b : Bool) : Prop := RcAt A s v u b ∧ RcNeAt A s v u (!b)
theorem ne_rc {A : Around} {s : Shared} {x y : V} {v u : Value} {b : Bool} (hu : A.units < cLine) (rx : RepV s.heap x v) (ry : RepV s.heap y u) (h : neV x y = some b) : Rc2 A s v u b := nomatch h
theorem pairs_any {p p' : Program} {w w' : World} {es : List DictEntry} {kvs : List (Int × Value)} (x : Pairs (intKind p w) es kvs) : Pairs (intKind p' w') es kvs := by
  induction x with
  | nil => exact .nil
  | cons a b _ ih => exact .cons a b ih
theorem DictAt.any {p p' : Program} {w w' : World} {h : Heap} {a : Addr} {kvs : List (Int × Value)} {ep : Nat} (x : h.DictAt (intKind p w) a kvs ep) : h.DictOf (intKind p' w') a kvs :=
  let ⟨o, es, a1, a2, a3, a4, a5, a6⟩ := x; ⟨o, es, ep, a1, a2, a3, a4, pairs_any a5, a6⟩
theorem hits_of {A : Around} {s : Shared} {f : V → V → Option Bool} (ih : ∀ {x y v u b}, RepV s.heap x v → RepV s.heap y u → f x y = some b → EqAt A s v u b) {ys : List (Int × V)} {us' : List Value} (ry : RepVs s.heap (ys.map (·.2)) us') :
    ∀ {xs : List (Int × V)} {us : List Value} {r : Bool}, RepVs s.heap (xs.map (·.2)) us → eqD f (dget ys) xs = some r → PySem.W.KeqHits A s ((ys.map (·.1)).zip us') ((xs.map (·.1)).zip us) r
  | [], us, r, rx, h => by cases h; exact .nil
  | (k, x) :: xs, us, r, ⟨v, us2, e, r1, r2⟩, h => by
    subst e
    unfold eqD at h
    cases hk : dget ys k with
    | none => rw [hk] at h; cases h; exact .miss ((valueAt_dget ry).2 hk)
    | some y =>
      rw [hk] at h
      dsimp only at h
      obtain ⟨u, hu, ru⟩ := (valueAt_dget ry).1 _ hk
      split at h
      · rename_i a c ha hc
        cases h
        exact .hit hu (ih r1 ru ha) (hits_of ih ry r2 hc)
      · cases h
theorem eqv_rc {X : Ctx} {ah : AH} {s : Shared} (r : Rel X ah s.heap) : ∀ (n : Nat) {A : Around} {x y : V} {v u : Value} {b : Bool}, A.units + n < cLine → RepV s.heap x v → RepV s.heap y u → eqv ah n x y = some b → Rc2 A s v u b
  | 0, A, x, y, v, u, b, _, _, _, h => nomatch h
  | n + 1, A, x, y, v, u, b, hu, rx, ry, h => by
    have hu' : A.units < cLine := by omega
    have ih : ∀ {x y v u b}, RepV s.heap x v → RepV s.heap y u → eqv ah n x y = some b → EqAt A.in1 s v u b := fun r1 r2 e =>
      EqAt.of_rc (eqv_rc r n (by rw [in1_units]; omega) r1 r2 e).1 (fun q => by subst q; exact eqv_same r n r1 r2 e) r1.notFloat
    cases x with
    | none =>
      cases y <;> try exact ne_rc hu' rx ry h
      simp only [RepV] at rx ry; subst rx ry; cases h; exact ⟨RcAt.none_none, RcNeAt.none_none⟩
    | bool a =>
      cases y <;> try exact ne_rc hu' rx ry h
      simp only [RepV] at rx ry; subst rx ry; cases h; exact ⟨RcAt.bool_bool _ _, RcNeAt.bool_bool _ _⟩
    | int a =>
      cases y <;> try exact ne_rc hu' rx ry h
      simp only [RepV] at rx ry; obtain ⟨t, rfl⟩ := rx; obtain ⟨t', rfl⟩ := ry; cases h; exact ⟨RcAt.int_int _ _ _ _, RcNeAt.int_int _ _ _ _⟩
    | str a =>
      cases y <;> try exact ne_rc hu' rx ry h
      simp only [RepV] at rx ry; obtain ⟨t, rfl⟩ := rx; obtain ⟨t', rfl⟩ := ry; cases h; exact ⟨RcAt.str_str _ _ _ _, RcNeAt.str_str _ _ _ _⟩
    | tup xs =>
      cases y <;> try exact ne_rc hu' rx ry h
      rw [RepV] at rx ry
      obtain ⟨a, k, items, rfl, ha, ra, _⟩ := rx
      obtain ⟨a', k', items', rfl, ha', ra', _⟩ := ry
      obtain ⟨hd, hb⟩ := eqL_spec h
      rw [hb]
      have it := items_eqAt ih ra ra' hd
      have x1 := RcAt.tuples (isTuple_of ha) (isTuple_of ha') hu' it
      have x2 := RcNeAt.tuples (isTuple_of ha) (isTuple_of ha') hu' it
      rw [List.size_toArray, List.size_toArray, ra.length, ra'.length] at x1 x2
      exact ⟨x1, x2⟩
    | ref a =>
      cases y <;> try (cases h; done)
      simp only [RepV] at rx ry
      subst rx ry
      unfold eqv at h
      dsimp only at h
      split at h
      · rename_i xs h1
        split at h
        · rename_i ys h2
          obtain ⟨k, items, ha, ra, _⟩ := r.rep _ _ h1
          obtain ⟨k', items', ha', ra', _⟩ := r.rep _ _ h2
          split at h
          · rename_i hl
            obtain ⟨hd, hb⟩ := eqL_spec h
            rw [hl, Nat.min_self, beq_self_eq_true, Bool.and_true] at hb
            rw [hb]
            have hz : items.toArray.size = items'.toArray.size := by rw [List.size_toArray, List.size_toArray, ra.length, ra'.length, hl]
            have it := items_eqAt ih ra ra' hd
            have x1 := RcAt.lists (isList_of ha) (isList_of ha') hz hu' it
            have x2 := RcNeAt.lists (isList_of ha) (isList_of ha') hz hu' it
            rw [List.size_toArray, ra.length, hl] at x1 x2
            exact ⟨x1, x2⟩
          · rename_i hl
            cases h
            have hz : (items.toArray.size != items'.toArray.size) = true := by rw [List.size_toArray, List.size_toArray, ra.length, ra'.length]; exact bne_iff_ne.mpr hl
            exact ⟨RcAt.lists_lengths (isList_of ha) (isList_of ha') hz hu', RcNeAt.lists_lengths (isList_of ha) (isList_of ha') hz hu'⟩
        · cases h
      · rename_i xs ep h1
        split at h
        · rename_i ys ep' h2
          obtain ⟨us, da, ra, _, na⟩ := r.rep _ _ h1
          obtain ⟨us', db, rb, _, nb⟩ := r.rep _ _ h2
          have la := ra.length
          have lb := rb.length
          rw [List.length_map] at la lb
          have la' : ((xs.map (·.1)).zip us).length = xs.length := by rw [List.length_zip, List.length_map, la, Nat.min_self]
          have lb' : ((ys.map (·.1)).zip us').length = ys.length := by rw [List.length_zip, List.length_map, lb, Nat.min_self]
          have na' : (_ == sysModules) = false := beq_false_of_ne na
          have nb' : (_ == sysModules) = false := beq_false_of_ne nb
          split at h
          · rename_i hl
            have hits := hits_of ih rb ra h
            refine ⟨fun p w E Q q => PySem.W.keq_eq na' nb' (DictAt.any (p' := p) (w' := w) da) (DictAt.any db) hu' (fun _ => hits) ?_, fun p w E Q q => PySem.W.keq_ne na' nb' (DictAt.any (p' := p) (w' := w) da) (DictAt.any db) hu' (fun _ => hits) ?_⟩
            · rw [la', lb', hl, beq_self_eq_true, Bool.true_and]; exact q
            · rw [la', lb', hl, beq_self_eq_true, Bool.true_and]; exact q
          · rename_i hl
            cases h
            have hne : (xs.length == ys.length) = false := beq_false_of_ne hl
            refine ⟨fun p w E Q q => PySem.W.keq_eq (r := false) na' nb' (DictAt.any (p' := p) (w' := w) da) (DictAt.any db) hu' (fun e => ?_) ?_, fun p w E Q q => PySem.W.keq_ne (r := false) na' nb' (DictAt.any (p' := p) (w' := w) da) (DictAt.any db) hu' (fun e => ?_) ?_⟩
            · rw [la', lb'] at e; exact absurd e hl
            · rw [la', lb', hne, Bool.false_and]; exact q
            · rw [la', lb'] at e; exact absurd e hl
            · rw [la', lb', hne, Bool.false_and]; exact q
        · cases h
      · cases h
    | exc C => cases h
end Mine

namespace Mine
open PySem PyProof.Rows PySem.Calls PySem.SeqAt

section
variable {X : Ctx} {c : Cfg} {sc : Scope} {σ : Slots} {env : Env} {fr : Fm} {A : Around} {h : AH} {s : Shared} {E : Value → Shared → Prop} {Q : V → AH → Prop} {K : Bool → AH → Prop}

theorem isTup_of {h : Heap} {a n} {items : List Value} (e : h.get? a = some { cls := .type "tuple", data := .seq items.toArray n }) : IsTup h a items.toArray := ⟨_, e, rfl, n, rfl⟩
theorem BoolPost.toks {b : Bool} {n : Nat} (r : Rel X h s.heap) (q : K b h) : BoolPost X h s K b { s with toks := n } := ⟨h, .toks r n, q⟩
theorem BoolPost.pure {b : Bool} (r : Rel X h s.heap) (q : K b h) : BoolPost X h s K b s := ⟨h, .refl r, q⟩
theorem ne_sys {a : Addr} (h : a ≠ sysModules) : (a == sysModules) = false := by simpa using h

theorem truth_ok {x : V} {v : Value} (r : Rel X h s.heap) (rx : RepV s.heap x v) (w : match truthV h x with | some b => K b h | none => False) :
    wpAny X.M A (truthy v) (BoolPost X h s K) E s := by
  cases x with
  | none => simp only [RepV] at rx; subst rx; simp only [truthV] at w; exact truthy_none (.pure r w)
  | bool b => simp only [RepV] at rx; subst rx; simp only [truthV] at w; exact wpAny_truthy_bool (.pure r w)
  | int i => simp only [RepV] at rx; obtain ⟨t, rfl⟩ := rx; simp only [truthV] at w; exact PyProof.Rows.truthy_int (.pure r w)
  | str x => exact w.elim
  | tup xs =>
    rw [RepV] at rx
    obtain ⟨a, n, items, rfl, ha, ra, z⟩ := rx
    simp only [truthV] at w
    have e : (!items.toArray.isEmpty) = !xs.isEmpty := by
      have := ra.length
      cases items <;> cases xs <;> simp_all
    refine truthy_tuple (isTup_of ha) (by rw [List.size_toArray, ra.length]; exact big_fit z) ?_
    rw [e]; exact .toks r w
  | exc C => exact w.elim
  | ref a =>
    simp only [RepV] at rx; subst rx
    simp only [truthV] at w
    split at w
    · rename_i b hb
      split at hb
      · rename_i vs ha
        obtain ⟨n, items, ha', ra, z⟩ := r.rep _ _ ha
        have e : (!items.toArray.isEmpty) = !vs.isEmpty := by
          have := ra.length
          cases items <;> cases vs <;> simp_all
        refine wpAny_truthy_list (isList_of ha') (by rw [List.size_toArray, ra.length]; exact big_fit z) ?_
        rw [e]; cases hb; exact .toks r w
      · rename_i vs ep ha
        obtain ⟨us, hd, ra, z, ns⟩ := r.rep _ _ ha
        have l := ra.length
        simp only [List.length_map] at l
        have l2 : ((vs.map (·.1)).zip us).length = vs.length := by simp [l]
        have e : (!((vs.map (·.1)).zip us).isEmpty) = !vs.isEmpty := by
          cases vs <;> cases us <;> simp_all
        refine wpAny_truthy_dict (ne_sys ns) hd.dictOf (by rw [l2]; exact big_fit z) ?_
        rw [e]; cases hb; exact .toks r w
      · cases hb
    · exact w.elim

theorem pyIdx_get {hp : Heap} {xs : List V} {items : List Value} {k : Int} {x : V} (ra : RepVs hp xs items) (e : pyIdx xs k = some x) :
    ∃ j u, seqIndex? k items.length = some j ∧ items[j]? = some u ∧ RepV hp x u ∧ ((0 ≤ k ∧ j = k.toNat) ∨ (k < 0 ∧ -(items.length : Int) ≤ k ∧ j = (k + items.length).toNat)) := by
  have l := ra.length
  unfold pyIdx at e
  split at e
  · rename_i h0
    obtain ⟨u, hu, ru⟩ := ra.get e
    have hlt : k.toNat < items.length := (List.getElem?_eq_some_iff.mp hu).1
    exact ⟨k.toNat, u, seqIndex_of h0 (by omega), hu, ru, .inl ⟨h0, rfl⟩⟩
  · split at e
    · rename_i h0 h1
      rw [← l] at e
      obtain ⟨u, hu, ru⟩ := ra.get e
      exact ⟨(k + items.length).toNat, u, seqIndex_neg (by omega) (by omega), hu, ru, .inr ⟨by omega, by omega, rfl⟩⟩
    · cases e

theorem get_list {a : Addr} {xs : List V} {items : List Value} {k : Int} {t : Tok} {x : V} (r : Rel X h s.heap) (hl : s.heap.IsList a items.toArray) (ra : RepVs s.heap xs items) (z : xs.length ≤ big)
    (e : pyIdx xs k = some x) (q : Q x h) : wpAny X.M A (getItem (.ref a) (.int k t)) (ValPost X h s Q) E s := by
  have l := ra.length
  obtain ⟨j, u, _, hu, ru, hc⟩ := pyIdx_get ra e
  have hj : j < items.length := (List.getElem?_eq_some_iff.mp hu).1
  unfold big at z
  rcases hc with ⟨h0, rfl⟩ | ⟨h0, h1, rfl⟩
  · exact wpAny_getItem_list hl h0 (by omega) (by simpa using hu) (.pure r ru q)
  · exact wpAny_getItem_list_neg hl h0 (by simpa using h1) (by omega) (by simpa using hu) (.pure r ru q)

theorem getV_ok {x i v : V} {vx vi : Value} (r : Rel X h s.heap) (rx : RepV s.heap x vx) (ri : RepV s.heap i vi) (e : getV h x i = some v) (q : Q v h) :
    wpAny X.M A (getItem vx vi) (ValPost X h s Q) E s := by
  unfold getV at e
  split at e
  · rw [RepV] at rx
    obtain ⟨a, n, items, rfl, ha, ra, z⟩ := rx
    simp only [RepV] at ri; obtain ⟨t, rfl⟩ := ri
    obtain ⟨j, u, hj, hu, ru, hc⟩ := pyIdx_get ra e
    have hlt : j < items.length := (List.getElem?_eq_some_iff.mp hu).1
    have l := ra.length
    unfold big at z
    exact getItem_tuple (isTup_of ha) (by omega) (by omega) (by simpa using hj) (by simpa using hu) (.pure r ru q)
  · simp only [RepV] at rx ri; subst rx; obtain ⟨t, rfl⟩ := ri
    split at e
    · rename_i xs ha
      obtain ⟨n, items, ha', ra, z⟩ := r.rep _ _ ha
      exact get_list r (isList_of ha') ra z e q
    · rename_i xs ha
      obtain ⟨items, ha', ra, z⟩ := r.rep _ _ ha
      exact get_list r ha' ra z e q
    · rename_i d ha
      obtain ⟨us, hd, ra, z, ns⟩ := r.rep _ _ ha
      obtain ⟨u, hu, ru⟩ := (valueAt_dget ra).1 _ e
      exact wpAny_getItem_of (knd := intKind X.prog X.w) (intKind_is X.prog X.w _ _) hd.dictOf.mapOf hu (.toks r ru q)
    · cases e
  · cases e

theorem lt_ok {x y : V} {v u : Value} {b : Bool} (r : Rel X h s.heap) (rx : RepV s.heap x v) (ry : RepV s.heap y u) (e : ltV x y = some b) (hu : A.units + 20 < cLine) :
    (∀ P : Value → Shared → Prop, P (.bool b) s → wpAny X.M A (compareOp .Lt v u) P E s) ∧ ∀ P : Value → Shared → Prop, P (.bool b) s → wpAny X.M A (compareOp .Gt u v) P E s := by
  unfold ltV at e
  split at e
  · simp only [RepV] at rx ry; obtain ⟨t, rfl⟩ := rx; obtain ⟨t', rfl⟩ := ry
    cases e
    exact ⟨fun P q => lt_int q, fun P q => gt_int q⟩
  · cases e
theorem le_ok {x y : V} {v u : Value} {b : Bool} (r : Rel X h s.heap) (rx : RepV s.heap x v) (ry : RepV s.heap y u) (e : leV x y = some b) :
    (∀ P : Value → Shared → Prop, P (.bool b) s → wpAny X.M A (compareOp .LtE v u) P E s) ∧ ∀ P : Value → Shared → Prop, P (.bool b) s → wpAny X.M A (compareOp .GtE u v) P E s := by
  unfold leV at e
  split at e
  · simp only [RepV] at rx ry; obtain ⟨t, rfl⟩ := rx; obtain ⟨t', rfl⟩ := ry
    cases e
    exact ⟨fun P q => le_int q, fun P q => ge_int q⟩
  · cases e

theorem is_ok {x y : V} {v u : Value} {b : Bool} (rx : RepV s.heap x v) (ry : RepV s.heap y u) (e : isV x y = some b) :     (∀ P : Value → Shared → Prop, P (.bool b) s → wpAny X.M A (compareOp .Is v u) P E s) ∧ ∀ P : Value → Shared → Prop, P (.bool (!b)) s → wpAny X.M A (compareOp .IsNot v u) P E s := nomatch e
theorem items_in {x : V} {u : Value} {xs : List V} {vs : List Value} {b : Bool} (r : Rel X h s.heap) (hu : A.units + 20 < cLine) (rx : RepV s.heap x u) (ra : RepVs s.heap xs vs) (e : inL (eqv h 8) x xs = some b) :
    ∃ f : Value → Bool, (∀ y, y ∈ vs.toArray → EqAt A.in1 s y u (f y)) ∧ vs.toArray.any f = b := by
  classical
  obtain ⟨hd, hb⟩ := inL_spec e
  have key : ∀ v ∈ vs, ∃ y ∈ xs, RepV s.heap y v := fun v hv => by
    obtain ⟨i, hi⟩ := List.getElem?_of_mem hv
    obtain ⟨y, hy, ry⟩ := ra.get' hi
    exact ⟨y, List.mem_of_getElem? hy, ry⟩
  have one : ∀ y v, y ∈ xs → RepV s.heap y v → ∃ q, eqv h 8 y x = some q ∧ EqAt A.in1 s v u q := fun y v hy rv => by
    obtain ⟨q, hq⟩ := hd y hy
    exact ⟨q, hq, EqAt.of_rc (eqv_rc r 8 (by rw [in1_units]; omega) rv rx hq).1 (fun z => by subst z; exact eqv_same r 8 rv rx hq) rv.notFloat⟩
  refine ⟨fun v => decide (∃ y ∈ xs, RepV s.heap y v ∧ eqv h 8 y x = some true), fun v hv => ?_, ?_⟩
  · obtain ⟨y, hy, ry⟩ := key v (by simpa using hv)
    obtain ⟨q, hq, eq⟩ := one y v hy ry
    dsimp only
    by_cases hex : ∃ y ∈ xs, RepV s.heap y v ∧ eqv h 8 y x = some true
    · rw [decide_eq_true hex]
      obtain ⟨y', hy', ry', hq'⟩ := hex
      obtain ⟨q', hq'', eq'⟩ := one y' v hy' ry'
      rw [hq'] at hq''; cases hq''; exact eq'
    · rw [decide_eq_false hex]
      cases q with
      | false => exact eq
      | true => exact absurd ⟨y, hy, ry, hq⟩ hex
  · rw [hb, Bool.eq_iff_iff]
    simp only [List.any_toArray, List.any_eq_true, decide_eq_true_eq]
    constructor
    · rintro ⟨v, hv, y, hy, ry, e⟩
      exact ⟨y, hy, by rw [e]; rfl⟩
    · rintro ⟨y, hy, e⟩
      obtain ⟨i, hi⟩ := List.getElem?_of_mem hy
      obtain ⟨v, hv, rv⟩ := ra.get hi
      obtain ⟨q, hq⟩ := hd y hy
      rw [hq] at e
      exact ⟨v, List.mem_of_getElem? hv, y, hy, rv, by rw [hq]; exact congrArg some e⟩

theorem in_ok {x y : V} {v u : Value} {b : Bool} (r : Rel X h s.heap) (rx : RepV s.heap x v) (ry : RepV s.heap y u) (e : inV h x y = some b) (hu : A.units + 20 < cLine) :
    (∀ P : Value → Shared → Prop, (∀ n, P (.bool b) { s with toks := n }) → wpAny X.M A (compareOp .In v u) P E s) ∧ ∀ P : Value → Shared → Prop, (∀ n, P (.bool (!b)) { s with toks := n }) → wpAny X.M A (compareOp .NotIn v u) P E s := by
  unfold inV at e
  split at e
  · rw [RepV] at ry
    obtain ⟨a, n, items, rfl, ha, ra, z⟩ := ry
    obtain ⟨f, hf, hb⟩ := items_in (A := A) r hu rx ra e
    subst hb
    exact ⟨fun P q => in_tupleAt f (isTuple_of ha) hf (q s.toks), fun P q => notIn_tupleAt f (isTuple_of ha) hf (q s.toks)⟩
  · simp only [RepV] at ry; subst ry
    split at e
    · rename_i xs ha
      obtain ⟨n, items, ha', ra, z⟩ := r.rep _ _ ha
      obtain ⟨f, hf, hb⟩ := items_in (A := A) r hu rx ra e
      subst hb
      exact ⟨fun P q => in_listAt f (isList_of ha') hf (q s.toks), fun P q => notIn_listAt f (isList_of ha') hf (q s.toks)⟩
    · rename_i kvs ep ha
      obtain ⟨us, hd, ra, z, ns⟩ := r.rep _ _ ha
      split at e
      · rename_i k
        simp only [RepV] at rx; obtain ⟨t, rfl⟩ := rx
        cases e
        have e2 : (valueAt ((kvs.map (·.1)).zip us) k).isSome = (dget kvs k).isSome := by
          obtain ⟨i1, i2⟩ := valueAt_dget (k := k) ra
          cases hg : dget kvs k with
          | none => rw [i2 hg]; rfl
          | some x => obtain ⟨u, hu, _⟩ := i1 x hg; rw [hu]; rfl
        rw [← e2]
        exact ⟨fun P q => wpAny_in_of (knd := intKind X.prog X.w) (intKind_is X.prog X.w _ _) (ne_sys ns) hd.dictOf.mapOf (q _),
          fun P q => wpAny_notIn_of (knd := intKind X.prog X.w) (intKind_is X.prog X.w _ _) (ne_sys ns) hd.dictOf.mapOf (q _)⟩
      · cases e
    · cases e
  · cases e

theorem cmp_ok {op : CmpOp} {x y : V} {v u : Value} {b : Bool} (r : Rel X h s.heap) (hu : A.units + 20 < cLine) (rx : RepV s.heap x v) (ry : RepV s.heap y u) (e : cmpV h op x y = some b) (q : Q (.bool b) h) :
    wpAny X.M A (compareOp op v u) (ValPost X h s Q) E s := by
  have qq := ValPost.pure (s := s) r (rep_bool (h := s.heap)) q
  have qt : ∀ n, ValPost X h s Q (.bool b) { s with toks := n } := fun n => ValPost.toks r rep_bool q
  unfold cmpV at e
  cases op <;> simp only at e
  · exact (eqv_rc r 8 (by omega) rx ry e).1 X.prog X.w E _ qq
  · obtain ⟨b', hb, rfl⟩ := Option.map_eq_some_iff.mp e
    exact (eqv_rc r 8 (by omega) rx ry hb).2 X.prog X.w E _ qq
  · exact (lt_ok r rx ry e hu).1 _ qq
  · exact (le_ok r rx ry e).1 _ qq
  · exact (lt_ok r ry rx e hu).2 _ qq
  · exact (le_ok r ry rx e).2 _ qq
  · exact (is_ok rx ry e).1 _ qq
  · obtain ⟨b', hb, rfl⟩ := Option.map_eq_some_iff.mp e
    exact (is_ok rx ry hb).2 _ qq
  · exact (in_ok r rx ry e hu).1 _ qt
  · obtain ⟨b', hb, rfl⟩ := Option.map_eq_some_iff.mp e
    exact (in_ok r rx ry hb hu).2 _ qt
end
end Mine

namespace Mine
open PySem PyProof.Rows PySem.Calls PySem.SeqAt

theorem zip_any {K : Type} [DecidableEq K] (k : K) : ∀ (d : List (K × V)) (us : List Value), us.length = d.length → (((d.map (·.1)).zip us).any fun kv => kv.1 = k) = d.any fun kv => kv.1 = k
  | [], us, _ => by simp
  | (k', x) :: d, [], h => by simp at h
  | (k', x) :: d, u :: us, h => by simp [zip_any k d us (by simpa using h)]

/-- a store, told on both sides -/
theorem stored_rep {K : Type} [DecidableEq K] {hp : Heap} {d : List (K × V)} {us : List Value} {k : K} {v : V} {u : Value} (ra : RepVs hp (d.map (·.2)) us) (ru : RepV hp v u) :
    ∃ us', stored ((d.map (·.1)).zip us) k u = ((dput d k v).map (·.1)).zip us' ∧ RepVs hp ((dput d k v).map (·.2)) us' := by
  have l := ra.length
  simp only [List.length_map] at l
  unfold stored dput
  rw [zip_any k d us l]
  split
  · rename_i hany
    clear hany l
    induction d generalizing us with
    | nil => cases ra; exact ⟨[], by simp, .nil⟩
    | cons p d ih =>
      obtain ⟨k', x⟩ := p
      obtain ⟨w, rest, rfl, r1, r2⟩ := ra
      obtain ⟨us', e1, e2⟩ := ih r2
      by_cases hk : k' = k
      · exact ⟨u :: us', by simp [hk, e1], by simp only [List.map_cons, hk, if_true]; exact .cons ru e2⟩
      · exact ⟨w :: us', by simp [hk, e1], by simp only [List.map_cons, hk, if_false]; exact .cons r1 e2⟩
  · exact ⟨us ++ [u], by simp [List.zip_append, l], by simp only [List.map_append, List.map_cons, List.map_nil]; exact ra.append (.cons ru .nil)⟩
theorem dput_length {K : Type} [DecidableEq K] (d : List (K × V)) (k : K) (v : V) : (dput d k v).length ≤ d.length + 1 := by
  unfold dput; split <;> simp

section
variable {X : Ctx} {c : Cfg} {sc : Scope} {σ : Slots} {env : Env} {fr : Fm} {A : Around} {h : AH} {s : Shared} {E : Value → Shared → Prop} {Q : V → AH → Prop} {K : Bool → AH → Prop}

theorem sameBut_keeps {a : Addr} {hp hp' : Heap} (hs : Heap.SameBut a hp hp') : ∀ b, b ≠ a → ∀ ob, hp.get? b = some ob → hp'.get? b = some ob := fun b n ob e => (hs.2 b n).trans e
theorem vk_of_upd {a : Addr} {o : O} {hp hp' : Heap} (r : Rel X h hp) (ha : h a = some o) (k : ∀ b, b ≠ a → ∀ ob, hp.get? b = some ob → hp'.get? b = some ob) : VK hp hp' := .exact fun b ob q l => by
  refine k b (fun z => ?_) ob q
  subst z
  obtain ⟨o₂, e₂, nl⟩ := (r.rep b o ha).there
  rw [q] at e₂; cases e₂; exact nl l

theorem set_dict {Kd : Type} [DecidableEq Kd] {knd : KeyKind X.prog X.w Kd} {a : Addr} {d : List (Kd × V)} {us : List Value} {k : Kd} {key u : Value} {v : V} {o : O} {P : AH → Prop}
    (r : Rel X h s.heap) (ha : h a = some o) (hf : ∀ xs, o ≠ .flist xs) (hd : s.heap.DictOf knd a ((d.map (·.1)).zip us)) (ra : RepVs s.heap (d.map (·.2)) us) (hkey : knd.is k key = true) (ru : RepV s.heap v u) (z : d.length ≤ small)
    (ho : ∀ hp vs, hp.DictOf knd a (((dput d k v).map (·.1)).zip vs) → RepVs hp ((dput d k v).map (·.2)) vs → (dput d k v).length ≤ big → ∃ o', RepO X.prog X.w hp a o' ∧ P (h.put a o')) :
    wpAny X.M A (setItem (.ref a) key u) (UnitPost X h s P) E s := by
  have l := ra.length
  simp only [List.length_map] at l
  obtain ⟨us', e1, e2⟩ := stored_rep (k := k) ra ru
  refine wpAny_setItem_pairs hkey hd (fun h' hd' hs' => ?_) (by simp [l]; exact small_size z)
  rw [e1] at hd'
  have kk := sameBut_keeps hs'
  have z' : (dput d k v).length ≤ big := by have := dput_length d k v; unfold small at z; unfold big; omega
  obtain ⟨o', ro, q⟩ := ho h' us' hd' (e2.mono (vk_of_upd r ha kk)) z'
  exact ⟨_, Step.upd r ha hf kk ⟨rfl, rfl, rfl⟩ ro, q⟩

theorem set_list {a : Addr} {items : List Value} {n : Nat} {k : Int} {t : Tok} {u : Value} {P : Unit → Shared → Prop} (ho : s.heap.get? a = some { cls := .type "list", data := .seq items.toArray n }) (h0 : 0 ≤ k) (h1 : k < items.length) (hf : k < 2 ^ 63)
    (hP : ∀ h', h'.get? a = some { cls := .type "list", data := .seq (items.set k.toNat u).toArray n } → Heap.SameBut a s.heap h' → P () { s with heap := h' }) : wpAny X.M A (setItem (.ref a) (.int k t) u) P E s := by
  have hl := isList_of ho
  unfold setItem
  try with_reducible refine wpAny_holding ?_
  refine wpAny_bind (wpAny_sequenceKey hl.typeIs (by decide) ?_)
  refine wpAny_bind (wpAny_callSpecial?_slot (name := Str.ofString "__setitem__") hl.typeIs slot_list_setitem
    (wpAny_call_entry slot_list_setitem hl.typeIs entry_list_setitem ?_ (args_list_setitem _ _ _)))
  show wpAny _ _ (Builtin.List.listSubscript? (.int k t) >>= _) _ _ s
  refine wpAny_bind (wpAny_listSubscript_int (fitsIndex_of h0 hf) ?_)
  clear hf
  obtain ⟨j, rfl⟩ := Int.eq_ofNat_of_zero_le h0
  have hj : j < items.length := by omega
  show wpAny _ _ ((seqItemAt a j >>= fun r => pure (r.map (j, ·))) >>= _) _ _ s
  refine wpAny_bind (wpAny_bind (wpAny_seqItemAt ho rfl (wpAny_pure ?_)))
  have hx : items.toArray[j]? = some items[j] := by simp [hj]
  rw [hx]
  show wpAny _ _ (setSeqItemAt a j u >>= _) _ _ s
  refine wpAny_bind (wpAny_setSeqItemAt ho rfl ?_)
  have e : Obj.mapSeq (fun xs => xs.setIfInBounds j u) { cls := .type "list", data := .seq items.toArray n } = { cls := .type "list", data := .seq (items.set j u).toArray n } := by simp [Obj.mapSeq]
  exact wpAny_pure ⟨.none, rfl, wpAny_pure (hP _ (e ▸ Heap.get?_update_self _ ho (by rw [e]; rfl)) (Heap.SameBut.update ..))⟩

theorem set_ok {x i v : V} {vx vi u : Value} {P : AH → Prop} (r : Rel X h s.heap) (rx : RepV s.heap x vx) (ri : RepV s.heap i vi) (ru : RepV s.heap v u) (w : setP x i v h P) :
    wpAny X.M A (setItem vx vi u) (UnitPost X h s P) E s := by
  unfold setP at w
  split at w
  · rename_i a k
    simp only [RepV] at rx ri; subst rx; obtain ⟨t, rfl⟩ := ri
    split at w
    · rename_i d ep ha
      obtain ⟨us, hd, ra, z, ns⟩ := r.rep _ _ ha
      exact set_dict r ha (by simp) hd.dictOf ra (intKind_is X.prog X.w _ _) ru w.1 (fun hp vs a b z' => let ⟨e, a'⟩ := a.dictAt; ⟨.idict (dput d k v) e, ⟨vs, a', b, z', ns⟩, w.2 e⟩)
    · rename_i vs ha
      obtain ⟨n, items, ha', ra, z⟩ := r.rep _ _ ha
      have l := ra.length
      obtain ⟨⟨h0, h1⟩, q⟩ := w
      refine set_list ha' h0 (by omega) (by unfold big at z; omega) fun h' hg hs' => ?_
      have kk := sameBut_keeps hs'
      exact ⟨_, Step.upd r ha (by simp) kk ⟨rfl, rfl, rfl⟩ (o' := .list (vs.set k.toNat v)) ⟨_, _, hg, (ra.set _ ru).mono (vk_of_upd r ha kk), by simpa using z⟩, q⟩
    · exact w.elim
  · exact w.elim

/-! built-in functions -/
theorem RepVs.of {hp : Heap} : ∀ {xs : List V} {vs : List Value}, vs.length = xs.length → (∀ (i : Nat) (x : V) (v : Value), xs[i]? = some x → vs[i]? = some v → RepV hp x v) → RepVs hp xs vs
  | [], [], _, _ => rfl
  | x :: xs, v :: vs, hl, k => ⟨v, vs, rfl, k 0 x v rfl rfl, RepVs.of (by simpa using hl) fun i x' v' a b => k (i + 1) x' v' (by simpa using a) (by simpa using b)⟩
  | [], _ :: _, hl, _ => by simp at hl
  | _ :: _, [], hl, _ => by simp at hl
theorem intKind_inv {prog : Program} {w : World} {k : Int} {v : Value} (e : (intKind prog w).is k v = true) : ∃ t, v = .int k t := by
  cases v <;> simp [intKind, Value.isInt] at e
  subst e; exact ⟨_, rfl⟩
theorem call_list_ok {x : V} {v : Value} {l : List V} (hh : A.handled = none) (r : Rel X h s.heap) (rx : RepV s.heap x v) (e : itemsV h x = some l) (q : newP (.list l) h Q) :
    wpAny X.M A (call (.type "list") [v]) (ValPost X h s Q) E s := by
  unfold itemsV at e
  split at e
  · cases e
    rw [RepV] at rx
    obtain ⟨a, n, items, rfl, ha, ra, z⟩ := rx
    refine call_list_seq (hsz := by rw [List.size_toArray, ra.length]; exact big_size z) a (.inr rfl) ha rfl rfl fun h' c' hk hD => ?_
    have hn : s.heap.get? s.heap.objs.size = none := by
      cases e : s.heap.get? s.heap.objs.size with
      | none => rfl
      | some o => exact absurd (Heap.lt_size e) (Nat.lt_irrefl _)
    exact ⟨_, _, rep_ref, Step.new r hk ⟨rfl, rfl, rfl⟩ hn (o := .list _) ⟨_, _, hD, ra.mono (.of_keeps hk), z⟩, q _ (r.none_of_new hn)⟩
  · simp only [RepV] at rx; subst rx
    split at e
    · rename_i vs ha
      cases e
      obtain ⟨n, items, ha', ra, z⟩ := r.rep _ _ ha
      refine call_list_seq (hsz := by rw [List.size_toArray, ra.length]; exact big_size z) _ (.inl rfl) ha' rfl rfl fun h' c' hk hD => ?_
      have hn : s.heap.get? s.heap.objs.size = none := by
        cases e : s.heap.get? s.heap.objs.size with
        | none => rfl
        | some o => exact absurd (Heap.lt_size e) (Nat.lt_irrefl _)
      exact ⟨_, _, rep_ref, Step.new r hk ⟨rfl, rfl, rfl⟩ hn (o := .list _) ⟨_, _, hD, ra.mono (.of_keeps hk), z⟩, q _ (r.none_of_new hn)⟩
    · rename_i d ep ha
      cases e
      obtain ⟨us, hd, ra, z, ns⟩ := r.rep _ _ ha
      have l1 := ra.length
      simp only [List.length_map] at l1
      have l2 : ((d.map (·.1)).zip us).length = d.length := by simp [l1]
      refine PySem.W.kdl_call (PySem.W.kdl_dict (knd := intKind X.prog X.w) (ne_sys ns)) hh hd (by rw [l2]; exact big_size z) fun h' tk acc' c' hk hD hacc => ?_
      have hn : s.heap.get? s.heap.objs.size = none := by
        cases e : s.heap.get? s.heap.objs.size with
        | none => rfl
        | some o => exact absurd (Heap.lt_size e) (Nat.lt_irrefl _)
      refine ⟨_, _, rep_ref, Step.new r hk ⟨rfl, rfl, rfl⟩ hn (o := .list _) ⟨c', acc'.toList, by simpa using hD, RepVs.of ?_ fun i x v a b => ?_, by simpa using z⟩, q _ (r.none_of_new hn)⟩
      · simp [hacc.1, l1]
      · obtain ⟨k, y, e1, e2⟩ := hacc.2 i v (by simpa using b)
        obtain ⟨t, rfl⟩ := intKind_inv e2
        rw [List.getElem?_map] at a
        cases hdi : d[i]? with
        | none => rw [hdi] at a; simp at a
        | some kv =>
          rw [hdi] at a; simp at a; subst a
          have := List.getElem?_zip_eq_some.mp e1
          simp [hdi] at this
          rw [this.1]; exact rep_int
    · cases e
  · cases e

theorem call_len_ok {x : V} {v : Value} {n : Nat} (r : Rel X h s.heap) (rx : RepV s.heap x v) (e : lenV h x = some n) (q : Q (.int n) h) :
    wpAny X.M A (call (.builtin "len") [v]) (ValPost X h s Q) E s := by
  unfold lenV at e
  split at e
  · cases e
    rw [RepV] at rx
    obtain ⟨a, n, items, rfl, ha, ra, z⟩ := rx
    refine len_tuple (isTup_of ha) (by rw [List.size_toArray, ra.length]; exact big_fit z) ?_
    rw [List.size_toArray, ra.length]; exact .toks r rep_int q
  · simp only [RepV] at rx; subst rx
    split at e
    · rename_i vs ha
      cases e
      obtain ⟨n, items, ha', ra, z⟩ := r.rep _ _ ha
      refine call_len_list (isList_of ha') (by rw [List.size_toArray, ra.length]; exact big_fit z) ?_
      rw [List.size_toArray, ra.length]; exact .toks r rep_int q
    · rename_i vs ha
      cases e
      obtain ⟨items, ha', ra, z⟩ := r.rep _ _ ha
      refine call_len_list ha' (by rw [List.size_toArray, ra.length]; exact big_fit z) ?_
      rw [List.size_toArray, ra.length]; exact .toks r rep_int q
    · rename_i d ep ha
      cases e
      obtain ⟨us, hd, ra, z, ns⟩ := r.rep _ _ ha
      have l := ra.length
      simp only [List.length_map] at l
      have l2 : ((d.map (·.1)).zip us).length = d.length := by simp [l]
      refine call_len_dict (ne_sys ns) hd.dictOf (by rw [l2]; exact big_fit z) ?_
      rw [l2]; exact .toks r rep_int q
    · cases e
  · cases e
end
end Mine

namespace Mine
open PySem PyProof.Rows PySem.Calls PySem.SeqAt

theorem starEach_cons {e : PySem.Expr} {rest : List PySem.Expr} {env : Env} (h : plainE e = true) : starEach (e :: rest) env = (false, eval e env) :: starEach rest env := by
  cases e <;> first | rfl | cases h
theorem foldedSet_plain {e : PySem.Expr} {env : Env} (h : plainE e = true) : ∀ x, foldedSetIterable e env x = pure x := by
  intro x
  cases e <;> first | rfl | cases h
theorem subscripted_plain {e : PySem.Expr} {o i : Value} (h : plainE e = true) : subscripted e false o i = operate [o, i] (getItem o i) := by
  cases e <;> first | rfl | cases h

section
variable {X : Ctx} {sc : Scope} {σ : Slots}

theorem OkA.u {c : Cfg} {A : Around} (a : OkA c A) : A.units + 20 < cLine := by have := a.units; unfold cLine; omega

theorem se_bin {op : Operator} {a b : Ex} {l r : PySem.Expr} {p : Pos} (ha : SE X sc σ a l) (hb : SE X sc σ b r) : SE X sc σ (.bin op a b) (.BinOp l op r p) := by
  intro c R fr Q h env A s w i
  dsimp only [wpE] at w
  refine wpAny_BinOp (wpAny_mono (ha _ _ _ _ _ _ _ _ w i) (fun v s1 ⟨x, h1, rv, st, w1⟩ => ?_) fun _ _ e => e)
  have i1 := i.step st
  refine wpAny_mono (hb _ _ _ _ _ _ _ _ w1 i1) (fun u s2 ⟨y, h2, ru, st2, w2⟩ => ?_) fun _ _ e => e.back st
  exact wpAny_mono (binop_ok st2.rel (rv.mono (st2.vk i1.r)) ru w2) (fun _ _ q => q.back (st.trans st2)) fun _ _ e => e

theorem se_cmp {op : CmpOp} {a b : Ex} {l r : PySem.Expr} {p : Pos} (ha : SE X sc σ a l) (hb : SE X sc σ b r) (hm : behindInMarks op r = false) : SE X sc σ (.cmp op a b) (.Compare l [op] [r] p) := by
  intro c R fr Q h env A s w i
  dsimp only [wpE] at w
  refine wpAny_Compare1 (wpAny_mono (ha _ _ _ _ _ _ _ _ w i) (fun v s1 ⟨x, h1, rv, st, w1⟩ => ?_) fun _ _ e => e) hm
  have i1 := i.step st
  refine wpAny_mono (hb _ _ _ _ _ _ _ _ w1 i1) (fun u s2 ⟨y, h2, ru, st2, w2⟩ => ?_) fun _ _ e => e.back st
  try dsimp only at w2
  split at w2
  · rename_i rr hr
    exact wpAny_mono (cmp_ok st2.rel i.a.u (rv.mono (st2.vk i1.r)) ru hr w2) (fun _ _ q => q.back (st.trans st2)) fun _ _ e => e
  · exact w2.elim

theorem st_cmp {op : CmpOp} {a b : Ex} {l r : PySem.Expr} {p : Pos} (ha : SE X sc σ a l) (hb : SE X sc σ b r) (hm : behindInMarks op r = false) : ST X sc σ (.cmp op a b) (.Compare l [op] [r] p) := by
  intro c R fr K h env A s w i
  unfold wpT at w
  refine wpAny_isTrue_Compare1 (wpAny_mono (ha _ _ _ _ _ _ _ _ w i) (fun v s1 ⟨x, h1, rv, st, w1⟩ => ?_) fun _ _ e => e) hm
  have i1 := i.step st
  refine wpAny_mono (hb _ _ _ _ _ _ _ _ w1 i1) (fun u s2 ⟨y, h2, ru, st2, w2⟩ => ?_) fun _ _ e => e.back st
  try dsimp only at w2
  split at w2
  · rename_i rr hr
    refine wpAny_mono (cmp_ok (Q := fun z h' => z = .bool rr ∧ K rr h') st2.rel i.a.u (rv.mono (st2.vk i1.r)) ru hr ⟨rfl, w2⟩) (fun v3 s3 ⟨z, h3, rz, st3, ez, k3⟩ => ?_) fun _ _ e => e
    subst ez
    simp only [RepV] at rz; subst rz
    exact wpAny_truthy_bool ⟨h3, (st.trans st2).trans st3, k3⟩
  · exact w2.elim

theorem se_not {a : Ex} {x : PySem.Expr} {p : Pos} (ha : SE X sc σ a x) : SE X sc σ (.not a) (.UnaryOp .Not x p) := by
  intro c R fr Q h env A s w i
  dsimp only [wpE] at w
  rw [arm_eval_UnaryOp]
  refine wpAny_bind (wpAny_mono (ha _ _ _ _ _ _ _ _ w i) (fun v s1 ⟨x, h1, rv, st, w1⟩ => ?_) fun _ _ e => e)
  refine wpAny_bind (wpAny_standAt (wpAny_holding (not_of ?_)))
  try dsimp only at w1
  split at w1
  · rename_i rr hr
    refine wpAny_mono (truth_ok (K := fun b h' => b = rr ∧ Q (.bool (!rr)) h') st.rel rv (by rw [hr]; exact ⟨rfl, w1⟩)) (fun b s2 ⟨h2, st2, e, q⟩ => ?_) fun _ _ e => e
    subst e
    exact ⟨_, h2, rep_bool, st.trans st2, q⟩
  · exact w1.elim

theorem st_not {a : Ex} {x : PySem.Expr} {p : Pos} (ha : ST X sc σ a x) : ST X sc σ (.not a) (.UnaryOp .Not x p) := by
  intro c R fr K h env A s w i
  unfold wpT at w
  exact isTrue_not (wpAny_mono (ha _ _ _ _ _ _ _ _ w i) (fun b s1 ⟨h1, st, k⟩ => ⟨h1, st, k⟩) fun _ _ e => e)

theorem se_neg {a : Ex} {x : PySem.Expr} {p : Pos} (ha : SE X sc σ a x) : SE X sc σ (.neg a) (.UnaryOp .USub x p) := by
  intro c R fr Q h env A s w i
  dsimp only [wpE] at w
  rw [arm_eval_UnaryOp]
  refine wpAny_bind (wpAny_mono (ha _ _ _ _ _ _ _ _ w i) (fun v s1 ⟨x, h1, rv, st, w1⟩ => ?_) fun _ _ e => e)
  refine wpAny_bind (wpAny_standAt (wpAny_holding ?_))
  try dsimp only at w1
  split at w1
  · simp only [RepV] at rv; obtain ⟨t, rfl⟩ := rv
    exact PyProof.Rows.neg_int (ValPost.back st (.toks st.rel rep_int w1))
  · exact w1.elim

/-- a test that is no and, or, not, comparison -/
theorem st_plain {x : Ex} {e : PySem.Expr} (hx : SE X sc σ x e) (h1 : ∀ c R whole fr K h, wpT X c R x whole fr K h = whole (fun v h1 => match truthV h1 v with | some r => K r h1 | none => False) h)
    (h2 : ∀ env whole, isTrue e env whole = (do let v ← whole; standAt e.pos; holding [v] (truthy v))) : ST X sc σ x e := by
  intro c R fr K h env A s w i
  rw [h1] at w
  refine isTrue_plain (wpAny_mono (hx _ _ _ _ _ _ _ _ w i) (fun v s1 ⟨x, h1, rv, st, w1⟩ => ?_) fun _ _ e => e) (h2 _ _)
  exact wpAny_mono (truth_ok st.rel rv w1) (fun b s2 q => q.back st) fun _ _ e => e

theorem se_tuple {es : List Ex} {vs : List PySem.Expr} {k : Nat} {p : Pos} (hs : ∀ c R fr Q h env A s, wpEs X c R es fr Q h → In X c sc σ env fr A h s → wpAny X.M A (spliced (backTo p (starEach vs env))) (ValsPost X h s Q) (ExcPost X A h s R) s) :
    SE X sc σ (.tuple es) (.Tuple vs k p) := by
  intro c R fr Q h env A s w i
  dsimp only [wpE] at w
  rw [arm_eval_Tuple]
  refine wpAny_bind (wpAny_standAt (wpAny_bind (wpAny_mono (hs _ _ _ _ _ _ _ _ w i) (fun us s1 ⟨xs, h1, rv, st, z, q⟩ => ?_) fun _ _ e => e)))
  exact wpAny_newTuple (ValPost.back st (ValPost.tup st.rel rv (small_big z) q)) (by rw [rv.length]; exact small_size z)

theorem se_list {es : List Ex} {vs : List PySem.Expr} {p : Pos} (hs : ∀ c R fr Q h env A s, wpEs X c R es fr Q h → In X c sc σ env fr A h s → wpAny X.M A (spliced (backTo p (starEach vs env))) (ValsPost X h s Q) (ExcPost X A h s R) s) :
    SE X sc σ (.list es) (.List vs p) := by
  intro c R fr Q h env A s w i
  dsimp only [wpE] at w
  rw [arm_eval_List]
  refine wpAny_bind (wpAny_standAt (wpAny_bind (wpAny_mono (hs _ _ _ _ _ _ _ _ w i) (fun us s1 ⟨xs, h1, rv, st, z, q⟩ => ?_) fun _ _ e => e)))
  exact wpAny_newList (ValPost.back st (ValPost.new (o := .list xs) st.rel rfl ⟨_, _, Heap.get?_push_size _ rfl, rv.mono (push_vk _ _), small_big z⟩ q)) (by rw [rv.length]; exact small_size z)

theorem backTo_false {p : Pos} {t : Sem Value} {r : List (Bool × Sem Value)} : backTo p ((false, t) :: r) = (false, t) :: backTo p r := by simp [backTo]

theorem spliced_ok : ∀ {es : List Ex} {vs : List PySem.Expr} {p : Pos}, SEs X sc σ es vs → (∀ e ∈ vs, plainE e = true) → ∀ c R fr Q h env A s, wpEs X c R es fr Q h → In X c sc σ env fr A h s →
    wpAny X.M A (spliced (backTo p (starEach vs env))) (ValsPost X h s Q) (ExcPost X A h s R) s
  | [], [], p, _, _, c, R, fr, Q, h, env, A, s, w, i => by
    unfold wpEs at w
    exact spliced_nil ⟨[], h, .nil, .refl i.r, w⟩
  | x :: xs, e :: es, p, hs, hp, c, R, fr, Q, h, env, A, s, w, i => by
    unfold wpEs at w
    rw [starEach_cons (hp e (.head _)), backTo_false]
    refine spliced_cons (wpAny_mono (hs.1 _ _ _ _ _ _ _ _ w i) (fun v s1 ⟨y, h1, rv, st, w1⟩ => ?_) fun _ _ e => e)
    have i1 := i.step st
    refine wpAny_mono (spliced_ok hs.2 (fun e he => hp e (.tail _ he)) _ _ _ _ _ _ _ _ w1 i1) (fun us s2 ⟨ys, h2, rus, st2, q⟩ => ?_) fun _ _ e => e.back st
    exact ⟨y :: ys, h2, .cons (rv.mono (st2.vk i1.r)) rus, st.trans st2, q⟩
  | [], _ :: _, _, hs, _, _, _, _, _, _, _, _, _, _, _ => hs.elim
  | _ :: _, [], _, hs, _, _, _, _, _, _, _, _, _, _, _ => hs.elim

theorem evalArgs_ok {f : Value} {args : List (Bool × Sem Value)} {A : Around} {Q : List Value → Shared → Prop} {E : Value → Shared → Prop} {s : Shared} (hp : args.any (·.1) = false) (h : wpAny X.M A (spliced args) Q E s) :
    wpAny X.M A (evalArgs f true args []) (fun a s' => a.kw = [] ∧ Q a.pos s') E s := by
  cases args with
  | nil =>
    show wpAny _ _ (spliced [] >>= fun vs => pure (⟨vs, []⟩ : Args)) _ _ _
    exact wpAny_bind (wpAny_mono h (fun vs s1 q => wpAny_pure ⟨rfl, q⟩) fun _ _ e => e)
  | cons p r =>
    obtain ⟨b, t⟩ := p
    cases b with
    | false => exact evalArgs_plain (wpAny_mono h (fun vs s1 q => ⟨rfl, q⟩) fun _ _ e => e)
    | true => simp at hp
theorem star_any {p : Pos} : ∀ {vs : List PySem.Expr} {env : Env}, (∀ e ∈ vs, plainE e = true) → (backTo p (starEach vs env)).any (·.1) = false
  | [], env, _ => rfl
  | e :: es, env, hp => by rw [starEach_cons (hp e (.head _)), backTo_false]; simpa using star_any fun e he => hp e (.tail _ he)
end
end Mine

namespace Mine
open PySem PyProof.Rows PySem.Calls PySem.SeqAt PySem.W

noncomputable def biVal : Bi → Value
  | .len => .builtin "len" | .list => .type "list" | .dict => .type "dict" | .tuple => .type "tuple" | .sorted => .builtin "sorted" | .min => .builtin "min" | .max => .builtin "max"
  | .int => .type "int" | .any => .builtin "any" | .all => .builtin "all" | .str => .type "str"

/-- what the head says of a class -/
structure ClsOk (K : Frag) (C : Addr) : Prop where
  mks : makesIn K C = true
  keep : keepIn K (.ref C) = true
  ga : findIn K (.ref C) "__getattribute__" = some (some (.builtin "object.__getattribute__"))
  gx : findIn K (.ref C) "__getattr__" = some none
  sa : findIn K (.ref C) "__setattr__" = some (some (.builtin "object.__setattr__"))
  over : plainOver K C = true
  hd : (clsIn K C).any (·.hasDict) = true
structure KOk (X : Ctx) (K : Frag) : Prop where
  cls : ∀ n C, X.cls n = some C → X.mg n = some (.ref C) ∧ ClsOk K C
  meth : ∀ C m f, X.meth C m = some f → ∃ fa, X.fa f = some fa ∧ findIn K (.ref C) m = some (some (.ref fa)) ∧ typeIn K (.ref fa) = some (.type "function") ∧ ClsOk K C
  attr : ∀ C n, X.attr C n = true → findIn K (.ref C) n = some none ∧ ClsOk K C
noncomputable def bmVE : List Value := [.type "ValueError", .type "Exception", .type "BaseException", .type "object"]
/-- what the head says of a class of exceptions -/
structure ExcAt (X : Ctx) (n : Str) (C : Addr) : Prop where
  bound : X.mg n = some (.ref C)
  obj : ∃ bm N nm q bs hdct sn sub ab col dd k0 k1 k2 k3 k5 mN, X.base.get? C = some (excClassObj nm q C N bs bm hdct sn sub ab col dd k0 k1 k2 k3 k5 "ValueError.__new__") ∧ X.base.Ns N mN ∧ mN "__init__" = none ∧ OwnTail X.base bmVE bm ∧
    ∀ n' H, X.exc n' = some H → (Value.ref C :: bm).contains (.ref H) = X.sub C H
structure Ctx.Good (X : Ctx) : Prop where
  ex : ∀ n C, X.exc n = some C → ExcAt X n C
  ve : (∀ n, X.exc n = none) ∨ (X.mg "ValueError" = none ∧ X.mb "ValueError" = some (.type "ValueError"))
  g : X.base.Ns mainGlobals X.mg
  b : X.base.Ns builtinsNs X.mb
  lim : X.base.NoLimit
  bi : ∀ b : Bi, X.mg (biName b) = none ∧ X.mb (biName b) = some (biVal b)
  isi : X.mg "isinstance" = none ∧ X.mb "isinstance" = some (.builtin "isinstance")
  ty : ∀ n ∈ (["int", "bool", "str", "list", "dict", "tuple"] : List String), X.mg (Str.ofString n) = none ∧ X.mb (Str.ofString n) = some (.type n)
  range : X.mg "range" = none ∧ X.mb "range" = some (.type "range")
  reversed : X.mg "reversed" = none ∧ X.mb "reversed" = some (.type "reversed")
  fg : ∀ f a, X.fa f = some a → f.cps.contains 46 = false → X.mg f = some (.ref a)
  fn : ∀ f a, X.fa f = some a → ∃ o fd, X.base.get? a = some o ∧ o.data = .func fd
  sysm : ∃ a o, sysModules < a ∧ X.base.get? a = some o
  gl : ∀ n v, X.glob n = some v → ∃ u, X.mg n = some u ∧ RepV X.base v u
  kc : ∃ K : Frag, K.In X.base ∧ KOk X K

section
variable {X : Ctx} {sc : Scope} {σ : Slots} {c : Cfg} {env : Env} {fr : Fm} {A : Around} {h : AH} {s : Shared} {E : Value → Shared → Prop} {Q : Value → Shared → Prop}

theorem Rel.ns {a m} (r : Rel X h s.heap) (n : X.base.Ns a m) : s.heap.Ns a m := n.keeps r.base
theorem Rel.vkb (r : Rel X h s.heap) : VK X.base s.heap := .of_keeps r.base

theorem load_global (G : X.Good) (i : In X c sc σ env fr A h s) {n : Str} {p : Pos} {v : Value} (hg : isGlob sc n = true) (hd : (n == ("__debug__" : Str)) = false) (hv : X.mg n = some v) (q : Q v s) :
    wpAny X.M A (eval (.Name n p) env) Q E s := by
  refine Name_function_global i.e.kind (i.e.glob n (by simpa [isGlob] using hg)) ?_ hd
  exact loadGlobal_global (by rw [i.e.globals]; exact i.r.ns G.g) hv q
theorem load_builtin (G : X.Good) (i : In X c sc σ env fr A h s) {n : Str} {p : Pos} {v : Value} (hg : isGlob sc n = true) (hd : (n == ("__debug__" : Str)) = false) (hv : X.mg n = none ∧ X.mb n = some v) (q : Q v s) :
    wpAny X.M A (eval (.Name n p) env) Q E s := by
  refine Name_function_global i.e.kind (i.e.glob n (by simpa [isGlob] using hg)) ?_ hd
  exact loadGlobal_builtin (by rw [i.e.globals]; exact i.r.ns G.g) hv.1 (by rw [i.e.builtins]; exact i.r.ns G.b) hv.2 q

theorem se_glob (G : X.Good) {n : Str} {p : Pos} (hg : isGlob sc n = true) (hd : (n == ("__debug__" : Str)) = false) : SE X sc σ (.glob n) (.Name n p) := by
  intro c R fr Q h env A s w i
  dsimp only [wpE] at w
  split at w
  · rename_i v hv
    obtain ⟨u, hu, ru⟩ := G.gl n v hv
    exact load_global G i hg hd hu (.pure i.r (ru.mono i.r.vkb) w)
  · exact w.elim

theorem se_sub {o i : Ex} {v k : PySem.Expr} {p : Pos} (ho : SE X sc σ o v) (hi : SE X sc σ i k) (hp : plainE k = true) : SE X sc σ (.sub o i) (.Subscript v k p) := by
  intro c R fr Q h env A s w i
  dsimp only [wpE] at w
  refine Subscript_ (wpAny_mono (ho _ _ _ _ _ _ _ _ w i) (fun vo s1 ⟨x, h1, rv, st, w1⟩ => ?_) fun _ _ e => e)
  have i1 := i.step st
  refine wpAny_mono (hi _ _ _ _ _ _ _ _ w1 i1) (fun u s2 ⟨y, h2, ru, st2, w2⟩ => ?_) fun _ _ e => e.back st
  try dsimp only at w2
  split at w2
  · rename_i v hv
    have rv2 := rv.mono (st2.vk i1.r)
    have key := getV_ok (A := A) (E := ExcPost X A h s R) (Q := Q) st2.rel rv2 ru hv w2
    have key2 := wpAny_mono key (fun _ _ q => q.back (st.trans st2)) fun _ _ e => e
    have hs : subscripted k false vo u = operate [vo, u] (getItem vo u) := subscripted_plain hp
    unfold getV at hv
    split at hv
    · rw [RepV] at rv2
      obtain ⟨a, n, items, rfl, ha, _⟩ := rv2
      exact tail_any (isTup_of ha).typeIs slot_tuple_getitem.lookup key2 hs
    · simp only [RepV] at rv2; subst rv2
      split at hv
      · rename_i ha; obtain ⟨n, items, ha', _⟩ := st2.rel.rep _ _ ha
        exact tail_any (isList_of ha').typeIs slot_list_getitem.lookup key2 hs
      · rename_i ha; obtain ⟨items, ha', _⟩ := st2.rel.rep _ _ ha
        exact tail_any ha'.typeIs slot_list_getitem.lookup key2 hs
      · rename_i ha; obtain ⟨vs, hd, _⟩ := st2.rel.rep _ _ ha
        exact tail_any hd.dictOf.typeIs slot_dict_getitem.lookup key2 hs
      · cases hv
    · cases hv
  · exact w2.elim

theorem Rel.ne_sys (G : X.Good) (r : Rel X h s.heap) {n : Nat} (hn : s.heap.objs.size ≤ n) : n ≠ sysModules := fun e => by
  obtain ⟨a, o, ha, ho⟩ := G.sysm
  have := Nat.lt_trans ha (Heap.lt_size (r.base _ _ ho))
  subst e
  exact Nat.lt_irrefl _ (Nat.lt_of_lt_of_le this hn)
theorem se_dict0 (G : X.Good) {p : Pos} : SE X sc σ .dict0 (.Dict [] [] p) := by
  intro c R fr Q h env A s w i
  dsimp only [wpE] at w
  refine wpAny_Dict_empty ?_
  have hne : s.heap.objs.size ≠ sysModules := i.r.ne_sys G (Nat.le_refl _)
  have hd : (s.heap.push { cls := .type "dict", data := .dict #[] }).DictOf (intKind X.prog X.w) s.heap.objs.size [] := Heap.DictOf.new _
  obtain ⟨e, hd'⟩ := hd.dictAt
  exact ValPost.new (o := .idict [] e) i.r rfl ⟨[], hd', .nil, Nat.zero_le _, hne⟩ (w e)

theorem dict1_el {ks : List (Option PySem.Expr)} {vs : List PySem.Expr} {x y : PySem.Expr} (e : (match ks with | [some k] => (match vs with | [v] => [k, v] | _ => []) | _ => []) = [x, y]) : ks = [some x] ∧ vs = [y] := by
  rcases ks with _ | ⟨_ | k, _ | ⟨k', ks⟩⟩ <;> try (cases e; done)
  rcases vs with _ | ⟨v, _ | ⟨v', vs⟩⟩ <;> cases e
  exact ⟨rfl, rfl⟩
theorem se_idict1 (G : X.Good) {k v : Ex} {ek ev : PySem.Expr} {p : Pos} (hk : SE X sc σ k ek) (hv : SE X sc σ v ev) : SE X sc σ (.idict1 k v) (.Dict [some ek] [ev] p) := by
  intro c R fr Q h env A s w i
  dsimp only [wpE] at w
  have hne : s.heap.objs.size ≠ sysModules := i.r.ne_sys G (Nat.le_refl _)
  have hd : (s.heap.push { cls := .type "dict", data := .dict #[] }).DictOf (intKind X.prog X.w) s.heap.objs.size [] := Heap.DictOf.new _
  obtain ⟨e, hd'⟩ := hd.dictAt
  have hn : s.heap.get? s.heap.objs.size = none := by
    cases q : s.heap.get? s.heap.objs.size with
    | none => rfl
    | some o => exact absurd (Heap.lt_size q) (Nat.lt_irrefl _)
  have st0 : Step X h s (h.put s.heap.objs.size (.idict [] e)) { s with heap := s.heap.push { cls := .type "dict", data := .dict #[] } } :=
    Step.new i.r (fun b o q => Heap.get?_push_of_some _ q) ⟨rfl, rfl, rfl⟩ hn (o := .idict [] e) ⟨[], hd', .nil, Nat.zero_le _, hne⟩
  have i0 := i.step st0
  refine wpAny_Dict_pairs (knd := intKind X.prog X.w) (pairs := [(eval ek env, (do let x ← eval ev env; standAt p; pure x))]) rfl (by simp) (by simp) ?_
  refine evalPairs_cons (wpAny_mono (hk _ _ _ _ _ _ _ _ (w e _ (i.r.none_of_new hn)) i0) (fun kv s1 ⟨x, h1, rk, st1, w1⟩ => ?_) fun _ _ q => q.back st0)
  have i1 := i0.step st1
  refine wpAny_bind (wpAny_mono (hv _ _ _ _ _ _ _ _ w1 i1) (fun vv s2 ⟨y, h2, rv, st2, w2⟩ => ?_) fun _ _ q => q.back (st0.trans st1))
  refine wpAny_bind (wpAny_standAt (wpAny_pure (evalPairs_nil ?_)))
  have i2 := i1.step st2
  replace w2 := int_inv w2
  obtain ⟨z, rfl, ⟨e', ha⟩, w2⟩ := w2
  simp only [RepV] at rk
  obtain ⟨t, rfl⟩ := rk
  obtain ⟨us, hd2, ra, zz, ns⟩ := i2.r.rep _ _ ha
  refine ⟨[(z, vv)], ⟨intKind_is X.prog X.w _ _, rfl, trivial⟩, ?_, fun h' hm hs' => ?_⟩
  · simpa using hd2.dictOf
  obtain ⟨e2, hm2⟩ := hm.dictAt
  have kk := sameBut_keeps hs'
  exact ⟨_, _, rep_ref, ((st0.trans st1).trans st2).trans (Step.upd i2.r ha (by simp) kk ⟨rfl, rfl, rfl⟩ (o' := .idict [(z, y)] e2) ⟨[vv], by simpa [merged, stored] using hm2, ⟨_, _, rfl, rv.mono (vk_of_upd i2.r ha kk), rfl⟩, by unfold big; simp, ns⟩), w2 e2⟩

/-- a call of one of the text's own defs -/
theorem se_callf (G : X.Good) {f : Str} {es : List Ex} {args : List PySem.Expr} {p pos : Pos} (hs : SEs X sc σ es args) (hp : ∀ e ∈ args, plainE e = true) (hg : isGlob sc f = true) (hd : (f == ("__debug__" : Str)) = false) (hdot : f.cps.contains 46 = false) :
    SE X sc σ (.callf f es) (.Call (.Name f p) args [] pos) := by
  intro c R fr Q h env A s w i
  dsimp only [wpE] at w
  show wpAny _ _ (eval (.Name f p) env >>= fun v => callWith pos v [] (backTo pos (starEach args env)) []) _ _ _
  obtain ⟨w0, w⟩ := w
  have key := spliced_ok hs hp (p := pos) _ _ _ _ _ _ _ _ w i
  cases hfa : X.fa f with
  | none => rw [hfa] at w0; cases w0
  | some fa =>
    obtain ⟨o, fd, ho, hfd⟩ := G.fn f fa hfa
    refine wpAny_bind (load_global G i hg hd (G.fg f fa hfa hdot) ?_)
    refine callWith_function (o := o) (fd := fd) (wpAny_mono (evalArgs_ok (star_any hp) key) (fun a s1 ⟨hk, xs, h1, rv, st, hh, k, ek, fa', efa, call⟩ => ⟨⟨st.rel.base _ _ ho, hfd⟩, ?_⟩) fun _ _ e => e)
    rw [hfa] at efa; cases efa
    have oA : OkA ⟨k, true⟩ A := ⟨fun _ => i.a.handled hh, by have := i.a.depth; rw [ek] at this; show A.depth + k < 1000; omega, by have := i.a.units; rw [ek] at this; show A.units + 10 * k < 9000; omega⟩
    have cc := call A s1 a.pos oA (i.fs.step st) st.rel rv
    simp only [List.nil_append]
    rw [hk]
    refine wpAny_call (codeAny_mono cc fun res s' y => ?_)
    cases res with
    | error e => exact ExcPost.back st y
    | ok fl =>
      cases fl with
      | ret v => exact ValPost.back st y
      | next => exact y
      | brk => exact y
      | cont => exact y
end
end Mine

namespace Mine
open PySem PyProof.Rows PySem.Calls PySem.SeqAt

section
variable {X : Ctx} {sc : Scope} {σ : Slots}

theorem boolOp_ok {op : BoolOp} {pos : Pos} : ∀ {es : List Ex} {vs : List PySem.Expr}, SEs X sc σ es vs → ∀ c R fr Q h env A s, wpB X c R op es fr Q h → In X c sc σ env fr A h s →
    wpAny X.M A (boolOp pos op (evalEach vs env)) (ValPost X h s Q) (ExcPost X A h s R) s
  | [], [], _, c, R, fr, Q, h, env, A, s, w, i => by unfold wpB at w; exact w.elim
  | [x], [e], hs, c, R, fr, Q, h, env, A, s, w, i => by
    unfold wpB at w
    exact hs.1 _ _ _ _ _ _ _ _ w i
  | x :: y :: xs, e :: e' :: es, hs, c, R, fr, Q, h, env, A, s, w, i => by
    unfold wpB at w
    show wpAny _ _ (do
      let v ← eval e env
      standAt pos
      let t ← holding [v] (truthy v)
      match op, t with
      | .And, false | .Or, true => pure v
      | _, _ => boolOp pos op (evalEach (e' :: es) env)) _ _ _
    refine wpAny_bind (wpAny_mono (hs.1 _ _ _ _ _ _ _ _ w i) (fun v s1 ⟨z, h1, rv, st, w1⟩ => ?_) fun _ _ e => e)
    have i1 := i.step st
    try dsimp only at w1
    split at w1
    · rename_i b hb
      refine wpAny_bind (wpAny_standAt (wpAny_bind (wpAny_holding (wpAny_mono (truth_ok (K := fun b' h' => b' = b ∧ h' = h1) st.rel rv (by rw [hb]; exact ⟨rfl, rfl⟩)) (fun b' s2 ⟨h2, st2, e1, e2⟩ => ?_) fun _ _ e => e))))
      subst e1 e2
      have ih := boolOp_ok (pos := pos) (op := op) (es := y :: xs) (vs := e' :: es) hs.2 c R fr Q h2 env A s2
      have rv2 := rv.mono (st2.vk st.rel)
      cases op <;> cases b' <;> simp at w1
      · exact wpAny_pure ⟨z, h2, rv2, st.trans st2, w1⟩
      · exact wpAny_mono (ih w1 (i1.step st2)) (fun _ _ q => q.back (st.trans st2)) fun _ _ e => e.back (st.trans st2)
      · exact wpAny_mono (ih w1 (i1.step st2)) (fun _ _ q => q.back (st.trans st2)) fun _ _ e => e.back (st.trans st2)
      · exact wpAny_pure ⟨z, h2, rv2, st.trans st2, w1⟩
    · exact w1.elim
  | [], _ :: _, hs, _, _, _, _, _, _, _, _, _, _ => hs.elim
  | _ :: _, [], hs, _, _, _, _, _, _, _, _, _, _ => hs.elim
  | [_], _ :: _ :: _, hs, _, _, _, _, _, _, _, _, _, _ => hs.2.elim
  | _ :: _ :: _, [_], hs, _, _, _, _, _, _, _, _, _, _ => hs.2.elim
theorem se_bop {op : BoolOp} {es : List Ex} {vs : List PySem.Expr} {pos : Pos} (hs : SEs X sc σ es vs) : SE X sc σ (.bop op es) (.BoolOp op vs pos) := by
  intro c R fr Q h env A s w i
  dsimp only [wpE] at w
  exact boolOp_ok hs _ _ _ _ _ _ _ _ w i

noncomputable def STs (X : Ctx) (sc : Scope) (σ : Slots) : List Ex → List PySem.Expr → Prop
  | [], [] => True
  | x :: xs, e :: es => ST X sc σ x e ∧ STs X sc σ xs es
  | _, _ => False
theorem allTrue_ok {op : BoolOp} : ∀ {es : List Ex} {vs : List PySem.Expr}, STs X sc σ es vs → ∀ c R fr K h env A s, wpTs X c R op es fr K h → In X c sc σ env fr A h s →
    wpAny X.M A (allTrue op vs env) (BoolPost X h s K) (ExcPost X A h s R) s
  | [], [], _, c, R, fr, K, h, env, A, s, w, i => by unfold wpTs at w; rw [arm_allTrue_nil]; exact wpAny_pure (.pure i.r w)
  | x :: xs, e :: es, hs, c, R, fr, K, h, env, A, s, w, i => by
    unfold wpTs at w
    rw [arm_allTrue_cons]
    refine wpAny_bind (wpAny_mono (hs.1 _ _ _ _ _ _ _ _ w i) (fun b s1 ⟨h1, st, w1⟩ => ?_) fun _ _ e => e)
    have i1 := i.step st
    have ih := allTrue_ok (op := op) hs.2 c R fr K h1 env A s1
    cases op <;> cases b <;> simp at w1
    · exact wpAny_pure ⟨h1, st, w1⟩
    · exact wpAny_mono (ih w1 i1) (fun _ _ q => q.back st) fun _ _ e => e.back st
    · exact wpAny_mono (ih w1 i1) (fun _ _ q => q.back st) fun _ _ e => e.back st
    · exact wpAny_pure ⟨h1, st, w1⟩
  | [], _ :: _, hs, _, _, _, _, _, _, _, _, _, _ => hs.elim
  | _ :: _, [], hs, _, _, _, _, _, _, _, _, _, _ => hs.elim
theorem st_bop {op : BoolOp} {es : List Ex} {vs : List PySem.Expr} {pos : Pos} (hs : STs X sc σ es vs) : ST X sc σ (.bop op es) (.BoolOp op vs pos) := by
  intro c R fr K h env A s w i
  unfold wpT at w
  rw [arm_isTrue_BoolOp]
  exact allTrue_ok hs _ _ _ _ _ _ _ _ w i

/-! built-in calls by name -/
theorem size_none {hp : Heap} {n : Nat} (h : hp.objs.size ≤ n) : hp.get? n = none := by
  cases e : hp.get? n with
  | none => rfl
  | some o => exact absurd (Heap.lt_size e) (Nat.not_lt.mpr h)

theorem intsV_eq : ∀ {l : List V} {ns : List Int}, intsV l = some ns → l = ns.map .int
  | [], ns, e => by simp [intsV] at e; subst e; rfl
  | .int i :: r, ns, e => by
    simp only [intsV] at e
    cases h : intsV r with
    | none => rw [h] at e; simp at e
    | some ms => rw [h] at e; simp at e; subst e; rw [intsV_eq h]; rfl
  | .none :: _, _, e => by simp [intsV] at e
  | .bool _ :: _, _, e => by simp [intsV] at e
  | .str _ :: _, _, e => by simp [intsV] at e
  | .ref _ :: _, _, e => by simp [intsV] at e
  | .tup _ :: _, _, e => by simp [intsV] at e
  | .exc _ :: _, _, e => by simp [intsV] at e
theorem RepVs.ints {hp : Heap} : ∀ {ns : List Int} {vs : List Value}, RepVs hp (ns.map .int) vs → IntsAre vs ns
  | [], _, e => by cases e; exact .nil
  | n :: ns, _, ⟨v, r, e, r1, r2⟩ => by subst e; simp only [RepV] at r1; obtain ⟨t, rfl⟩ := r1; exact .cons n t r2.ints
theorem ints_rep {h : Heap} : ∀ {vs : List Value} {ns : List Int}, IntsAre vs ns → RepVs h (ns.map .int) vs
  | _, [], e => by cases e; rfl
  | _, n :: ns, e => by
    cases e
    exact ⟨_, _, rfl, rep_int, ints_rep (by assumption)⟩
theorem insI_perm (x : Int) : ∀ l, (insI x l).Perm (x :: l)
  | [] => .refl _
  | y :: ys => by
    unfold insI
    split
    · exact .refl _
    · exact ((insI_perm x ys).cons y).trans (.swap x y ys)
theorem sortI_perm : ∀ l, (sortI l).Perm l
  | [] => .refl _
  | x :: xs => (insI_perm x _).trans ((sortI_perm xs).cons x)
theorem insI_sorted (x : Int) : ∀ l : List Int, l.Pairwise (· ≤ ·) → (insI x l).Pairwise (· ≤ ·)
  | [], _ => by simp [insI]
  | y :: ys, h => by
    have h' := List.pairwise_cons.mp h
    unfold insI
    split
    · rename_i q
      refine List.pairwise_cons.mpr ⟨fun a ha => ?_, h⟩
      cases ha with
      | head => exact q
      | tail _ m => exact Int.le_trans q (h'.1 a m)
    · rename_i q
      refine List.pairwise_cons.mpr ⟨fun a ha => ?_, insI_sorted x ys h'.2⟩
      have := (insI_perm x ys).mem_iff.mp ha
      cases this with
      | head => omega
      | tail _ m => exact h'.1 a m
theorem sortI_sorted : ∀ l, (sortI l).Pairwise (· ≤ ·)
  | [] => .nil
  | x :: xs => insI_sorted x _ (sortI_sorted xs)

theorem bi_ok {b : Bi} {xs : List V} {vs : List Value} {h : AH} {s : Shared} {A : Around} {E : Value → Shared → Prop} {Q : V → AH → Prop} (G : X.Good) (hh : A.handled = none) (r : Rel X h s.heap) (rv : RepVs s.heap xs vs) (w : biP b xs h Q) :
    wpAny X.M A (call (biVal b) vs) (ValPost X h s Q) E s := by
  cases b <;> first | exact False.elim w | skip
  · replace w := one_inv w; obtain ⟨x, rfl, w⟩ := w
    obtain ⟨v, _, rfl, r1, r2⟩ := rv; cases r2
    split at w
    · rename_i n hn; exact call_len_ok r r1 hn w
    · exact w.elim
  · replace w := one_inv w; obtain ⟨x, rfl, w⟩ := w
    obtain ⟨v, _, rfl, r1, r2⟩ := rv; cases r2
    split at w
    · rename_i n hn; exact call_list_ok hh r r1 hn w
    · exact w.elim
  · replace w := one_inv w; obtain ⟨x, rfl, w⟩ := w
    replace w := ref_inv w; obtain ⟨a, rfl, w⟩ := w
    obtain ⟨v, _, rfl, r1, r2⟩ := rv; cases r2
    simp only [RepV] at r1; subst r1
    split at w
    · rename_i d ep ha
      obtain ⟨us, hd, ra, z, ns⟩ := r.rep _ _ ha
      have l1 := ra.length
      simp only [List.length_map] at l1
      have l2 : ((d.map (·.1)).zip us).length = d.length := by simp [l1]
      refine kt_call_dict (knd := intKind X.prog X.w) (ne_sys ns) hd.dictOf (by rw [l2]; exact big_size z) fun h' hd' hs' => ?_
      have hn : s.heap.get? s.heap.objs.size = none := size_none (Nat.le_refl _)
      have kk : ∀ b o, s.heap.get? b = some o → h'.get? b = some o := fun b o e => hs'.extBut b o (Nat.ne_of_lt (Heap.lt_size e)) (Heap.get?_push_of_some _ e)
      obtain ⟨e', hd''⟩ := hd'.dictAt
      exact ⟨_, _, rep_ref, Step.new r kk ⟨rfl, rfl, rfl⟩ hn (o := .idict d e') ⟨us, hd'', ra.mono (.of_keeps kk), z, r.ne_sys G (Nat.le_refl _)⟩, w e' _ (r.none_of_new hn)⟩
    · exact w.elim
  · replace w := one_inv w; obtain ⟨x, rfl, w⟩ := w
    replace w := ref_inv w; obtain ⟨a, rfl, w⟩ := w
    obtain ⟨v, _, rfl, r1, r2⟩ := rv; cases r2
    simp only [RepV] at r1; subst r1
    split at w
    · rename_i l ha
      split at w
      · rename_i ns hns
        obtain ⟨h128, w⟩ := w
        obtain ⟨n, items, ha', ra, z⟩ := r.rep _ _ ha
        have el := intsV_eq hns
        subst el
        refine So.sorted_of (ns := ns) h128 (fun R hR => collect_list (isList_of ha') (hR _ _ s.toks ra.ints fun b o e => ?_) (by rw [ra.length]; exact big_size z)) fun D out e ns' h' tk a1 a2 a3 hn kk he => ?_
        · rw [Heap.get?_update_ne _ _ _ _ (Nat.ne_of_lt (Heap.lt_size e))]; exact Heap.get?_push_of_some _ e
        have en : ns' = sortI ns := (a2.trans (sortI_perm ns).symm).eq_of_pairwise (fun a b _ _ p q => Int.le_antisymm p q) a3 (sortI_sorted ns)
        subst en
        have el2 : (sortI ns).length = ns.length := (sortI_perm ns).length_eq
        exact ⟨_, _, rep_ref, Step.new r kk ⟨rfl, rfl, rfl⟩ hn (o := .list ((sortI ns).map .int)) ⟨e, out.toList, by simpa [seqObj] using he, ints_rep a1, by simpa [el2] using z⟩, w _ (r.none_of_new hn)⟩
      · exact w.elim
    · rename_i d ep ha
      obtain ⟨h128, w⟩ := w
      obtain ⟨us, hd, ra, z, ns⟩ := r.rep _ _ ha
      have l1 := ra.length
      simp only [List.length_map] at l1
      have l2 : ((d.map (·.1)).zip us).length = d.length := by simp [l1]
      refine So.sorted_of (ns := d.map (·.1)) (by simpa using h128) (fun R hR => PySem.W.kdu_collect (PySem.W.kdl_dict (knd := intKind X.prog X.w) (ne_sys ns)) hh hd (by rw [l2]; exact big_size z) fun h' tk acc kk hacc => hR _ h' tk ?_ kk) fun D out e ns' h' tk a1 a2 a3 hn kk he => ?_
      · refine RepVs.ints (hp := s.heap) (RepVs.of ?_ fun i x v a b => ?_)
        · simp [hacc.1, l1]
        · obtain ⟨k, y, e1, e2⟩ := hacc.2 i v (by simpa using b)
          obtain ⟨t, rfl⟩ := intKind_inv e2
          rw [List.getElem?_map, List.getElem?_map] at a
          cases hdi : d[i]? with
          | none => rw [hdi] at a; simp at a
          | some kv =>
            rw [hdi] at a; simp at a; subst a
            have := List.getElem?_zip_eq_some.mp e1
            simp [hdi] at this
            rw [this.1]; exact rep_int
      have en : ns' = sortI (d.map (·.1)) := (a2.trans (sortI_perm _).symm).eq_of_pairwise (fun a b _ _ p q => Int.le_antisymm p q) a3 (sortI_sorted _)
      subst en
      have el2 : (sortI (d.map (·.1))).length = d.length := by rw [(sortI_perm _).length_eq, List.length_map]
      exact ⟨_, _, rep_ref, Step.new r kk ⟨rfl, rfl, rfl⟩ hn (o := .list ((sortI (d.map (·.1))).map .int)) ⟨e, out.toList, by simpa [seqObj] using he, ints_rep a1, by simpa [el2] using z⟩, w _ (r.none_of_new hn)⟩
    · exact w.elim
  · replace w := one_inv w; obtain ⟨x, rfl, w⟩ := w
    obtain ⟨v, _, rfl, r1, r2⟩ := rv; cases r2
    cases x <;> first | exact False.elim w | skip
    · simp only [RepV] at r1; subst r1
      exact call_int_bool (.toks r rep_int w)

theorem callWith_bi {b : Bi} {pos : Pos} {args : List (Bool × Sem Value)} {A : Around} {E : Value → Shared → Prop} {s : Shared} {Q : Value → Shared → Prop} (hp : args.any (·.1) = false)
    (h : wpAny X.M A (evalArgs (biVal b) true args []) (fun a s₁ => wpAny X.M A (call (biVal b) a.pos a.kw) Q E s₁) E s) : wpAny X.M A (callWith pos (biVal b) [] args []) Q E s := by
  have hb : ∀ id, wpAny X.M A (evalArgs (.builtin id) true args []) (fun a s₁ => wpAny X.M A (call (.builtin id) a.pos a.kw) Q E s₁) E s → wpAny X.M A (callWith pos (.builtin id) [] args []) Q E s :=
    fun id h => callWith_builtin hp (wpAny_mono h (fun a s1 q => by simpa using q) fun _ _ e => e)
  have ht : ∀ T, wpAny X.M A (evalArgs (.type T) true args []) (fun a s₁ => wpAny X.M A (call (.type T) a.pos a.kw) Q E s₁) E s → wpAny X.M A (callWith pos (.type T) [] args []) Q E s :=
    fun T h => PySem.callWith_type hp (wpAny_mono h (fun a s1 q => by simpa using q) fun _ _ e => e)
  cases b
  · exact hb _ h
  · exact ht _ h
  · exact ht _ h
  · exact ht _ h
  · exact hb _ h
  · exact hb _ h
  · exact hb _ h
  · exact ht _ h
  · exact hb _ h
  · exact hb _ h
  · exact ht _ h

theorem se_bi (G : X.Good) {b : Bi} {es : List Ex} {args : List PySem.Expr} {p pos : Pos} (hs : SEs X sc σ es args) (hp : ∀ e ∈ args, plainE e = true) (hg : isGlob sc (biName b) = true) :
    SE X sc σ (.bi b es) (.Call (.Name (biName b) p) args [] pos) := by
  intro c R fr Q h env A s w i
  dsimp only [wpE] at w
  show wpAny _ _ (eval (.Name (biName b) p) env >>= fun v => callWith pos v [] (backTo pos (starEach args env)) []) _ _ _
  have key := spliced_ok hs hp (p := pos) _ _ _ _ _ _ _ _ w i
  refine wpAny_bind (load_builtin G i hg (by cases b <;> decide) (G.bi b) ?_)
  refine callWith_bi (star_any hp) (wpAny_mono (evalArgs_ok (star_any hp) key) (fun a s1 ⟨hk, xs, h1, rv, st, hh, w1⟩ => ?_) fun _ _ e => e)
  rw [hk]
  exact wpAny_mono (bi_ok G (i.a.handled hh) st.rel rv w1) (fun _ _ q => q.back st) fun _ _ e => e

/-! isinstance -/
/-- the answer of isinstance for a thing and a type -/
noncomputable def IsiAt (X : Ctx) (s : Shared) (v : Value) (T : String) (b : Bool) : Prop := ∀ (A : Around) (E Q : Value → Shared → Prop), Q (.bool b) s → (∀ n, Q (.bool b) { s with toks := n }) → wpAny X.M A (call (.builtin "isinstance") [v, .type T]) Q E s
section
variable {t : Ty} {T : String} {b : Bool} {s : Shared}
noncomputable def isK (k : Nat) (t : Ty) : Option Bool := match tyN t with
  | some n => some (k == n || (k == 1 && n == 2))
  | none => none
theorem isi_none (ht : tyStr t = some T) (e : isK 0 t = some b) : IsiAt X s .none T b := by
  cases t <;> cases ht <;> cases e <;>
    exact fun A E Q q qt => call_isinstance (isinstance_false_none (by decide) (by kernel_rfl) (by rw [isSubtype_type]; kernel_rfl)) (qt _)
theorem isi_bool {z : Bool} (ht : tyStr t = some T) (e : isK 1 t = some b) : IsiAt X s (.bool z) T b := by
  cases t <;> cases ht <;> cases e <;> first
    | exact fun A E Q q qt => call_isinstance (isinstance_true (Tx := "bool") (by kernel_rfl) (by rw [isSubtype_type]; kernel_rfl)) ⟨rfl, q⟩
    | exact fun A E Q q qt => call_isinstance (isinstance_false_bool (by decide) (by kernel_rfl) (by rw [isSubtype_type]; kernel_rfl)) (qt _)
theorem isi_int {z : Int} {tk : Tok} (ht : tyStr t = some T) (e : isK 2 t = some b) : IsiAt X s (.int z tk) T b := by
  cases t <;> cases ht <;> cases e <;> first
    | exact fun A E Q q qt => call_isinstance (isinstance_true (Tx := "int") (by kernel_rfl) (by rw [isSubtype_type]; kernel_rfl)) ⟨rfl, q⟩
    | exact fun A E Q q qt => call_isinstance (isinstance_false_int (by decide) (by kernel_rfl) (by rw [isSubtype_type]; kernel_rfl)) (qt _)
theorem isi_str {z : Str} {tk : Tok} (ht : tyStr t = some T) (e : isK 3 t = some b) : IsiAt X s (.str z tk) T b := by
  cases t <;> cases ht <;> cases e <;> first
    | exact fun A E Q q qt => call_isinstance (isinstance_true (Tx := "str") (by kernel_rfl) (by rw [isSubtype_type]; kernel_rfl)) ⟨rfl, q⟩
    | exact fun A E Q q qt => call_isinstance (isinstance_false_str (by decide) (by kernel_rfl) (by rw [isSubtype_type]; kernel_rfl)) (qt _)
theorem isi_tup {a : Addr} (ha : s.TypeIs (.ref a) "tuple") (ht : tyStr t = some T) (e : isK 6 t = some b) : IsiAt X s (.ref a) T b := by
  cases t <;> cases ht <;> cases e <;> first
    | exact fun A E Q q qt => call_isinstance (isinstance_true (Tx := "tuple") (by kernel_rfl) (by rw [isSubtype_type]; kernel_rfl)) ⟨ha, q⟩
    | exact fun A E Q q qt => call_isinstance (isinstance_false_tuple (by decide) (by kernel_rfl) (by rw [isSubtype_type]; kernel_rfl)) ⟨ha, qt _⟩
theorem isi_list {a : Addr} (ha : s.TypeIs (.ref a) "list") (ht : tyStr t = some T) (e : isK 4 t = some b) : IsiAt X s (.ref a) T b := by
  cases t <;> cases ht <;> cases e <;> first
    | exact fun A E Q q qt => call_isinstance (isinstance_true (Tx := "list") (by kernel_rfl) (by rw [isSubtype_type]; kernel_rfl)) ⟨ha, q⟩
    | exact fun A E Q q qt => call_isinstance (isinstance_false_list (by decide) (by kernel_rfl) (by rw [isSubtype_type]; kernel_rfl)) ⟨ha, qt _⟩
theorem isi_dict {a : Addr} (ha : s.TypeIs (.ref a) "dict") (ht : tyStr t = some T) (e : isK 5 t = some b) : IsiAt X s (.ref a) T b := by
  cases t <;> cases ht <;> cases e <;> first
    | exact fun A E Q q qt => call_isinstance (isinstance_true (Tx := "dict") (by kernel_rfl) (by rw [isSubtype_type]; kernel_rfl)) ⟨ha, q⟩
    | exact fun A E Q q qt => call_isinstance (isinstance_false_dict (by decide) (by kernel_rfl) (by rw [isSubtype_type]; kernel_rfl)) ⟨ha, qt _⟩
end
theorem isiV_eq {h : AH} {x : V} {t : Ty} : isiV X h x t = (match kindV h x with | some k => isK k t | none => none) := by
  unfold isiV isK
  cases kindV h x <;> cases tyN t <;> rfl
theorem isi_ok {x : V} {v : Value} {t : Ty} {T : String} {b : Bool} {h : AH} {s : Shared} {A : Around} {E : Value → Shared → Prop} {Q : V → AH → Prop} (r : Rel X h s.heap) (rx : RepV s.heap x v) (ht : tyStr t = some T) (e : isiV X h x t = some b) (q : Q (.bool b) h) :
    wpAny X.M A (call (.builtin "isinstance") [v, .type T]) (ValPost X h s Q) E s := by
  rw [isiV_eq] at e
  suffices key : IsiAt X s v T b from key A E _ (ValPost.pure (s := s) r (rep_bool (h := s.heap)) q) fun n => ValPost.toks r rep_bool q
  cases x with
  | none => simp only [RepV] at rx; subst rx; exact isi_none ht e
  | bool z => simp only [RepV] at rx; subst rx; exact isi_bool ht e
  | int z => simp only [RepV] at rx; obtain ⟨tk, rfl⟩ := rx; exact isi_int ht e
  | str z => simp only [RepV] at rx; obtain ⟨tk, rfl⟩ := rx; exact isi_str ht e
  | tup z =>
    rw [RepV] at rx
    obtain ⟨a, n, items, rfl, ha, _⟩ := rx
    exact isi_tup ⟨_, ha, rfl⟩ ht e
  | exc C => cases e
  | ref a =>
    simp only [RepV] at rx; subst rx
    have e : (match kindO (h a) with | some k => isK k t | none => none) = some b := e
    cases ha : h a with
    | none => rw [ha] at e; cases e
    | some o =>
      rw [ha] at e
      cases o with
      | list vs => obtain ⟨n, items, ha', _⟩ := r.rep _ _ ha; exact isi_list ⟨_, ha', rfl⟩ ht e
      | idict vs ep =>
        obtain ⟨us, ⟨ob, es, ho, hx, _⟩, _⟩ := r.rep _ _ ha
        exact isi_dict ⟨_, ho, hx.1⟩ ht e
      | flist vs => cases e
      | sdict vs => cases e
      | inst C d => cases e
end
end Mine

namespace Mine
open PySem PyProof.Rows PySem.Calls PySem.SeqAt

theorem attributeBase_plain {o : PySem.Expr} {a : Str} {env : Env} {whole : Sem Value} (h : plainO o = true) : attributeBase o a env whole = whole := by
  cases o
  case Call g args kw p =>
    cases g <;> try rfl
    rename_i id p'
    cases args <;> try rfl
    cases kw <;> try rfl
    have h : (!(id == ("super" : Str))) = true := h
    have : (id != ("super" : Str)) = true := h
    show (if _ then _ else _) = _
    simp [this]
  all_goals rfl

section
variable {X : Ctx} {sc : Scope} {σ : Slots}

theorem evalEach_two {a b : PySem.Expr} {env : Env} {p : Pos} (ha : plainE a = true) (hb : plainE b = true) : backTo p (starEach [a, b] env) = [(false, eval a env), (false, eval b env)] := by
  rw [starEach_cons ha, starEach_cons hb]; rfl

theorem ckTy_name {t : Ty} {e : PySem.Expr} (h : ckTy sc t e = true) : ∃ n p, e = .Name n p ∧ isGlob sc n = true ∧ (∀ T, tyStr t = some T → n = Str.ofString T) ∧ (∀ C, t = .own C ∨ t = .exn C → n = C) := by
  have h := (Bool.and_eq_true _ _).mp h
  have h1 := (Bool.and_eq_true _ _).mp h.1
  obtain ⟨n, p, rfl⟩ := vw2 (beq_iff_eq.mp h1.1)
  have e : n = tyName t := beq_iff_eq.mp h1.2
  refine ⟨n, p, rfl, h.2, fun T hT => ?_, fun C hC => ?_⟩
  · rw [e]; cases t <;> cases hT <;> rfl
  · rw [e]; rcases hC with rfl | rfl <;> rfl

/-- isinstance of a value against a built-in class -/
theorem se_isi (G : X.Good) {a : Ex} {x e : PySem.Expr} {t : Ty} {p pos : Pos} (ha : SE X sc σ a x) (hp : plainE x = true) (hg : isGlob sc ("isinstance" : Str) = true) (ht : ckTy sc t e = true) :
    SE X sc σ (.isi a [t]) (.Call (.Name "isinstance" p) [x, e] [] pos) := by
  intro c R fr Q h env A s w i
  dsimp only [wpE] at w
  obtain ⟨n, np, rfl, hgn, hn, hown⟩ := ckTy_name ht
  show wpAny _ _ (eval (.Name "isinstance" p) env >>= fun v => callWith pos v [] (backTo pos (starEach [x, .Name n np] env)) []) _ _ _
  refine wpAny_bind (load_builtin G i hg (by decide) G.isi ?_)
  rw [evalEach_two hp rfl]
  refine callWith_builtin rfl (evalArgs_plain (spliced_cons (wpAny_mono (ha _ _ _ _ _ _ _ _ w i) (fun v s1 ⟨z, h1, rv, st, w1⟩ => ?_) fun _ _ e => e)))
  have i1 := i.step st
  try dsimp only at w1
  split at w1
  · rename_i b hb
    cases hT : tyStr t with
    | some T =>
      have hn' := hn T hT
      subst hn'
      have hty := G.ty T (by cases t <;> simp [tyStr] at hT <;> subst hT <;> simp)
      refine spliced_cons (load_builtin G i1 hgn (by cases t <;> simp [tyStr] at hT <;> subst hT <;> decide) hty (spliced_nil ?_))
      simp only [List.nil_append]
      exact wpAny_mono (isi_ok st.rel rv hT hb w1) (fun _ _ q => q.back st) fun _ _ e => e
    | none =>
      have : tyN t = none := by cases t <;> first | (cases hT; done) | rfl
      unfold isiV at hb
      rw [this] at hb
      split at hb
      · rename_i h2; cases h2
      · cases hb
  · exact w1.elim

/-! methods of lists and dicts -/
noncomputable def bmT : Bm → String
  | .get | .setdefault => "dict"
  | .split | .join => "str"
  | _ => "list"
noncomputable def bmId : Bm → String
  | .append => "list.append" | .insert => "list.insert" | .pop => "list.pop" | .index => "list.index" | .get => "dict.get" | .setdefault => "dict.setdefault" | .split => "str.split" | .join => "str.join"

theorem last_eq {α : Type} {l : List α} {y : α} (h : l.getLast? = some y) : l = l.dropLast ++ [y] := by
  obtain ⟨p, rfl⟩ := List.getLast?_eq_some_iff.mp h
  simp

theorem bm_ok {m : Bm} {x : V} {v : Value} {xs : List V} {vs : List Value} {h : AH} {s : Shared} {A : Around} {E : Value → Shared → Prop} {Q : V → AH → Prop} (hu : A.units + 20 < cLine) (r : Rel X h s.heap) (rx : RepV s.heap x v) (rv : RepVs s.heap xs vs) (w : bmP m x xs h Q) :
    wpAny X.M A (call (.builtin (bmId m)) (v :: vs)) (ValPost X h s Q) E s := by
  cases m <;> first | exact False.elim w | skip
  · replace w := ref_inv w; obtain ⟨a, rfl, w⟩ := w
    replace w := one_inv w; obtain ⟨y, rfl, w⟩ := w
    simp only [RepV] at rx; subst rx
    obtain ⟨u, _, rfl, r1, r2⟩ := rv; cases r2
    split at w
    · rename_i l ha
      obtain ⟨n, items, ha', ra, z⟩ := r.rep _ _ ha
      refine wpAny_list_append_plain (items := items.toArray) ⟨n, ha'⟩ (fun h' hl' hs' => ?_) (by rw [List.size_toArray, ra.length]; exact big_size z)
      have kk := sameBut_keeps hs'
      obtain ⟨n', hg⟩ := hl'
      exact ⟨_, _, rep_none, Step.upd r ha (by simp) kk ⟨rfl, rfl, rfl⟩ (o' := .list (l ++ [_])) ⟨n', items ++ [u], by simpa using hg, (ra.append (.cons r1 .nil)).mono (vk_of_upd r ha kk), by have := w.1; unfold small at this; unfold big; simp; omega⟩, w.2⟩
    · exact w.elim
  · replace w := ref_inv w; obtain ⟨a, rfl, w⟩ := w
    replace w := nil_inv w; obtain ⟨rfl, w⟩ := w
    simp only [RepV] at rx; subst rx
    cases rv
    split at w
    · rename_i l ha
      split at w
      · rename_i y hy
        obtain ⟨n, items, ha', ra, z⟩ := r.rep _ _ ha
        have el : l = l.dropLast ++ [y] := last_eq hy
        have hl : l.length = l.dropLast.length + 1 := by rw [el]; simp
        have e1 : l[l.length - 1]? = some y := by rw [← List.getLast?_eq_getElem?]; exact hy
        obtain ⟨u, hu, ru⟩ := ra.get e1
        have lz := ra.length
        refine call_meets PySem.F.slot_list_pop ⟨_, ha', rfl⟩ PySem.F.entry_list_pop (PySem.F.args_list_pop_1 _) (PySem.MeetsSeq.list_pop_last _ _ n u (by rw [List.size_toArray, lz]; simpa using hu) (by rw [List.size_toArray, lz]; exact big_size z)) ⟨ha', ?_⟩
        have kk := sameBut_keeps (Heap.SameBut.update s.heap a (Obj.mapSeq fun xs => xs.eraseIdxIfInBounds (items.toArray.size - 1)))
        have hg := PySem.IsL.update ha' (fun xs => xs.eraseIdxIfInBounds (items.toArray.size - 1))
        have ei : items.toArray.eraseIdxIfInBounds (items.toArray.size - 1) = (items.dropLast).toArray := by
          have h2 : items.toArray.size - 1 = items.dropLast.length := by simp
          rw [h2]
          have := PySem.W.kl_erase items.dropLast [] u
          rw [List.append_nil, ← last_eq (by rw [List.getLast?_eq_getElem?, lz]; exact hu)] at this
          exact this
        rw [ei] at hg
        refine ⟨_, _, ?_, Step.upd r ha (by simp) kk ⟨rfl, rfl, rfl⟩ (o' := .list l.dropLast) ⟨_, _, hg, ?_, by omega⟩, w⟩
        · exact ru.mono (vk_of_upd r ha kk)
        · have := ra.take (l.length - 1)
          rw [← List.dropLast_eq_take, ← lz, ← List.dropLast_eq_take] at this
          exact this.mono (vk_of_upd r ha kk)
      · exact w.elim
    · exact w.elim
  · replace w := ref_inv w; obtain ⟨a, rfl, w⟩ := w
    replace w := two_inv w; obtain ⟨y, dv, rfl, w⟩ := w
    replace w := int_inv w; obtain ⟨k, rfl, w⟩ := w
    simp only [RepV] at rx; subst rx
    obtain ⟨u, _, rfl, r1, r2⟩ := rv
    obtain ⟨u2, _, rfl, r3, r4⟩ := r2; cases r4
    simp only [RepV] at r1; obtain ⟨t, rfl⟩ := r1
    split at w
    · rename_i l ep ha
      obtain ⟨us, hd, ra, z, ns⟩ := r.rep _ _ ha
      obtain ⟨i1, i2⟩ := valueAt_dget (k := k) ra
      refine call_meetsIn PySem.F.slot_dict_get hd.dictOf.typeIs PySem.F.entry_dict_get (PySem.F.args_dict_get_3 _ _ _) (meets_dict_get_default (intKind X.prog X.w) _ (intKind_is X.prog X.w k t) (ne_sys ns) u2) ⟨_, hd.dictOf.mapOf, ?_⟩
      cases hg : dget l k with
      | none => rw [i2 hg]; rw [hg] at w; exact .toks r r3 w
      | some y =>
        obtain ⟨q, e, rq⟩ := i1 y hg
        rw [e]; rw [hg] at w; exact .toks r rq w
    · exact w.elim
  · replace w := ref_inv w; obtain ⟨a, rfl, w⟩ := w
    replace w := two_inv w; obtain ⟨y, dv, rfl, w⟩ := w
    replace w := int_inv w; obtain ⟨k, rfl, w⟩ := w
    simp only [RepV] at rx; subst rx
    obtain ⟨u, _, rfl, r1, r2⟩ := rv
    obtain ⟨u2, _, rfl, r3, r4⟩ := r2; cases r4
    simp only [RepV] at r1; obtain ⟨t, rfl⟩ := r1
    split at w
    · rename_i l ep ha
      obtain ⟨us, hd, ra, z, ns⟩ := r.rep _ _ ha
      have l1 := ra.length
      simp only [List.length_map] at l1
      have l2 : ((l.map (·.1)).zip us).length = l.length := by simp [l1]
      obtain ⟨i1, i2⟩ := valueAt_dget (k := k) ra
      refine call_meetsIn PySem.F.slot_dict_setdefault hd.dictOf.typeIs PySem.F.entry_dict_setdefault (PySem.F.args_dict_setdefault_3 _ _ _) (kt_meets_setdefault (intKind X.prog X.w) _ (intKind_is X.prog X.w k t) (ne_sys ns) u2)
        ⟨_, hd.dictOf, by rw [l2]; exact big_size z, fun v hv => ?_, fun hv h' hd' hs' => ?_⟩
      · cases hg : dget l k with
        | none => rw [i2 hg] at hv; cases hv
        | some y =>
          obtain ⟨q, e, rq⟩ := i1 y hg
          rw [e] at hv; cases hv
          rw [hg] at w; exact .toks r rq w
      · cases hg : dget l k with
        | some y => obtain ⟨q, e, rq⟩ := i1 y hg; rw [e] at hv; cases hv
        | none =>
          rw [hg] at w
          obtain ⟨w1, w⟩ := w
          have kk := sameBut_keeps hs'
          obtain ⟨us', e1, e2⟩ := stored_rep (k := k) ra r3
          rw [e1] at hd'
          obtain ⟨e', hd''⟩ := hd'.dictAt
          have ep : dput l k dv = l ++ [(k, dv)] := by
            unfold dput
            rw [if_neg]
            intro hany
            obtain ⟨kv, hm, hk⟩ := List.any_eq_true.mp hany
            unfold dget at hg
            rw [Option.map_eq_none_iff, List.find?_eq_none] at hg
            exact hg kv hm hk
          rw [ep] at hd'' e2
          exact ⟨_, _, r3.mono (vk_of_upd r ha kk), Step.upd r ha (by simp) kk ⟨rfl, rfl, rfl⟩ (o' := .idict (l ++ [(k, dv)]) e') ⟨us', hd'', e2.mono (vk_of_upd r ha kk), by unfold small at w1; unfold big; simp; omega, ns⟩, w e'⟩
    · exact w.elim

theorem bmKind_type {m : Bm} {x : V} {v : Value} {h : AH} {s : Shared} (r : Rel X h s.heap) (rx : RepV s.heap x v) (k : bmKind m x h) : s.TypeIs v (bmT m) ∧ (∀ a, v = .ref a → ∃ ob, s.heap.get? a = some ob ∧ ob.dict = none) := by
  unfold bmKind at k
  split at k
  · simp only [RepV] at rx; subst rx
    split at k
    all_goals first
      | (split at k
         · rename_i ha
           first
            | (obtain ⟨n, items, ha', _⟩ := r.rep _ _ ha
               exact ⟨⟨_, ha', rfl⟩, fun a e => by cases e; exact ⟨_, ha', rfl⟩⟩)
            | (obtain ⟨us, hd, _⟩ := r.rep _ _ ha
               obtain ⟨ob, es, ho, hx, _⟩ := id hd
               exact ⟨⟨_, ho, hx.1⟩, fun a e => by cases e; exact ⟨_, ho, hx.2.1⟩⟩)
         · exact k.elim)
      | exact k.elim
  · exact k.elim

theorem bm_slot {m : Bm} : PlainAttrs (bmT m) ∧ Slot (bmT m) (bmName m) (bmId m) ∧ typeOf (.builtin (bmId m)) = pure (.type "method_descriptor") := by
  cases m
  · exact ⟨PySem.F.plainAttrs_list, PySem.F.slot_list_append, PySem.F.type_list_append⟩
  · exact ⟨PySem.F.plainAttrs_list, PySem.F.slot_list_insert, PySem.F.type_list_insert⟩
  · exact ⟨PySem.F.plainAttrs_list, PySem.F.slot_list_pop, PySem.F.type_list_pop⟩
  · exact ⟨PySem.F.plainAttrs_list, PySem.F.slot_list_index, PySem.F.type_list_index⟩
  · exact ⟨PySem.F.plainAttrs_dict, PySem.F.slot_dict_get, PySem.F.type_dict_get⟩
  · exact ⟨PySem.F.plainAttrs_dict, PySem.F.slot_dict_setdefault, PySem.F.type_dict_setdefault⟩
  · exact ⟨PySem.F.plainAttrs_str, PySem.F.slot_str_split, PySem.F.type_str_split⟩
  · exact ⟨PySem.F.plainAttrs_str, PySem.F.slot_str_join, PySem.F.type_str_join⟩

theorem star_few {p : Pos} : ∀ {vs : List PySem.Expr} {env : Env}, (∀ e ∈ vs, plainE e = true) → (backTo p (starEach vs env)).all (fun x => !x.1) = true
  | [], env, _ => rfl
  | e :: es, env, hp => by rw [starEach_cons (hp e (.head _)), backTo_false]; simpa using star_few fun e he => hp e (.tail _ he)

theorem se_bm {m : Bm} {o : Ex} {es : List Ex} {v : PySem.Expr} {args : List PySem.Expr} {apos pos : Pos} (ho : SE X sc σ o v) (hs : SEs X sc σ es args) (hp : ∀ e ∈ args, plainE e = true) (hov : plainO v = true) (hline : (apos.endLine == pos.line) = true) (hlen : args.length < 29) :
    SE X sc σ (.bm m o es) (.Call (.Attribute v (bmName m) apos) args [] pos) := by
  intro c R fr Q h env A s w i
  dsimp only [wpE] at w
  refine wpAny_Call_method_late (attributeBase_plain hov) (by rw [star_few hp]; simp [backToKw, keywordEach]; omega) hline rfl (wpAny_mono (ho _ _ _ _ _ _ _ _ w i) (fun ov s1 ⟨x, h1, rv, st, hk, w1⟩ => ?_) fun _ _ e => e)
  have i1 := i.step st
  obtain ⟨ty, dd⟩ := bmKind_type st.rel rv hk
  obtain ⟨pa, sl, tt⟩ := bm_slot (m := m)
  refine ⟨bmT m, bmId m, pa, sl, tt, ty, dd, ?_⟩
  have key := spliced_ok hs hp (p := pos) _ _ _ _ _ _ _ _ w1 i1
  refine callWith_builtin (star_any hp) (wpAny_mono (evalArgs_ok (star_any hp) key) (fun a s2 ⟨hkw, xs, h2, rvs, st2, w2⟩ => ?_) fun _ _ e => e.back st)
  rw [hkw]
  show wpAny _ _ (call (.builtin (bmId m)) (ov :: a.pos)) _ _ _
  exact wpAny_mono (bm_ok i.a.u st2.rel (rv.mono (st2.vk i1.r)) rvs w2) (fun _ _ q => q.back (st.trans st2)) fun _ _ e => e
end
end Mine

namespace Mine
open PySem PyProof.Rows PySem.Calls PySem.SeqAt

noncomputable def Own (env : Env) (b : Addr) : Prop := b = env.locals ∨ ∃ n, env.cells.lookup n = some b
structure StepF (X : Ctx) (env : Env) (ah : AH) (s : Shared) (ah' : AH) (s' : Shared) : Prop where
  rel : Rel X ah' s'.heap
  kept : Kept (fun b => ah b ≠ none ∨ Own env b) s.heap s'.heap
  fresh : ∀ b o, s.heap.get? b = some o → ah b = none → ah' b = none
  there : ∀ b o, s.heap.get? b = some o → ∃ o', s'.heap.get? b = some o'
  rest : s'.gens = s.gens ∧ s'.drawn = s.drawn ∧ s'.os = s.os

section
variable {X : Ctx} {sc : Scope} {σ : Slots} {c : Cfg} {env : Env} {fr fr' : Fm} {A : Around} {ah ah' ah'' : AH} {s s' s'' : Shared}

theorem SRep.vk {h' : Heap} (r : Rel X ah s.heap) (x : SRep σ env fr ah s.heap) (k : Kept (fun b => ah b ≠ none ∨ Own env b) s.heap h') : VK s.heap h' := .exact fun b o e l => by
  have n1 : ah b = none := by
    cases hb : ah b with
    | none => rfl
    | some ob =>
      obtain ⟨o', e', nl⟩ := (r.rep b ob hb).there
      rw [e] at e'; cases e'; exact absurd l nl
  have n2 : ¬ Own env b := by
    rintro (q | ⟨n, q⟩)
    · obtain ⟨m, ⟨o', es, ep, e', d, _⟩, _⟩ := x.ns
      rw [q] at e; rw [e] at e'; cases e'; exact l.notDict _ _ d
    · obtain ⟨cm, hc, _⟩ := x.cs
      obtain ⟨o', e', d⟩ := hc n b q
      rw [e] at e'; cases e'; exact l.notCell _ d
  obtain ⟨o', e', so⟩ := k b o e (by rintro (q | q); exact q n1; exact n2 q)
  rw [← so.eq l.notDict]; exact e'
theorem StepF.vk (r : Rel X ah s.heap) (x : SRep σ env fr ah s.heap) (t : StepF X env ah s ah' s') : VK s.heap s'.heap := x.vk r t.kept
theorem StepF.refl (r : Rel X ah s.heap) : StepF X env ah s ah s := ⟨r, fun _ o e _ => ⟨o, e, .refl o⟩, fun _ _ _ q => q, fun _ o e => ⟨o, e⟩, rfl, rfl, rfl⟩
theorem StepF.trans (t : StepF X env ah s ah' s') (u : StepF X env ah' s' ah'' s'') : StepF X env ah s ah'' s'' :=
  ⟨u.rel, fun b o e n => by
      obtain ⟨o', e', so⟩ := t.kept b o e n
      have hn : ah b = none := Classical.byContradiction fun q => n (.inl q)
      have hown : ¬ Own env b := fun q => n (.inr q)
      obtain ⟨o'', e'', so'⟩ := u.kept b o' e' (by rintro (q | q); exact q (t.fresh b o e hn); exact hown q)
      exact ⟨o'', e'', so.trans so'⟩,
    fun b o e q => by obtain ⟨o', e'⟩ := t.there b o e; exact u.fresh b o' e' (t.fresh b o e q),
    fun b o e => by obtain ⟨o', e'⟩ := t.there b o e; exact u.there b o' e',
    u.rest.1.trans t.rest.1, u.rest.2.1.trans t.rest.2.1, u.rest.2.2.trans t.rest.2.2⟩
theorem Step.toF (t : Step X ah s ah' s') : StepF X env ah s ah' s' :=
  ⟨t.rel, fun b o e n => t.kept b o e fun q => n (.inl q), t.fresh, t.there, t.rest⟩

structure InS (X : Ctx) (c : Cfg) (sc : Scope) (σ : Slots) (env : Env) (fr : Fm) (A : Around) (ah : AH) (s : Shared) : Prop where
  a : OkA c A
  e : EnvOk sc env
  f : SRep σ env fr ah s.heap
  r : Rel X ah s.heap
  b : ∀ a, Own env a → X.base.get? a = none
  fs : Frs X A ah s.heap
  hf : env.frame = some env.locals
  ho : ∃ outer, A.frames = some (env :: outer)
theorem InS.inE (x : InS X c sc σ env fr A ah s) : In X c sc σ env fr A ah s := ⟨x.a, x.e, x.f.frep, x.r, x.fs⟩
theorem InS.step (x : InS X c sc σ env fr A ah s) (t : Step X ah s ah' s') : InS X c sc σ env fr A ah' s' := ⟨x.a, x.e, x.f.step x.r t, t.rel, x.b, x.fs.step t, x.hf, x.ho⟩
theorem Frs.stepF (fs : Frs X A ah s.heap) (g : SRep σ env fr ah s.heap) (t : StepF X env ah s ah' s') (f : SRep σ env fr' ah' s'.heap) : Frs X A ah' s'.heap := by
  obtain ⟨l, hl, fs⟩ := fs
  refine ⟨l, hl, fun e he => ?_⟩
  obtain ⟨k, L, o, a1, a2, a3, ⟨es, ep, a4⟩, a5⟩ := fs e he
  by_cases z : L = env.locals
  · subst z
    obtain ⟨m, ⟨o', es', ep', e', d', _⟩, _⟩ := f.ns
    exact ⟨k, env.locals, o', a1, a2, e', ⟨es', ep', d'⟩, f.uloc⟩
  · have no : ¬ Own env L := by
      rintro (q | ⟨n, q⟩)
      · exact z q
      · obtain ⟨cm, hc, _⟩ := g.cs
        obtain ⟨o', e', d⟩ := hc n L q
        rw [a3] at e'; cases e'; rw [a4] at d; cases d
    obtain ⟨o', e', so⟩ := t.kept L o a3 (by rintro (q | q); exact q a5; exact no q)
    exact ⟨k, L, o', a1, a2, e', ⟨es, ep, so.data.trans a4⟩, t.fresh L o a3 a5⟩
theorem InS.stepF (x : InS X c sc σ env fr A ah s) (t : StepF X env ah s ah' s') (f : SRep σ env fr' ah' s'.heap) : InS X c sc σ env fr' A ah' s' := ⟨x.a, x.e, f, t.rel, x.b, x.fs.stepF x.f t f, x.hf, x.ho⟩
theorem StepF.mod {h' : Heap} {F : List Addr} (t : StepF X env ah s ah' s') (r0 : Rel X ah s.heap) (m : Mod F (fun b => s.heap.get? b = none) s'.heap h') (fa : FrsAt X ah' s'.heap F) : StepF X env ah s ah' { s' with heap := h' } :=
  ⟨t.rel.mod r0 m fa, t.kept.mod m fa, t.fresh, fun b o e => by obtain ⟨o', e'⟩ := t.there b o e; obtain ⟨o2, e2, _⟩ := m b o' e'; exact ⟨o2, e2⟩, t.rest⟩

noncomputable def OutRep (h : Heap) : Out → Flow → Prop
  | .next, .next => True
  | .ret x, .ret v => RepV h x v
  | _, _ => False
inductive StPost (X : Ctx) (σ : Slots) (env : Env) (ah : AH) (s : Shared) (Q : QS) (fl : Flow) (s' : Shared) : Prop
  | mk (out : Out) (fr' : Fm) (ah' : AH) (ro : OutRep s'.heap out fl) (st : StepF X env ah s ah' s') (f : SRep σ env fr' ah' s'.heap) (q : Q out fr' ah') : StPost X σ env ah s Q fl s'
inductive ExcPostS (X : Ctx) (A : Around) (σ : Slots) (env : Env) (ah : AH) (s : Shared) (R : RS) (e : Value) (s' : Shared) : Prop
  | mk (C : Addr) (fr' : Fm) (ah' : AH) (fl : Flight X A s e C s') (st : StepF X env ah s ah' s') (f : SRep σ env fr' ah' s'.heap) (q : R C fr' ah') : ExcPostS X A σ env ah s R e s'
theorem StPost.back {Q fl} (t : StepF X env ah s ah' s') (p : StPost X σ env ah' s' Q fl s'') : StPost X σ env ah s Q fl s'' :=
  let ⟨o, f, h, a, b, d, q⟩ := p; ⟨o, f, h, a, t.trans b, d, q⟩
theorem ExcPostS.back {R e} (t : StepF X env ah s ah' s') (p : ExcPostS X A σ env ah' s' R e s'') : ExcPostS X A σ env ah s R e s'' :=
  let ⟨C, f, h, a, b, d, q⟩ := p; ⟨C, f, h, a.back t.there, t.trans b, d, q⟩
theorem ExcPost.toS {R : RS} {e : Value} (r : Rel X ah s.heap) (f : SRep σ env fr ah s.heap) (p : ExcPost X A ah s (fun C h => R C fr h) e s') : ExcPostS X A σ env ah s R e s' :=
  let ⟨C, h, a, b, q⟩ := p; ⟨C, fr, h, a, b.toF, f.step r b, q⟩

noncomputable def SS (X : Ctx) (sc : Scope) (σ : Slots) (x : St) (e : PySem.Stmt) : Prop :=
  ∀ c Q R fr h env A s, wpS X c x Q R fr h → InS X c sc σ env fr A h s → wpAny X.M A (exec e env) (StPost X σ env h s Q) (ExcPostS X A σ env h s R) s
noncomputable def SSs (X : Ctx) (sc : Scope) (σ : Slots) (xs : List St) (es : List PySem.Stmt) : Prop :=
  ∀ c Q R fr h env A s, wpSs X c xs Q R fr h → InS X c sc σ env fr A h s → wpAny X.M A (execs es env) (StPost X σ env h s Q) (ExcPostS X A σ env h s R) s

theorem set_get {fr : Fm} {i j : Nat} {x : V} : (fr.set i (some x))[j]? = if i = j then (fr[j]?).map (fun _ => some x) else fr[j]? := by
  rw [List.getElem?_set]
  by_cases h : i = j
  · subst h
    simp only [if_true]
    by_cases hl : i < fr.length
    · simp [hl]
    · simp [hl]
  · simp [h]

/-- a store into the frame -/
theorem store_ok {n : Str} {k : Nat} {x : V} {v : Value} {P : Unit → Shared → Prop} {E : Value → Shared → Prop} (i : InS X c sc σ env fr A ah s) (hn : σ.lookup n = some k) (rv : RepV s.heap x v)
    (hP : ∀ s', StepF X env ah s ah s' → SRep σ env (fr.set k (some x)) ah s'.heap → P () s') : wpAny X.M A (storeName env n v) P E s := by
  obtain ⟨m, hns, hm⟩ := i.f.ns
  obtain ⟨cm, hc, hcm⟩ := i.f.cs
  have fin : ∀ (h' : Heap) (tk : Nat) (b : Addr), Own env b → (∀ b', b' ≠ b → ∀ o, s.heap.get? b' = some o → h'.get? b' = some o) → (∃ o', h'.get? b = some o') → StepF X env ah s ah { s with heap := h', toks := tk } := fun h' tk b ob kk tb => by
    have kp : Kept (fun b => ah b ≠ none ∨ Own env b) s.heap h' := fun b' o e nn => ⟨o, kk b' (fun z => nn (.inr (z ▸ ob))) o e, .refl o⟩
    have vk := i.f.vk i.r kp
    have ub : ah b = none := by
      rcases ob with q | ⟨n, q⟩
      · rw [q]; exact i.f.uloc
      · exact i.f.ucel n b q
    refine ⟨⟨fun b' o q => kk b' (fun z => ?_) o (i.r.base b' o q), fun a o q => (i.r.rep a o q).mono vk fun o' e => kk a (fun z => ?_) o' e, i.r.own⟩, kp, fun _ _ _ q => q, fun b' o e => ?_, rfl, rfl, rfl⟩
    · have := i.b b ob; rw [← z, q] at this; cases this
    · rw [z] at q; rw [ub] at q; cases q
    · by_cases z : b' = b
      · rw [z]; exact tb
      · exact ⟨o, kk b' z o e⟩
  have kinds := i.f.kinds n k hn
  have other : ∀ n' j, σ.lookup n' = some j → n' ≠ n → (fr.set k (some x))[j]? = fr[j]? := fun n' j hj hne => by
    rw [set_get, if_neg]
    rintro rfl
    exact hne (i.f.inj n' n _ hj hn)
  have self : ∀ {hp : Heap}, RepV hp x v → RepOpt hp (fr.set k (some x))[k]? (some v) := fun {hp} r => by
    rw [set_get, if_pos rfl]
    cases fr[k]? with
    | none => trivial
    | some _ => exact ⟨v, rfl, r⟩
  rcases kinds with hk | hk
  · refine wpAny_storeName_local hk hns (fun h' hn' hs' => ?_) (by rw [i.e.kind]; rfl)
    have st := fin h' (s.toks + 1) env.locals (.inl rfl) (fun b' z o e => hs'.extBut b' o z e) (Heap.Ns.there hn')
    have vk := i.f.vk i.r st.kept
    refine hP _ st ⟨⟨_, hn', fun n' j hj hkj => ?_⟩, ⟨cm, fun n' c' hc' => (hc n' c' hc').sameBut hs' (Nat.ne_of_gt (i.f.above n' c' (mem_of_lookup hc'))), fun n' j hj hkj => ⟨(hcm n' j hj hkj).1, ?_⟩⟩, i.f.apart, i.f.above, i.f.uloc, i.f.ucel, i.f.kinds, i.f.inj⟩
    · by_cases z : n' = n
      · subst z
        rw [hn] at hj; cases hj
        simp only [if_true]
        exact self (rv.mono vk)
      · simp only [z, if_false]
        rw [other n' j hj z]
        exact (hm n' j hj hkj).mono vk
    · have z : n' ≠ n := fun z => by subst z; rw [hk] at hkj; cases hkj
      rw [other n' j hj z]
      exact (hcm n' j hj hkj).2.mono vk
  · obtain ⟨⟨cc, hcc⟩, ro⟩ := hcm n k hn hk
    refine wpAny_storeName_cell i.e.kind hk hcc (hc n cc hcc) fun h' hc' hs' => ?_
    have st := fin h' s.toks cc (.inr ⟨n, hcc⟩) (fun b' z o e => hs'.extBut b' o z e) (Heap.IsCell.there hc')
    have vk := i.f.vk i.r st.kept
    refine hP _ st ⟨⟨m, hns.sameBut hs' (Nat.ne_of_lt (i.f.above n cc (mem_of_lookup hcc))), fun n' j hj hkj => ?_⟩, ⟨fun y => if y = n then some v else cm y, fun n' c' hc'' => ?_, fun n' j hj hkj => ⟨(hcm n' j hj hkj).1, ?_⟩⟩, i.f.apart, i.f.above, i.f.uloc, i.f.ucel, i.f.kinds, i.f.inj⟩
    · have z : n' ≠ n := fun z => by subst z; rw [hk] at hkj; cases hkj
      rw [other n' j hj z]
      exact (hm n' j hj hkj).mono vk
    · by_cases z : n' = n
      · subst z
        rw [hcc] at hc''; cases hc''
        simpa using hc'
      · simp only [z, if_false]
        exact (hc n' c' hc'').sameBut hs' fun q => z (name_of_addr i.f.apart (mem_of_lookup hc'') (q ▸ mem_of_lookup hcc))
    · by_cases z : n' = n
      · subst z
        rw [hn] at hj; cases hj
        simp only [if_true]
        exact self (rv.mono vk)
      · simp only [z, if_false]
        rw [other n' j hj z]
        exact (hcm n' j hj hkj).2.mono vk

/-! statements -/
theorem ss_pass {p : Pos} : SS X sc σ .pass (.Pass p) := by
  intro c Q R fr h env A s w i
  dsimp only [wpS] at w
  exact wpAny_Pass ⟨.next, fr, h, trivial, .refl i.r, i.f, w⟩

theorem ss_ret {e : Ex} {x : PySem.Expr} {p : Pos} (hx : SE X sc σ e x) : SS X sc σ (.ret e) (.Return (some x) p) := by
  intro c Q R fr h env A s w i
  dsimp only [wpS] at w
  exact wpAny_Return_some (wpAny_mono (hx _ _ _ _ _ _ _ _ w i.inE) (fun v s1 ⟨y, h1, rv, st, q⟩ => ⟨.ret y, fr, h1, rv, st.toF, i.f.step i.r st, q⟩) fun _ _ e => e.toS i.r i.f)

theorem ss_ite {e : Ex} {x : PySem.Expr} {a b : List St} {as bs : List PySem.Stmt} {p : Pos} (hx : ST X sc σ e x) (ha : SSs X sc σ a as) (hb : SSs X sc σ b bs) : SS X sc σ (.ite e a b) (.If x as bs p) := by
  intro c Q R fr h env A s w i
  dsimp only [wpS] at w
  refine wpAny_If (wpAny_mono (hx _ _ _ _ _ _ _ _ w i.inE) (fun r s1 ⟨h1, st, q⟩ => ?_) fun _ _ e => e.toS i.r i.f)
  cases r
  · exact wpAny_mono (hb _ _ _ _ _ _ _ _ q (i.step st)) (fun _ _ q => q.back st.toF) fun _ _ e => e.back st.toF
  · exact wpAny_mono (ha _ _ _ _ _ _ _ _ q (i.step st)) (fun _ _ q => q.back st.toF) fun _ _ e => e.back st.toF

theorem sss_nil : SSs X sc σ [] [] := by
  intro c Q R fr h env A s w i
  unfold wpSs at w
  exact wpAny_execs_nil ⟨.next, fr, h, trivial, .refl i.r, i.f, w⟩
theorem sss_cons {x : St} {xs : List St} {e : PySem.Stmt} {es : List PySem.Stmt} (hx : SS X sc σ x e) (hs : SSs X sc σ xs es) : SSs X sc σ (x :: xs) (e :: es) := by
  intro c Q R fr h env A s w i
  unfold wpSs at w
  refine wpAny_execs_cons (wpAny_mono (hx _ _ _ _ _ _ _ _ w i) (fun fl s1 ⟨out, fr1, h1, ro, st, f1, q⟩ => ?_) fun _ _ e => e)
  cases out with
  | next =>
    cases fl <;> simp only [OutRep] at ro
    exact wpAny_mono (hs _ _ _ _ _ _ _ _ q (i.stepF st f1)) (fun _ _ q => q.back st) fun _ _ e => e.back st
  | ret v =>
    cases fl <;> simp only [OutRep] at ro
    exact ⟨.ret v, fr1, h1, ro, st, f1, q⟩

theorem ss_setitem {o k e : Ex} {vo vk x : PySem.Expr} {p pos : Pos} (ho : SE X sc σ o vo) (hk : SE X sc σ k vk) (hx : SE X sc σ e x) (hsl : plainE vk = true)
    (hsw : ∀ env, swapsWith x (some (.Subscript vo vk p)) pos.line env = pure false) : SS X sc σ (.setitem o k e) (.Assign [.Subscript vo vk p] x pos) := by
  intro c Q R fr h env A s w i
  dsimp only [wpS] at w
  refine wpAny_Assign_Subscript (wpAny_mono (hx _ _ _ _ _ _ _ _ w i.inE) (fun v s1 ⟨y, h1, rv, st, w1⟩ => ?_) fun _ _ e => e.toS i.r i.f) (hsw env)
  have i1 := i.step st
  refine wpAny_mono (ho _ _ _ _ _ _ _ _ w1 i1.inE) (fun u s2 ⟨z, h2, ru, st2, w2⟩ => ?_) fun _ _ e => (e.back st).toS i.r i.f
  have i2 := i1.step st2
  refine wpAny_mono (hk _ _ _ _ _ _ _ _ w2 i2.inE) (fun q s3 ⟨g, h3, rg, st3, w3⟩ => ?_) fun _ _ e => (e.back (st.trans st2)).toS i.r i.f
  have i3 := i2.step st3
  have rv3 := (rv.mono (st2.vk i1.r)).mono (st3.vk i2.r)
  have ru3 := ru.mono (st3.vk i2.r)
  refine wpAny_mono (set_ok i3.r ru3 rg rv3 w3) (fun _ s4 ⟨h4, st4, q4⟩ => ?_) fun _ _ e => e
  have stt := ((st.trans st2).trans st3).trans st4
  exact ⟨.next, fr, h4, trivial, stt.toF, i.f.step i.r stt, q4⟩
end
end Mine

namespace Mine
open PySem PyProof.Rows PySem.Calls PySem.SeqAt

/-- an iterator over the values vs; g: what must still lie there -/
structure It (X : Ctx) (A : Around) (vs : List V) (g : Guard) (I : Addr) (St : Nat → Heap → Prop) : Prop where
  frame : ∀ i h h', St i h → (∀ o, h.get? I = some o → h'.get? I = some o) → VK h h' → St i h'
  obj : ∀ i h, St i h → ∃ o, h.get? I = some o ∧ ¬ Lean o ∧ ∀ es ep, o.data ≠ .dict es ep
  self : ∀ i s Q E, St i s.heap → Q (.ref I) s → wpAny X.M A (pyIter (.ref I)) Q E s
  item : ∀ i x ah s Q E, vs[i]? = some x → St i s.heap → Rel X ah s.heap → g.ok ah →
    (∀ v h' tk, RepV h' x v → St (i + 1) h' → (∀ b o, b ≠ I → s.heap.get? b = some o → h'.get? b = some o) → Q (some v) { s with heap := h', toks := tk }) → wpAny X.M A (pyNext (.ref I)) Q E s
  done : ∀ ah s Q E, St vs.length s.heap → Rel X ah s.heap → g.ok ah →
    (∀ h' tk, (∀ b o, b ≠ I → s.heap.get? b = some o → h'.get? b = some o) → Q none { s with heap := h', toks := tk }) → wpAny X.M A (pyNext (.ref I)) Q E s

section
variable {X : Ctx} {A : Around}

theorem vk_but {I : Addr} {h h' : Heap} (nl : ∀ o, h.get? I = some o → ¬ Lean o) (kk : ∀ b o, b ≠ I → h.get? b = some o → h'.get? b = some o) : VK h h' := .exact fun b o e l => by
  refine kk b o (fun z => ?_) e
  subst z
  exact nl o e l

theorem It.list (hh : A.handled = none) {I ax : Addr} {vs : List V} (hne : ax ≠ I) : It X A vs (atG ax (.list vs)) I (fun i h => h.IsListIter I ax i) where
  frame := fun i h h' st k _ => st.at k
  obj := fun i h ⟨o, e, c, d⟩ => ⟨o, e, by unfold Lean; simp [c], by simp [d]⟩
  self := fun i s Q E st q => wpAny_pyIter_listiter st q
  item := fun i x ah s Q E hx st r g hQ => by
    obtain ⟨n, items, ha, ra, z⟩ := r.rep _ _ g
    obtain ⟨v, hv, rv⟩ := ra.get hx
    refine wpAny_pyNext_list_item st (isList_of ha) (by simpa using hv) fun h' st' hs' => ?_
    have kk : ∀ b o, b ≠ I → s.heap.get? b = some o → h'.get? b = some o := fun b o n e => hs'.extBut b o n e
    obtain ⟨o, e, c, d⟩ := st
    exact hQ v h' s.toks (rv.mono (vk_but (I := I) (fun o' e' => by rw [e] at e'; cases e'; unfold Lean; simp [c]) kk)) st' kk
  done := fun ah s Q E st r g hQ => by
    obtain ⟨n, items, ha, ra, z⟩ := r.rep _ _ g
    exact wpAny_pyNext_list_end hh st (isList_of ha) (by simp [ra.length]) fun h' he => hQ h' s.toks fun b o n e => he b o n e

theorem It.dict (hh : A.handled = none) {I d : Addr} {kvs : List (Int × V)} {ep : Nat} : It X A (kvs.map fun kv => .int kv.1) (atG d (.idict kvs ep)) I (fun i h => h.IsKeyIter I d i kvs.length ep) where
  frame := fun i h h' st k _ => st.at k
  obj := fun i h ⟨o, e, c, d⟩ => ⟨o, e, by unfold Lean; simp [c], by simp [d]⟩
  self := fun i s Q E st q => wpAny_pyIter_keyiter st q
  item := fun i x ah s Q E hx st r g hQ => by
    obtain ⟨us, hd, ra, z, ns⟩ := r.rep _ _ g
    have l := ra.length
    simp only [List.length_map] at l
    have l2 : ((kvs.map (·.1)).zip us).length = kvs.length := by simp [l]
    simp only [List.getElem?_map, Option.map_eq_some_iff] at hx
    obtain ⟨kv, hkv, rfl⟩ := hx
    have hi : i < kvs.length := (List.getElem?_eq_some_iff.mp hkv).1
    have hz : ((kvs.map (·.1)).zip us)[i]? = some (kv.1, us[i]'(by omega)) := by
      rw [List.getElem?_zip_eq_some]
      exact ⟨by simp [hkv], by simp⟩
    refine wpAny_pyNext_dict_item (by rw [l2]; exact st) hd hz fun key h' hk st' hs' => ?_
    have kk : ∀ b o, b ≠ I → s.heap.get? b = some o → h'.get? b = some o := fun b o n e => hs'.extBut b o n e
    have hkey : ∃ t, key = .int kv.1 t := by
      cases key <;> simp [intKind, Value.isInt] at hk
      exact ⟨_, by rw [hk]⟩
    obtain ⟨t, rfl⟩ := hkey
    rw [l2] at st'
    exact hQ _ h' s.toks rep_int st' kk
  done := fun ah s Q E st r g hQ => by
    obtain ⟨us, hd, ra, z, ns⟩ := r.rep _ _ g
    have l := ra.length
    simp only [List.length_map] at l
    have l2 : ((kvs.map (·.1)).zip us).length = kvs.length := by simp [l]
    simp only [List.length_map] at st
    exact wpAny_pyNext_dict_end hh (by rw [l2]; exact st) hd (by rw [List.getElem?_eq_none]; omega) fun h' he => hQ h' s.toks fun b o n e => he b o n e

theorem It.range (hh : A.handled = none) {I : Addr} {a : Int} {n : Nat} : It X A ((List.range n).map fun i => .int (a + (i : Nat))) freeG I (fun i h => IsRangeIter h I (a + (i : Nat) * 1) ((n : Int) - (i : Nat)) 1) where
  frame := fun i h h' st k _ => k _ st
  obj := fun i h st => ⟨_, st, by unfold Lean; simp, by simp⟩
  self := fun i s Q E st q => wpAny_pyIter_rangeiter st q
  item := fun i x ah s Q E hx st r g hQ => by
    simp only [List.getElem?_map, Option.map_eq_some_iff] at hx
    obtain ⟨j, hj, rfl⟩ := hx
    obtain ⟨hi, rfl⟩ := List.getElem?_eq_some_iff.mp hj
    simp only [List.getElem_range, List.length_range] at hi ⊢
    refine (Walks.range (prog := X.prog) (w := X.w) (A := A) hh I a 1 n).item i s Q E hi st fun v h' tk hp st' kk => ?_
    obtain ⟨t, rfl⟩ := hp
    exact hQ _ h' tk (by simp [RepV]) st' fun b o nn e => kk b o (by simpa using nn) e
  done := fun ah s Q E st r g hQ => by
    simp only [List.length_map, List.length_range] at st
    exact (Walks.range (prog := X.prog) (w := X.w) (A := A) hh I a 1 n).done s Q E st fun h' tk kk => hQ h' tk fun b o nn e => kk b o (by simpa using nn) e

theorem It.tup (hh : A.handled = none) {I t : Addr} {n : Nat} {vs : List V} {items : List Value} (hne : t ≠ I) : It X A vs freeG I (fun i h => h.IsTupleIter I t i ∧ h.get? t = some { cls := .type "tuple", data := .seq items.toArray n } ∧ RepVs h vs items) where
  frame := fun i h h' st k vk => ⟨st.1.at k, vk.tup st.2.1, st.2.2.mono vk⟩
  obj := fun i h ⟨⟨o, e, c, d⟩, _⟩ => ⟨o, e, by unfold Lean; simp [c], by simp [d]⟩
  self := fun i s Q E st q => wpAny_pyIter_tupleiter st.1 q
  item := fun i x ah s Q E hx st r g hQ => by
    obtain ⟨v, hv, rv⟩ := st.2.2.get hx
    refine wpAny_pyNext_tuple_item st.1 (isTuple_of st.2.1) (by simpa using hv) fun h' st' hs' => ?_
    have kk : ∀ b o, b ≠ I → s.heap.get? b = some o → h'.get? b = some o := fun b o n e => hs'.extBut b o n e
    obtain ⟨⟨o, e, c, d⟩, s2, s3⟩ := st
    have vk := vk_but (I := I) (fun o' e' => by rw [e] at e'; cases e'; unfold Lean; simp [c]) kk
    exact hQ v h' s.toks (rv.mono vk) ⟨st', kk _ _ hne s2, s3.mono vk⟩ kk
  done := fun ah s Q E st r g hQ =>
    wpAny_pyNext_tuple_end hh st.1 (isTuple_of st.2.1) (by simp [st.2.2.length]) fun h' he => hQ h' s.toks fun b o n e => he b o n e


theorem It.rev (hh : A.handled = none) {I ax : Addr} {vs : List V} (hne : ax ≠ I) : It X A vs.reverse (atG ax (.list vs)) I (fun i h => i ≤ vs.length ∧ h.IsRevIter I ax ((vs.length : Int) - 1 - (i : Int))) where
  frame := fun i h h' st k _ => ⟨st.1, st.2.at k⟩
  obj := fun i h ⟨_, st⟩ => by
    obtain ⟨o, e, c, d⟩ := st
    exact ⟨o, e, by unfold Lean; simp [c], by simp [d]⟩
  self := fun i s Q E st q => wpAny_pyIter_revIter st.2 q
  item := fun i x ah s Q E hx st r g hQ => by
    obtain ⟨n, items, ha, ra, z⟩ := r.rep _ _ g
    have l := ra.length
    have hi : i < vs.length := by have := (List.getElem?_eq_some_iff.mp hx).1; simpa using this
    rw [List.getElem?_reverse hi] at hx
    obtain ⟨v, hv, rv⟩ := ra.get hx
    have e : (vs.length : Int) - 1 - (i : Int) = ((vs.length - 1 - i : Nat) : Int) := by omega
    have hit := st.2
    rw [e] at hit
    refine wpAny_pyNext_rev_item hit (isList_of ha) (by simpa using hv) fun h' st' hs' => ?_
    have kk : ∀ b o, b ≠ I → s.heap.get? b = some o → h'.get? b = some o := fun b o n e => hs'.extBut b o n e
    obtain ⟨o, e', c, d⟩ := hit
    have e2 : ((vs.length - 1 - i : Nat) : Int) - 1 = (vs.length : Int) - 1 - ((i + 1 : Nat) : Int) := by omega
    rw [e2] at st'
    exact hQ v h' s.toks (rv.mono (vk_but (I := I) (fun o' e'' => by rw [e'] at e''; cases e''; unfold Lean; simp [c]) kk)) ⟨hi, st'⟩ kk
  done := fun ah s Q E st r g hQ => by
    have hit := st.2
    rw [List.length_reverse] at hit
    have e : (vs.length : Int) - 1 - (vs.length : Int) = -1 := by omega
    rw [e] at hit
    exact wpAny_pyNext_rev_end hh hit fun h' he => hQ h' s.toks fun b o n e => he b o n e
end
end Mine

namespace Mine
open PySem PyProof.Rows PySem.Calls PySem.SeqAt

section
variable {X : Ctx} {sc : Scope} {σ : Slots}

inductive IterPost (X : Ctx) (A : Around) (h : AH) (s : Shared) (Q : List V → Guard → AH → Prop) (it : Value) (s' : Shared) : Prop
  | mk (I : Addr) (St : Nat → Heap → Prop) (vs : List V) (g : Guard) (h1 : AH) (e : it = .ref I) (W : It X A vs g I St) (hs : St 0 s'.heap) (n : s.heap.get? I = none) (u : h1 I = none) (st : Step X h s h1 s') (z : vs.length ≤ big) (q : Q vs g h1) : IterPost X A h s Q it s'
noncomputable def SI (X : Ctx) (sc : Scope) (σ : Slots) (x : Ex) (e : PySem.Expr) : Prop :=
  ∀ c R fr Q h env A s, wpI X c R x (wpE X c R x fr) fr Q h → In X c sc σ env fr A h s → A.handled = none →
    wpAny X.M A (eval e env) (fun xv s1 => wpAny X.M A (pyIter xv) (IterPost X A h s Q) (ExcPost X A h s R) s1) (ExcPost X A h s R) s

variable {A : Around} {h h1 : AH} {s s1 : Shared} {Q : List V → Guard → AH → Prop} {E : Value → Shared → Prop}

theorem Step.fresh_none {I : Addr} (st : Step X h s h1 s1) (hI : s1.heap.get? I = none) : s.heap.get? I = none := by
  cases e : s.heap.get? I with
  | none => rfl
  | some o => obtain ⟨o', e'⟩ := st.there _ _ e; rw [hI] at e'; cases e'

/-- pyIter of what a plain expression gave -/
theorem iter_plain {x : V} {v : Value} (hh : A.handled = none) (st : Step X h s h1 s1) (rv : RepV s1.heap x v)
    (w : srcP Q h1 x) : wpAny X.M A (pyIter v) (IterPost X A h s Q) E s1 := by
  have hn := size_none (Nat.le_refl s1.heap.objs.size)
  have kk : ∀ ob b o, s1.heap.get? b = some o → (s1.heap.push ob).get? b = some o := fun ob b o e => Heap.get?_push_of_some _ e
  have stp : ∀ ob, Step X h s h1 { s1 with heap := s1.heap.push ob } := fun ob => st.trans (Step.keeps st.rel (kk ob) ⟨rfl, rfl, rfl⟩)
  unfold srcP at w
  split at w
  · rw [RepV] at rv
    obtain ⟨a, n, items, rfl, ha, ra, z⟩ := rv
    have hne : a ≠ s1.heap.objs.size := Nat.ne_of_lt (Heap.lt_size ha)
    exact wpAny_pyIter_tuple (isTuple_of ha) ⟨_, _, _, _, h1, rfl, It.tup hh (n := n) (items := items) hne, ⟨⟨_, Heap.get?_push_size _ rfl, rfl, rfl⟩, kk _ _ _ ha, ra.mono (push_vk _ _)⟩, st.fresh_none hn, st.rel.none_of_new hn, stp _, z, w⟩
  · simp only [RepV] at rv; subst rv
    split at w
    · rename_i l ha
      obtain ⟨n, items, ha', ra, z⟩ := st.rel.rep _ _ ha
      have hne := Nat.ne_of_lt (Heap.lt_size ha')
      exact wpAny_pyIter_list (isList_of ha') ⟨_, _, _, _, h1, rfl, It.list hh hne, ⟨_, Heap.get?_push_size _ rfl, rfl, rfl⟩, st.fresh_none hn, st.rel.none_of_new hn, stp _, z, w⟩
    · rename_i d ep ha
      obtain ⟨us, hd, ra, z, ns⟩ := st.rel.rep _ _ ha
      have l := ra.length
      simp only [List.length_map] at l
      have l2 : ((d.map (·.1)).zip us).length = d.length := by simp [l]
      refine wpAny_pyIter_dict (ne_sys ns) hd ?_
      rw [l2]
      exact ⟨_, _, _, _, h1, rfl, It.dict hh, ⟨_, Heap.get?_push_size _ rfl, rfl, rfl⟩, st.fresh_none hn, st.rel.none_of_new hn, stp _, by simpa using z, w⟩
    · exact w.elim
  · exact w.elim

theorem si_plain {x : Ex} {e : PySem.Expr} (hx : SE X sc σ x e)
    (hw : ∀ c R whole fr Q h, wpI X c R x whole fr Q h = whole (fun x h1 => srcP Q h1 x) h) : SI X sc σ x e := by
  intro c R fr Q h env A s w i hh
  rw [hw] at w
  exact wpAny_mono (hx _ _ _ _ _ _ _ _ w i) (fun v s1 ⟨y, h1, rv, st, w1⟩ => iter_plain hh st rv w1) fun _ _ e => e

theorem range_post {m : Int} {n : Nat} {c : Int} {s2 : Shared} (hh : A.handled = none) (st : Step X h s h1 s2) (hc : c = (n : Int)) (hz : n ≤ big) (w : Q ((List.range n).map fun i => .int (m + (i : Nat))) freeG h1) :
    IterPost X A h s Q (.ref s2.heap.objs.size) { s2 with heap := s2.heap.push { cls := .type "range_iterator", data := .fields #[rawInt m, rawInt c, rawInt 1] } } := by
  have hn := size_none (Nat.le_refl s2.heap.objs.size)
  subst hc
  refine ⟨_, _, _, _, h1, rfl, It.range hh (a := m) (n := n), ?_, st.fresh_none hn, st.rel.none_of_new hn, st.trans (Step.keeps st.rel (fun b o e => Heap.get?_push_of_some _ e) ⟨rfl, rfl, rfl⟩), by simpa using hz, w⟩
  have e1 : (m + ((0 : Nat) : Int) * 1) = m := by simp
  have e2 : ((n : Int) - ((0 : Nat) : Int)) = n := by simp
  rw [e1, e2]
  exact Heap.get?_push_size _ rfl

theorem si_range1 (G : X.Good) {b : Ex} {y : PySem.Expr} {p pos : Pos} (hb : SE X sc σ b y) (hp : plainE y = true) (hg : isGlob sc ("range" : Str) = true) : SI X sc σ (.range1 b) (.Call (.Name "range" p) [y] [] pos) := by
  intro c R fr Q h env A s w i hh
  unfold wpI at w
  show wpAny _ _ (eval (.Name "range" p) env >>= fun v => callWith pos v [] (backTo pos (starEach [y] env)) []) _ _ _
  refine wpAny_bind (load_builtin G i hg (by decide) G.range ?_)
  rw [starEach_cons hp]
  refine PySem.callWith_type rfl (evalArgs_plain (spliced_cons (wpAny_mono (hb _ _ _ _ _ _ _ _ w i) (fun v s1 ⟨z, h1, rv, st, w1⟩ => spliced_nil ?_) fun _ _ e => e)))
  try dsimp only at w1
  split at w1
  · rename_i n
    simp only [RepV] at rv; obtain ⟨t, rfl⟩ := rv
    obtain ⟨⟨h0, hz⟩, w2⟩ := w1
    unfold small at hz
    refine call_range_1 (wpAny_pyIter_range (IsRange.new ..) (small_one (by decide) (by decide) (by omega) (by omega)) ?_)
    refine range_post hh (st.trans (Step.keeps st.rel (fun b o e => Heap.get?_push_of_some _ e) ⟨rfl, rfl, rfl⟩)) ?_ ?_ w2
    · rw [rangeSize_one]; split <;> omega
    · unfold big; omega
  · exact w1.elim

theorem si_rev (G : X.Good) {a : Ex} {x : PySem.Expr} {p pos : Pos} (ha : SE X sc σ a x) (hp : plainE x = true) (hg : isGlob sc ("reversed" : Str) = true) : SI X sc σ (.rev a) (.Call (.Name "reversed" p) [x] [] pos) := by
  intro c R fr Q h env A s w i hh
  unfold wpI at w
  show wpAny _ _ (eval (.Name "reversed" p) env >>= fun v => callWith pos v [] (backTo pos (starEach [x] env)) []) _ _ _
  refine wpAny_bind (load_builtin G i hg (by decide) G.reversed ?_)
  rw [starEach_cons hp]
  refine PySem.callWith_type rfl (evalArgs_plain (spliced_cons (wpAny_mono (ha _ _ _ _ _ _ _ _ w i) (fun v s1 ⟨z, h1, rv, st, w1⟩ => spliced_nil ?_) fun _ _ e => e)))
  try dsimp only at w1
  split at w1
  · rename_i lx
    simp only [RepV] at rv; subst rv
    split at w1
    · rename_i vs hl
      obtain ⟨n, items, ha', ra, z⟩ := st.rel.rep _ _ hl
      have hn := size_none (Nat.le_refl s1.heap.objs.size)
      have hne := Nat.ne_of_lt (Heap.lt_size ha')
      have stp : Step X h s h1 { s1 with heap := s1.heap.push (revObj lx ((vs.length : Int) - 1)) } := st.trans (Step.keeps st.rel (fun b o e => Heap.get?_push_of_some _ e) ⟨rfl, rfl, rfl⟩)
      refine call_reversed_list (isList_of ha') ?_
      have el : ((items.toArray.size : Nat) : Int) = (vs.length : Int) := by rw [List.size_toArray, ra.length]
      rw [el]
      have hit : (s1.heap.push (revObj lx ((vs.length : Int) - 1))).IsRevIter s1.heap.objs.size lx ((vs.length : Int) - 1) := ⟨_, Heap.get?_push_size _ rfl, rfl, rfl⟩
      exact wpAny_pyIter_revIter (s := { s1 with heap := s1.heap.push (revObj lx ((vs.length : Int) - 1)) }) hit ⟨_, _, _, _, h1, rfl, It.rev hh hne, ⟨Nat.zero_le _, by simpa using hit⟩, st.fresh_none hn, st.rel.none_of_new hn, stp, by simpa using z, w1⟩
    · exact w1.elim
  · exact w1.elim
end
end Mine

namespace Mine
open PySem PyProof.Rows PySem.Calls PySem.SeqAt

section
variable {X : Ctx} {sc : Scope} {σ : Slots} {c : Cfg} {env : Env} {fr fr' : Fm} {A : Around} {ah ah' ah'' ah₀ : AH} {s s' s'' s₀ : Shared} {I : Addr}

theorem ExcPostS.noted {R : RS} {e : Value} (i : InS X c sc σ env fr A ah s) (p : ExcPostS X A σ env ah s R e s') : notedBy X.M A env (cameBackBy X.M A env (ExcPostS X A σ env ah s R)) e s' := by
  obtain ⟨C, fr', ah', fl, st, f, q⟩ := p
  obtain ⟨a, x, rfl, na, fly, hC, ok⟩ := fl
  obtain ⟨outer, hfr⟩ := i.ho
  have fs' := i.fs.stepF i.f st f
  have ok' : x = none ∨ x = some .none ∨ x = some (rawInt env.locals) := by
    rcases ok with q | q | ⟨e2, l2, L2, z1, z2, z3⟩
    · exact .inl q
    · exact .inr (.inl q)
    · rw [hfr] at z1; cases z1; rw [i.hf] at z2; cases z2; exact .inr (.inr z3)
  unfold notedBy
  refine note_ok hfr (fs'.fun hfr) i.hf st.there na fly ok' fun h1 m1 f1 => ?_
  have fa := fs'.at hfr
  have st1 := st.mod i.r m1 fa
  have g1 := f.mod m1 fa
  have fs1 := i.fs.stepF i.f st1 g1
  unfold cameBackBy
  have fin : wpAny X.M A (setFlight (.ref a) env.frame) (fun _ s'' => ExcPostS X A σ env ah s R (.ref a) s'') (ExcPostS X A σ env ah s R) { s' with heap := h1 } := by
    refine land_ok (F := (env :: outer).filterMap (·.frame)) f1 fun h2 m2 f2 => ?_
    have fa1 := fs1.at hfr
    rw [i.hf] at f2
    exact ⟨C, fr', ah', ⟨a, _, rfl, na, f2, hC, .inr (.inr ⟨env, outer, env.locals, hfr, i.hf, rfl⟩)⟩, st1.mod i.r m2 fa1, g1.mod m2 fa1, q⟩
  cases f1 with
  | raw oe vs he hc hd h1 hx => cases hx
  | tr oe vs T oT ts fl he hc hd h1 nT Ta hT dT h3 hx =>
    refine wpAny_bind (wpAny_field he hd h1 ?_)
    rw [if_neg (by simp)]
    exact fin

theorem ExcPostS.left {R : RS} {e : Value} {P : Unit → Shared → Prop} {E : Value → Shared → Prop} (i : InS X c sc σ env fr A ah s) (p : ExcPostS X A σ env ah s R e s')
    (hP : ∀ a C fr' ah' h', e = .ref a → s.heap.get? a = none → Fly s.heap h' a C (some .none) → (∃ n, X.exc n = some C) → StepF X env ah s ah' { s' with heap := h' } → R C fr' ah' → P () { s' with heap := h' }) : wpAny X.M A (leaving env e) P E s' := by
  obtain ⟨C, fr', ah', fl, st, f, q⟩ := p
  obtain ⟨a, x, rfl, na, fly, hC, ok⟩ := fl
  obtain ⟨outer, hfr⟩ := i.ho
  have fs' := i.fs.stepF i.f st f
  have ok' : x = none ∨ x = some .none ∨ x = some (rawInt env.locals) := by
    rcases ok with q | q | ⟨e2, l2, L2, z1, z2, z3⟩
    · exact .inl q
    · exact .inr (.inl q)
    · rw [hfr] at z1; cases z1; rw [i.hf] at z2; cases z2; exact .inr (.inr z3)
  unfold leaving
  refine wpAny_bind (note_ok hfr (fs'.fun hfr) i.hf st.there na fly ok' fun h1 m1 f1 => ?_)
  have fa := fs'.at hfr
  have st1 := st.mod i.r m1 fa
  have g1 := f.mod m1 fa
  have fa1 := (i.fs.stepF i.f st1 g1).at hfr
  exact land_ok (F := (env :: outer).filterMap (·.frame)) f1 fun h2 m2 f2 => hP a C fr' ah' h2 rfl na f2 hC (st1.mod i.r m2 fa1) q
theorem ExcPost.no {e : Value} {P : Prop} (p : ExcPost X A ah s (fun _ _ => False) e s') : P := let ⟨_, _, _, _, q⟩ := p; q.elim
theorem ExcPostS.no {e : Value} {P : Prop} (p : ExcPostS X A σ env ah s (fun _ _ _ => False) e s') : P := let ⟨_, _, _, _, _, _, q⟩ := p; q.elim

/-- an untracked object that is nobody's own is changed -/
theorem Rel.poke {h' : Heap} (r : Rel X ah s.heap) (uI : ah I = none) (bI : X.base.get? I = none) (vk : VK s.heap h') (kk : ∀ b o, b ≠ I → s.heap.get? b = some o → h'.get? b = some o) : Rel X ah h' :=
  ⟨fun b o q => kk b o (fun z => by subst z; rw [bI] at q; cases q) (r.base b o q), fun a o q => (r.rep a o q).mono vk fun ob e => kk a ob (fun z => by subst z; rw [uI] at q; cases q) e, r.own⟩
theorem SRep.poke {h' : Heap} (f : SRep σ env fr ah s.heap) (oI : ¬ Own env I) (vk : VK s.heap h') (kk : ∀ b o, b ≠ I → s.heap.get? b = some o → h'.get? b = some o) : SRep σ env fr ah h' := by
  obtain ⟨m, hn, hm⟩ := f.ns
  obtain ⟨cm, hc, hcm⟩ := f.cs
  exact ⟨⟨m, Ns.same hn fun o e => ⟨o, kk _ o (fun z => oI (.inl z.symm)) e, rfl⟩, fun n i a b => (hm n i a b).mono vk⟩,
    ⟨cm, fun n c a => IsCell.same (hc n c a) fun o e => ⟨o, kk _ o (fun z => oI (.inr ⟨n, z ▸ a⟩)) e, rfl⟩, fun n i a b => ⟨(hcm n i a b).1, (hcm n i a b).2.mono vk⟩⟩, f.apart, f.above, f.uloc, f.ucel, f.kinds, f.inj⟩
theorem StepF.poke {h' : Heap} {tk : Nat} (t : StepF X env ah₀ s₀ ah s) (hI : s₀.heap.get? I = none) (r : Rel X ah h') (kk : ∀ b o, b ≠ I → s.heap.get? b = some o → h'.get? b = some o) :
    StepF X env ah₀ s₀ ah { s with heap := h', toks := tk } :=
  ⟨r, fun b o e n => by obtain ⟨o', e', so⟩ := t.kept b o e n; exact ⟨o', kk b o' (fun z => by subst z; rw [hI] at e; cases e) e', so⟩, t.fresh,
   fun b o e => by obtain ⟨o', e'⟩ := t.there b o e; exact ⟨o', kk b o' (fun z => by subst z; rw [hI] at e; cases e) e'⟩, t.rest⟩

theorem own_of (f : SRep σ env fr ah s.heap) (hI : s.heap.get? I = none) : ¬ Own env I := by
  rintro (z | ⟨n, z⟩)
  · obtain ⟨m, hn, _⟩ := f.ns
    obtain ⟨o, e⟩ := Heap.Ns.there hn
    rw [← z, hI] at e; cases e
  · obtain ⟨cm, hc, _⟩ := f.cs
    obtain ⟨o, e⟩ := Heap.IsCell.there (hc n I z)
    rw [hI] at e; cases e

theorem base_none (r : Rel X ah s.heap) (hI : s.heap.get? I = none) : X.base.get? I = none := by
  cases e : X.base.get? I with
  | none => rfl
  | some o => rw [r.base _ _ e] at hI; cases hI

/-- the turns of a for -/
inductive ForI (X : Ctx) (σ : Slots) (env : Env) (ah₀ : AH) (s₀ : Shared) (I : Addr) (vs : List V) (Sx : Nat → Heap → Prop) (L : List V → Fm → AH → Prop) (m : Nat) (s' : Shared) : Prop
  | mk (j : Nat) (fr1 : Fm) (h1 : AH) (e : m = vs.length + 1 - j) (hj : j ≤ vs.length) (st : StepF X env ah₀ s₀ h1 s') (f : SRep σ env fr1 h1 s'.heap) (u : h1 I = none) (hs : Sx j s'.heap) (w : L (vs.drop j) fr1 h1) : ForI X σ env ah₀ s₀ I vs Sx L m s'
theorem for_ok {vs : List V} {g : Guard} {Sx : Nat → Heap → Prop} {n : Str} {k : Nat} {p : Pos} {b : List Mine.St} {body : List PySem.Stmt} {Q : QS} {R : RS} {RR : Result → Shared → Prop}
    (W : It X A vs g I Sx) (hn : σ.lookup n = some k) (hb : SSs X sc σ b body) (i₀ : InS X c sc σ env fr A ah₀ s₀) (hI : s₀.heap.get? I = none)
    (hR : ∀ fl s', StPost X σ env ah₀ s₀ Q fl s' → RR (.ok fl) s') (hE : ∀ e s', ExcPostS X A σ env ah₀ s₀ R e s' → notedBy X.M A env (fun x s'' => RR (.error x) s'') e s')
    (st : StepF X env ah₀ s₀ ah s) (f : SRep σ env fr' ah s.heap) (uI : ah I = none) (hs : Sx 0 s.heap) (w : loopL (fun v fr h K => wpSs X c b K R (fr.set k (some v)) h) g vs fr' ah Q) :
    codeAny X.M A (.forLoop (.Name n p) (.ref I) body [] env) RR s := by
  have oI : ¬ Own env I := own_of i₀.f hI
  have bI : X.base.get? I = none := base_none i₀.r hI
  refine codeAny_forLoop (ForI X σ env ah₀ s₀ I vs Sx fun l fr1 h1 => loopL (fun v fr h K => wpSs X c b K R (fr.set k (some v)) h) g l fr1 h1 Q) ?_ (vs.length + 1)
    ⟨0, fr', ah, rfl, Nat.zero_le _, st, f, uI, hs, w⟩
  rintro m s' ⟨j, fr1, h1, rfl, hj, st1, f1, u1, hs1, w1⟩
  obtain ⟨oi, eoi, nli, _⟩ := W.obj j _ hs1
  by_cases hlt : j < vs.length
  · rw [List.drop_eq_getElem_cons hlt] at w1
    unfold loopL at w1
    obtain ⟨gk, w2⟩ := w1
    refine W.item j vs[j] h1 s' _ _ (by simp [hlt]) hs1 st1.rel gk fun v h' tk rv hs2 kk => ?_
    have vk : VK s'.heap h' := vk_but (I := I) (fun o e => by rw [eoi] at e; cases e; exact nli) kk
    have r2 := st1.rel.poke u1 bI vk kk
    have f2 := f1.poke oI vk kk
    have st2 : StepF X env ah₀ s₀ h1 { s' with heap := h', toks := tk } := st1.poke hI r2 kk
    have i2 : InS X c sc σ env fr1 A h1 { s' with heap := h', toks := tk } := i₀.stepF st2 f2
    refine wpAny_assign_Name (store_ok i2 hn rv fun s3 st3 f3 => ?_)
    have i3 := i2.stepF st3 f3
    refine wpAny_mono (hb _ _ _ _ _ _ _ _ w2 i3) (fun fl s4 ⟨out, fr4, h4, ro, st4, f4, q⟩ => ?_) fun e s4 q => hE e s4 (q.back (st2.trans st3))
    have stt := (st2.trans st3).trans st4
    cases out with
    | next =>
      cases fl <;> simp only [OutRep] at ro
      refine ⟨vs.length + 1 - (j + 1), by omega, j + 1, fr4, h4, rfl, hlt, stt, f4, ?_, ?_, q⟩
      · obtain ⟨o2, e2, _⟩ := W.obj _ _ hs2
        obtain ⟨o3, e3⟩ := st3.there _ _ e2
        exact st4.fresh I o3 e3 u1
      · have nI : ¬ (h1 I ≠ none ∨ Own env I) := by rintro (z | z); exact z u1; exact oI z
        have step : ∀ {x y : Shared} {g1 g2 : AH}, StepF X env g1 x g2 y → g1 I = none → ∀ o, x.heap.get? I = some o → (∀ es ep, o.data ≠ .dict es ep) → y.heap.get? I = some o := fun t u o e nd => by
          obtain ⟨o', e', so⟩ := t.kept I o e (by rintro (z | z); exact z u; exact oI z)
          rw [← so.eq nd]; exact e'
        obtain ⟨o2, e2, _, nd2⟩ := W.obj _ _ hs2
        have hs3 := W.frame _ _ s3.heap hs2 (fun o e => by have q := e.symm.trans e2; cases q; exact step st3 u1 _ e nd2) (st3.vk r2 f2)
        obtain ⟨o3, e3, _, nd3⟩ := W.obj _ _ hs3
        exact W.frame _ _ s4.heap hs3 (fun o e => by have q := e.symm.trans e3; cases q; exact step st4 u1 _ e nd3) (st4.vk i3.r f3)
    | ret v =>
      cases fl <;> simp only [OutRep] at ro
      exact hR _ _ ⟨.ret v, fr4, h4, ro, stt, f4, q⟩
  · have hj' : j = vs.length := by omega
    subst hj'
    rw [List.drop_length] at w1
    unfold loopL at w1
    obtain ⟨gk, q⟩ := w1
    refine W.done h1 s' _ _ hs1 st1.rel gk fun h' tk kk => ?_
    have vk : VK s'.heap h' := vk_but (I := I) (fun o e => by rw [eoi] at e; cases e; exact nli) kk
    have r2 := st1.rel.poke u1 bI vk kk
    exact wpAny_execs_nil (hR _ _ ⟨.next, fr1, h1, trivial, st1.poke hI r2 kk, f1.poke oI vk kk, q⟩)

theorem ss_for {k : Nat} {n : Str} {src : Ex} {b : List Mine.St} {iter : PySem.Expr} {body : List PySem.Stmt} {p pos : Pos} (hn : σ.lookup n = some k) (hsrc : SI X sc σ src iter) (hp : plainE iter = true) (hb : SSs X sc σ b body) :
    SS X sc σ (.forr k src b) (.For (.Name n p) iter body [] pos) := by
  intro c Q R fr h env A s w i
  dsimp only [wpS] at w
  obtain ⟨hh, w⟩ := w
  refine wpAny_For (wpAny_mono (hsrc _ _ _ _ _ _ _ _ w i.inE (i.a.handled hh)) (fun xv s1 h1 => wpAny_mono h1 (fun it s2 hi => ?_) fun _ _ e => e.toS i.r i.f) fun _ _ e => e.toS i.r i.f) (foldedSet_plain hp)
  obtain ⟨I, Sx, vs, g, h1, rfl, W, hs, hI, uI, st, hz, w1⟩ := hi
  exact for_ok W hn hb i hI (fun fl s' q => q) (fun e s' q => q.noted i) st.toF (i.f.step i.r st) uI hs w1

theorem ss_while {e : Ex} {b : List Mine.St} {test : PySem.Expr} {body : List PySem.Stmt} {pos : Pos} (he : ST X sc σ e test) (hb : SSs X sc σ b body) : SS X sc σ (.whil e b) (.While test body [] pos) := by
  intro c Q R fr h env A s w i
  dsimp only [wpS] at w
  obtain ⟨hh, w⟩ := w
  refine wpAny_While ?_
  have key := w (fun fr1 h1 => ∀ s1, StepF X env h s h1 s1 → SRep σ env fr1 h1 s1.heap →
    codeAny X.M A (.whileLoop test body [] env) (fun r s' => match r with | .ok f => StPost X σ env h s Q f s' | .error e => cameBackBy X.M A env (ExcPostS X A σ env h s R) e s') s1) ?_ s (.refl i.r) i.f
  · exact key
  · intro fr1 h1 w1 s1 st1 f1
    have i1 : InS X c sc σ env fr1 A h1 s1 := i.stepF st1 f1
    refine codeAny_of_tree ?_
    show wpAny _ A ((whileTurn test body [] env).onRaise (fun x => do noteFrame x env; theTreesLotGoes x)) _ _ s1
    refine wpAny_noted ?_
    simp only [whileTurn]
    refine wpAny_bind (wpAny_mono (he _ _ _ _ _ _ _ _ w1 i1.inE) (fun bb s2 ⟨h2, st2, w2⟩ => ?_) fun _ _ e => ((e.toS i1.r i1.f).back st1).noted i)
    have i2 := i1.step st2
    cases bb with
    | false =>
      simp only [Bool.false_eq_true, if_false] at w2 ⊢
      exact wpAny_bind (wpAny_execs_nil (wpAny_pure ⟨.next, fr1, h2, trivial, st1.trans st2.toF, i2.f, w2⟩))
    | true =>
      simp only [if_true] at w2 ⊢
      refine wpAny_bind (wpAny_mono (hb _ _ _ _ _ _ _ _ w2 i2) (fun fl s3 ⟨out, fr3, h3, ro, st3, f3, q⟩ => ?_) fun _ _ e => (e.back (st1.trans st2.toF)).noted i)
      have stt := (st1.trans st2.toF).trans st3
      cases out with
      | next =>
        cases fl <;> simp only [OutRep] at ro
        exact wpAny_pure ⟨rfl, q s3 stt f3⟩
      | ret v =>
        cases fl <;> simp only [OutRep] at ro
        exact wpAny_pure ⟨.ret v, fr3, h3, ro, stt, f3, q⟩
end
end Mine

namespace Mine
open PySem PyProof.Rows PySem.Calls PySem.SeqAt

theorem closure_ok {env : Env} {scope : Scope} (hf : ∀ p ∈ scope.names, p.2 = .free → ∃ c, env.cells.lookup p.1 = some c) :
    ∃ cl, closureFor scope env = pure cl ∧ (∀ n c, cl.lookup n = some c → env.cells.lookup n = some c) ∧ (∀ n, (n, NameKind.free) ∈ scope.names → cl.lookup n = env.cells.lookup n) := by
  unfold closureFor
  have key : ∀ (names : List (Str × NameKind)) (acc : List (Str × Addr)), (∀ p ∈ names, p.2 = .free → ∃ c, env.cells.lookup p.1 = some c) → (∀ n c, acc.lookup n = some c → env.cells.lookup n = some c) →
      ∃ cl, (forIn names acc fun x r => do
          match x with
          | (name, kind) => if (kind == NameKind.free) = true then do let __do_lift ← cellOf env name; pure (ForInStep.yield ((name, __do_lift) :: r)) else pure (ForInStep.yield r) : Sem (List (Str × Addr))) = pure cl ∧
        (∀ n c, cl.lookup n = some c → env.cells.lookup n = some c) ∧ (∀ n, (n, NameKind.free) ∈ names ∨ (acc.lookup n).isSome = true → cl.lookup n = env.cells.lookup n) := by
    intro names
    induction names with
    | nil =>
      intro acc _ ha
      refine ⟨acc, by rw [List.forIn_nil], ha, fun n h => ?_⟩
      rcases h with h | h
      · cases h
      · obtain ⟨c, hc⟩ := Option.isSome_iff_exists.mp h
        rw [hc, ha n c hc]
    | cons p r ih =>
      intro acc hp ha
      obtain ⟨n, k⟩ := p
      by_cases hk : k = .free
      · obtain ⟨c, hc⟩ := hp (n, k) (.head _) hk
        have hcell : cellOf env n = pure c := by unfold cellOf; rw [hc]
        obtain ⟨cl, e, h1, h2⟩ := ih ((n, c) :: acc) (fun q hq => hp q (.tail _ hq)) (fun n' c' h' => by
          rw [List.lookup_cons] at h'
          split at h'
          · rename_i hb; have := beq_iff_eq.mp hb; subst this; cases h'; exact hc
          · exact ha n' c' h')
        refine ⟨cl, ?_, h1, fun n' h' => h2 n' ?_⟩
        · rw [List.forIn_cons]
          simp only [hk, beq_self_eq_true, if_true, hcell, pure_bind]
          exact e
        · rcases h' with h' | h'
          · cases h' with
            | head => right; simp
            | tail _ h' => left; exact h'
          · right
            rw [List.lookup_cons]
            split
            · rfl
            · exact h'
      · obtain ⟨cl, e, h1, h2⟩ := ih acc (fun q hq => hp q (.tail _ hq)) ha
        refine ⟨cl, ?_, h1, fun n' h' => h2 n' ?_⟩
        · rw [List.forIn_cons]
          have : (k == NameKind.free) = false := by simpa using hk
          simp only [this, Bool.false_eq_true, if_false, pure_bind]
          exact e
        · rcases h' with h' | h'
          · cases h' with
            | head => exact absurd rfl hk
            | tail _ h' => left; exact h'
          · right; exact h'
  obtain ⟨cl, e, h1, h2⟩ := key scope.names [] hf (fun n c h => by simp at h)
  refine ⟨cl, ?_, h1, fun n h => h2 n (.inl h)⟩
  simp only [bind_pure]
  exact e

theorem lookup_relabel {env : Env} (x : Str) : ∀ (names : List (Str × NameKind)),
    (names.map fun (n, k) => if (k == NameKind.free && env.scope.kind == .function && env.kindOf n == some .cell) then (n, NameKind.cell) else (n, k)).lookup x =
      (names.lookup x).map fun k => if (k == NameKind.free && env.scope.kind == .function && env.kindOf x == some .cell) then NameKind.cell else k
  | [] => rfl
  | (n, k) :: r => by
    have ih := lookup_relabel (env := env) x r
    show List.lookup x ((if (k == NameKind.free && env.scope.kind == .function && env.kindOf n == some .cell) = true then (n, NameKind.cell) else (n, k)) :: _) = _
    cases hx : x == n with
    | true =>
      have := beq_iff_eq.mp hx; subst this
      split <;> simp_all [List.lookup_cons]
    | false =>
      split <;> simp only [List.lookup_cons, hx] <;> exact ih

section
variable {X : Ctx} {sc scp : Scope} {σ : Slots} {c : Cfg} {env : Env} {fr fr' : Fm} {A : Around} {ah h h1 : AH} {s s1 : Shared} {x : Str} {k : Nat}

structure ScOk (sc : Scope) (x : Str) (k : Nat) (σ : Slots) (scp : Scope) : Prop where
  kind : scp.kind = .function
  lx : scp.names.lookup x = some .local
  slot : ∀ n i, σ.lookup n = some i → i ≠ k
  dot : σ.lookup (".0" : Str) = none
  nocell : ∀ p ∈ scp.names, p.2 ≠ .cell
  locs : ∀ p ∈ scp.names, p.2 = .local → scp.names.lookup p.1 = some .local ∧ (p.1 = x ∨ p.1 = (".0" : Str))
  free : ∀ p ∈ scp.names, p.2 = .free → sc.names.lookup p.1 = some .cell
theorem scOk_of (h : ckScope sc x k σ scp = true) : ScOk sc x k σ scp := by
  unfold ckScope at h
  simp only [Bool.and_eq_true, beq_iff_eq, Bool.not_eq_true', List.all_eq_true, List.any_eq_false, Option.isNone_iff_eq_none] at h
  obtain ⟨⟨⟨⟨⟨⟨h1, _⟩, _⟩, h4⟩, h5⟩, h6⟩, h7⟩ := h
  refine ⟨h1, h4, fun n i hn e => ?_, h6, fun p hp e => ?_, fun p hp e => ?_, fun p hp e => ?_⟩
  · have := h5 (n, i) (mem_of_lookup hn); simp [e] at this
  · have := h7 p hp; rw [e] at this; simp at this
  · have := h7 p hp; rw [e] at this; simpa using this
  · have := h7 p hp; rw [e] at this; simp at this; exact this.1.2

theorem kind_comp (hs : ScOk sc x k σ scp) (he : EnvOk sc env) {cl : List (Str × Addr)} {C : Addr} (n : Str) :
    (compEnvC scp cl C env).kindOf n = (scp.names.lookup n).map fun kd => if (kd == NameKind.free && env.scope.kind == .function && env.kindOf n == some .cell) then NameKind.cell else kd := by
  show (relabel scp env).names.lookup n = _
  exact lookup_relabel n scp.names

theorem envOk_comp (hs : ScOk sc x k σ scp) (he : EnvOk sc env) {cl : List (Str × Addr)} {C : Addr} : EnvOk scp (compEnvC scp cl C env) := by
  refine ⟨hs.kind, fun n hn => ?_, fun n hn => ?_, fun n hn => ?_, fun n hn => ?_, he.globals, he.builtins⟩
  · rw [kind_comp hs he, hn]; rfl
  · rcases hn with hn | hn
    · exact absurd rfl (hs.nocell _ (mem_of_lookup hn))
    · rw [kind_comp hs he, hn]
      simp only [Option.map_some]
      split
      · exact .inl rfl
      · exact .inr rfl
  · exact absurd rfl (hs.nocell _ (mem_of_lookup hn))
  · rw [kind_comp hs he, hn]; rfl

theorem frep_comp (hs : ScOk sc x k σ scp) (i : In X c sc σ env fr A ah s) {cl : List (Str × Addr)} {C : Addr} {m : Str → Option Value} {y : V} {v : Value}
    (h1 : ∀ n c, cl.lookup n = some c → env.cells.lookup n = some c) (h2 : ∀ n, (n, NameKind.free) ∈ scp.names → cl.lookup n = env.cells.lookup n)
    (hn : s.heap.Ns C m) (hx : m x = some v) (rv : RepV s.heap y v) (uC : ah C = none) : FRep ((x, k) :: σ) (compEnvC scp cl C env) (fr.set k (some y)) ah s.heap := by
  have kx : (compEnvC scp cl C env).kindOf x = some .local := (envOk_comp hs i.e).loc x hs.lx
  refine ⟨fun n j hl hk => ?_, fun n j hl hk => ?_, uC, fun n c e => i.f.ucel n c (h1 n c e), Heap.Ns.there hn, fun n c e => i.f.tcel n c (h1 n c e)⟩
  · rw [kind_comp hs i.e] at hk
    obtain ⟨kd, hkd, ek⟩ := Option.map_eq_some_iff.mp hk
    have hloc : kd = .local := by
      split at ek
      · cases ek
      · exact ek
    subst hloc
    rcases (hs.locs _ (mem_of_lookup hkd) rfl).2 with e | e
    · have e' : n = x := e
      subst e'
      simp only [List.lookup_cons, beq_self_eq_true] at hl
      cases hl
      refine ⟨m, hn, ?_⟩
      rw [set_get, if_pos rfl, hx]
      cases fr[k]? with
      | none => trivial
      | some _ => exact ⟨v, rfl, rv⟩
    · have e' : n = (".0" : Str) := e
      rw [List.lookup_cons] at hl
      split at hl
      · rename_i hb
        have := beq_iff_eq.mp hb
        subst this
        cases hl
        refine ⟨m, hn, ?_⟩
        rw [set_get, if_pos rfl, hx]
        cases fr[k]? with
        | none => trivial
        | some _ => exact ⟨v, rfl, rv⟩
      · rw [e', hs.dot] at hl; cases hl
  · have hfree : (n, NameKind.free) ∈ scp.names := by
      rw [kind_comp hs i.e] at hk
      cases hlk : scp.names.lookup n with
      | none => rw [hlk] at hk; simp at hk
      | some kd =>
        rw [hlk] at hk
        have hm := mem_of_lookup hlk
        have : kd = .free := by
          simp only [Option.map_some] at hk
          split at hk
          · rename_i q; simp at q; exact q.1.1
          · rcases hk with hk | hk
            · exact absurd (Option.some.inj hk) (hs.nocell _ hm)
            · exact Option.some.inj hk
        subst this; exact hm
    have hcell := hs.free _ hfree rfl
    have hne : n ≠ x := fun e => by
      subst e
      rw [kx] at hk
      rcases hk with hk | hk <;> cases hk
    have hl' : σ.lookup n = some j := by
      rw [List.lookup_cons] at hl
      split at hl
      · rename_i hb; exact absurd (beq_iff_eq.mp hb) hne
      · exact hl
    obtain ⟨cc, o, hc, hic, ro⟩ := i.f.cel n j hl' (.inl (i.e.cell n hcell).1)
    refine ⟨cc, o, (h2 n hfree).trans hc, hic, ?_⟩
    rw [set_get, if_neg (fun e => hs.slot n j hl' e.symm)]
    exact ro
end
end Mine

namespace Mine
open PySem PyProof.Rows PySem.Calls PySem.SeqAt

section
variable {X : Ctx} {sc scp : Scope} {σ : Slots} {c : Cfg} {env : Env} {fr fr' : Fm} {A : Around} {ah ah' h h1 : AH} {s s' s₀ s1 : Shared} {x : Str} {k : Nat} {P : Addr}

theorem Step.obj {o : Obj} (t : Step X ah s ah' s') (u : ah P = none) (e : s.heap.get? P = some o) (nd : ∀ es ep, o.data ≠ .dict es ep) : s'.heap.get? P = some o := by
  obtain ⟨o', e', so⟩ := t.kept P o e (by simp [u])
  rw [← so.eq nd]; exact e'
theorem Step.ns {m} (t : Step X ah s ah' s') (u : ah P = none) (n : s.heap.Ns P m) : s'.heap.Ns P m := Ns.same n (t.kept.data (by simp [u]))
theorem Step.poke {h' : Heap} {tk : Nat} (t : Step X h s₀ ah s) (hP : s₀.heap.get? P = none) (r : Rel X ah h') (kk : ∀ b o, b ≠ P → s.heap.get? b = some o → h'.get? b = some o) :
    Step X h s₀ ah { s with heap := h', toks := tk } :=
  ⟨r, fun b o e n => by obtain ⟨o', e', so⟩ := t.kept b o e n; exact ⟨o', kk b o' (fun z => by subst z; rw [hP] at e; cases e) e', so⟩, t.fresh,
   fun b o e => by obtain ⟨o', e'⟩ := t.there b o e; exact ⟨o', kk b o' (fun z => by subst z; rw [hP] at e; cases e) e'⟩, t.rest⟩

noncomputable def SC (X : Ctx) (sc : Scope) (σ : Slots) (conds : List Ex) (ifs : List PySem.Expr) : Prop :=
  ∀ c R fr K h env A s, wpC X c R conds fr K h → In X c sc σ env fr A h s →
    wpAny X.M A (forIn ifs true fun c r => if r = true then do let ok ← isTrue c env (eval c env); pure (ForInStep.yield ok) else pure (ForInStep.yield r)) (BoolPost X h s K) (ExcPost X A h s R) s
theorem sc_nil : SC X sc σ [] [] := by
  intro c R fr K h env A s w i
  unfold wpC at w
  exact wpAny_tests_nil (.pure i.r w)
theorem sc_one {e : Ex} {x : PySem.Expr} (he : ST X sc σ e x) : SC X sc σ [e] [x] := by
  intro c R fr K h env A s w i
  unfold wpC at w
  exact wpAny_tests_one (he _ _ _ _ _ _ _ _ w.2 i)

inductive CompI (X : Ctx) (h : AH) (s₀ : Shared) (I D C : Addr) (vs : List V) (Sx : Nat → Heap → Prop) (L : List V → List V → AH → Prop) (mm : Nat) (s' : Shared) : Prop
  | mk (j : Nat) (out : List V) (items : List Value) (n : Nat) (m' : Str → Option Value) (g1 : AH) (e : mm = vs.length + 1 - j) (hj : j ≤ vs.length) (ho : out.length ≤ j) (st : Step X h s₀ g1 s') (uI : g1 I = none) (uD : g1 D = none) (uC : g1 C = none) (hs : Sx j s'.heap)
    (hacc : s'.heap.get? D = some { cls := .type "list", data := .seq (List.toArray items) n }) (ro : RepVs s'.heap out items) (hn : s'.heap.Ns C m') (w : L (vs.drop j) out g1) : CompI X h s₀ I D C vs Sx L mm s'
theorem comp_loop {vs : List V} {g : Guard} {Sx : Nat → Heap → Prop} {I D C : Addr} {cl : List (Str × Addr)} {conds : List Ex} {ex : Ex} {elt iter : PySem.Expr} {ifs : List PySem.Expr} {px pos : Pos} {m : Str → Option Value} {n₀ : Nat}
    {Qc : List V → AH → Prop} {RR : Result → Shared → Prop}
    (W : It X A vs g I Sx) (hz : vs.length ≤ big) (hsc : ScOk sc x k σ scp) (h1 : ∀ n c, cl.lookup n = some c → env.cells.lookup n = some c) (h2 : ∀ n, (n, NameKind.free) ∈ scp.names → cl.lookup n = env.cells.lookup n)
    (ht : SC X scp ((x, k) :: σ) conds ifs) (he : SE X scp ((x, k) :: σ) ex elt) (i₀ : In X c sc σ env fr A h s₀)
    (hI : s₀.heap.get? I = none) (hD : s₀.heap.get? D = none) (hC : s₀.heap.get? C = none) (nID : I ≠ D) (nIC : I ≠ C) (nDC : D ≠ C)
    (st : Step X h s₀ ah s) (uI : ah I = none) (uD : ah D = none) (uC : ah C = none) (hs : Sx 0 s.heap) (hacc : s.heap.get? D = some { cls := .type "list", data := .seq (List.toArray []) n₀ }) (hn : s.heap.Ns C m)
    (w : loopC (fun v h2 K => wpC X c (fun _ _ => False) conds (fr.set k (some v)) K h2) (fun v h2 K => wpE X c (fun _ _ => False) ex (fr.set k (some v)) K h2) g vs [] ah Qc)
    (hR : ∀ out items n m' ah' s', Step X h s₀ ah' s' → ah' D = none → ah' C = none → s'.heap.get? D = some { cls := .type "list", data := .seq (List.toArray items) n } → RepVs s'.heap out items → out.length ≤ big → s'.heap.Ns C m' → Qc out ah' → RR (.ok .next) s') :
    codeAny X.M A (.compLoop (.ListComp elt [⟨.Name x px, iter, ifs, 0⟩] scp pos) 0 (.ref I) (.ref D) (compEnvC scp cl C env)) RR s := by
  have bI := base_none i₀.r hI
  have bD := base_none i₀.r hD
  have bC := base_none i₀.r hC
  have kx : (compEnvC scp cl C env).kindOf x = some .local := (envOk_comp hsc i₀.e).loc x hsc.lx
  refine codeAny_compLoop_tests (CompI X h s₀ I D C vs Sx fun l out g1 => loopC (fun v h2 K => wpC X c (fun _ _ => False) conds (fr.set k (some v)) K h2) (fun v h2 K => wpE X c (fun _ _ => False) ex (fr.set k (some v)) K h2) g l out g1 Qc) ?_ (vs.length + 1)
    ⟨0, [], [], n₀, m, ah, rfl, Nat.zero_le _, Nat.le_refl _, st, uI, uD, uC, hs, hacc, .nil, hn, w⟩
  rintro mm s' ⟨j, out, items, n, m', g1, rfl, hj, ho, st1, uI1, uD1, uC1, hs1, hacc1, ro1, hn1, w1⟩
  obtain ⟨oi, eoi, nli, ndi⟩ := W.obj j _ hs1
  by_cases hlt : j < vs.length
  · rw [List.drop_eq_getElem_cons hlt] at w1
    unfold loopC at w1
    obtain ⟨gk, w2⟩ := w1
    refine W.item j vs[j] g1 s' _ _ (by simp [hlt]) hs1 st1.rel gk fun v hp tk rv hs2 kk => ?_
    have vk : VK s'.heap hp := vk_but (I := I) (fun o e => by rw [eoi] at e; cases e; exact nli) kk
    have r2 := st1.rel.poke uI1 bI vk kk
    have st2 : Step X h s₀ g1 { s' with heap := hp, toks := tk } := st1.poke hI r2 kk
    have hn2 : hp.Ns C m' := Ns.same hn1 fun o e => ⟨o, kk C o (Ne.symm nIC) e, rfl⟩
    have hacc2 := kk D _ (Ne.symm nID) hacc1
    refine wpAny_assign_Name (wpAny_storeName_local kx hn2 (fun h3 hn3 hs3 => ?_) (by rw [(envOk_comp hsc i₀.e).kind]; rfl))
    have kk3 : ∀ b o, b ≠ C → hp.get? b = some o → h3.get? b = some o := fun b o nb e => hs3.extBut b o nb e
    have vk3 : VK hp h3 := vk_but (I := C) (fun o e l => by
      obtain ⟨o', es, ep, e', d, _⟩ := hn2
      rw [e] at e'; cases e'; exact l.notDict _ _ d) kk3
    have r3 := r2.poke (s := { s' with heap := hp, toks := tk }) uC1 bC vk3 kk3
    have st3 : Step X h s₀ g1 { s' with heap := h3, toks := tk + 1 } := st2.poke hC r3 kk3
    have hs3' : Sx (j + 1) h3 := W.frame _ _ _ hs2 (fun o e => kk3 I o nIC e) vk3
    have hacc3 := kk3 D _ nDC hacc2
    have i3 : In X c scp ((x, k) :: σ) (compEnvC scp cl C env) (fr.set k (some vs[j])) A g1 { s' with heap := h3, toks := tk + 1 } :=
      ⟨i₀.a, envOk_comp hsc i₀.e, frep_comp hsc (i₀.step st3) h1 h2 hn3 (by simp) (rv.mono vk3) uC1, r3, i₀.fs.step st3⟩
    refine wpAny_mono (ht _ _ _ _ _ _ _ _ w2 i3) (fun ok s4 ⟨g4, st4, w4⟩ => ?_) fun _ _ e => e.no
    have uI4 : g4 I = none := by obtain ⟨o, e, _⟩ := W.obj _ _ hs3'; exact st4.fresh I o e uI1
    have uD4 : g4 D = none := st4.fresh D _ hacc3 uD1
    have uC4 : g4 C = none := by obtain ⟨o, e⟩ := Heap.Ns.there hn3; exact st4.fresh C o e uC1
    have keepI : ∀ {a b : Shared} {p q : AH} {jj : Nat}, Rel X p a.heap → Step X p a q b → p I = none → Sx jj a.heap → Sx jj b.heap := fun ra t u hsx => by
      obtain ⟨o, e, _, nd⟩ := W.obj _ _ hsx
      exact W.frame _ _ _ hsx (fun o' e' => by have q := e'.symm.trans e; cases q; exact t.obj u e' nd) (t.vk ra)
    have hs4 := keepI r3 st4 uI1 hs3'
    have hacc4 := st4.obj uD1 hacc3 (by simp)
    have hn4 := st4.ns uC1 hn3
    have ro4 : RepVs s4.heap out items := (((ro1.mono vk).mono vk3).mono (st4.vk r3))
    cases ok with
    | false =>
      simp only [Bool.false_eq_true, if_false] at w4 ⊢
      exact ⟨vs.length + 1 - (j + 1), by omega, j + 1, out, items, n, _, g4, rfl, hlt, by omega, st3.trans st4, uI4, uD4, uC4, hs4, hacc4, ro4, hn4, w4⟩
    | true =>
      simp only [if_true] at w4 ⊢
      have i4 : In X c scp ((x, k) :: σ) (compEnvC scp cl C env) (fr.set k (some vs[j])) A g4 s4 := i3.step st4
      refine wpAny_mono (he _ _ _ _ _ _ _ _ w4 i4) (fun u s5 ⟨y, g5, ru, st5, w5⟩ => ?_) fun _ _ e => e.no
      have hacc5 := st5.obj uD4 hacc4 (by simp)
      have hs5 := keepI i4.r st5 uI4 hs4
      have hn5 := st5.ns uC4 hn4
      have ro5 := ro4.mono (st5.vk i4.r)
      have uI5 : g5 I = none := by obtain ⟨o, e, _⟩ := W.obj _ _ hs4; exact st5.fresh I o e uI4
      have uD5 : g5 D = none := st5.fresh D _ hacc4 uD4
      have uC5 : g5 C = none := by obtain ⟨o, e⟩ := Heap.Ns.there hn4; exact st5.fresh C o e uC4
      refine wpAny_list_append_plain (items := items.toArray) ⟨n, hacc5⟩ (fun h6 hl6 hs6 => ?_) (by rw [List.size_toArray, ro5.length]; unfold big at hz; rw [sizeLine_eq]; omega)
      have kk6 : ∀ b o, b ≠ D → s5.heap.get? b = some o → h6.get? b = some o := fun b o nb e => hs6.extBut b o nb e
      have vk6 : VK s5.heap h6 := vk_but (I := D) (fun o e l => by
        rw [hacc5] at e; cases e
        rcases l with ⟨q, _⟩ | ⟨⟨C, q⟩, _⟩ <;> simp at q) kk6
      have r6 := st5.rel.poke uD5 bD vk6 kk6
      obtain ⟨n', hg⟩ := hl6
      refine ⟨vs.length + 1 - (j + 1), by omega, j + 1, out ++ [y], items ++ [u], n', _, g5, rfl, hlt, by simp; omega, ((st3.trans st4).trans st5).poke (tk := s5.toks) hD r6 kk6, uI5, uD5, uC5,
        W.frame _ _ _ hs5 (fun o e => kk6 I o nID e) vk6, by simpa using hg, (ro5.mono vk6).append (.cons (ru.mono vk6) .nil), Ns.same hn5 fun o e => ⟨o, kk6 C o (Ne.symm nDC) e, rfl⟩, w5⟩
  · have hj' : j = vs.length := by omega
    subst hj'
    rw [List.drop_length] at w1
    unfold loopC at w1
    obtain ⟨gk, q⟩ := w1
    refine W.done g1 s' _ _ hs1 st1.rel gk fun hp tk kk => ?_
    have vk : VK s'.heap hp := vk_but (I := I) (fun o e => by rw [eoi] at e; cases e; exact nli) kk
    have r2 := st1.rel.poke uI1 bI vk kk
    exact hR out items n m' g1 _ (st1.poke hI r2 kk) uD1 uC1 (kk D _ (Ne.symm nID) hacc1) (ro1.mono vk) (Nat.le_trans ho hz) (Ns.same hn1 fun o e => ⟨o, kk C o (Ne.symm nIC) e, rfl⟩) q
end
end Mine

namespace Mine
open PySem PyProof.Rows PySem.Calls PySem.SeqAt

section
variable {X : Ctx} {sc scp : Scope} {σ : Slots} {c : Cfg} {env : Env} {fr fr' : Fm} {A : Around} {ah ah' h h1 : AH} {s s' s₀ s1 : Shared} {x : Str} {k : Nat} {P D : Addr}

theorem Step.track {o : O} (t : Step X h s₀ ah s) (r₀ : Rel X h s₀.heap) (hD : s₀.heap.get? D = none) (ho : RepO X.prog X.w s.heap D o) : Step X h s₀ (ah.put D o) s :=
  ⟨⟨t.rel.base, fun a ob q => by
      unfold AH.put at q
      split at q
      · rename_i e; subst e; cases q; exact ho
      · exact t.rel.rep a ob q,
    fun a ob q => by
      unfold AH.put at q
      split at q
      · rename_i e; subst e; exact .inr (base_none r₀ hD)
      · exact t.rel.own a ob q⟩, t.kept, fun b ob e q => by
        unfold AH.put
        split
        · rename_i z; subst z; rw [hD] at e; cases e
        · exact t.fresh b ob e q, t.there, t.rest⟩

/-- what a comprehension makes, behind its loop -/
inductive CompEnd (X : Ctx) (h : AH) (s₀ : Shared) (C : Addr) (Qc : List V → AH → Prop) (v : Value) (s' : Shared) : Prop
  | mk (D : Addr) (out : List V) (items : List Value) (n : Nat) (m : Str → Option Value) (ah' : AH) (e : v = .ref D) (st : Step X h s₀ ah' s') (nD : s₀.heap.get? D = none) (nDC : D ≠ C) (uD : ah' D = none) (uC : ah' C = none) (nC : s₀.heap.get? C = none)
    (hd : s'.heap.get? D = some { cls := .type "list", data := .seq (List.toArray items) n }) (ro : RepVs s'.heap out items) (z : out.length ≤ big) (hn : s'.heap.Ns C m) (q : Qc out ah') : CompEnd X h s₀ C Qc v s'

theorem comp_head {src ex : Ex} {conds : List Ex} {elt iter : PySem.Expr} {ifs : List PySem.Expr} {px pos p0 : Pos} {use : Option (Value → Sem Unit)} {R : RX} {Qc : List V → AH → Prop} {QQ : Value → Shared → Prop} {E : Value → Shared → Prop} {s : Shared}
    (hsc : ScOk sc x k σ scp) (hsrc : SI X sc σ src iter) (hp : plainE iter = true) (ht : SC X scp ((x, k) :: σ) conds ifs) (he : SE X scp ((x, k) :: σ) ex elt)
    (i : In X c sc σ env fr A h s) (hh : A.handled = none)
    (w : wpI X c R src (wpE X c R src fr) fr (fun vs g h1 => loopC (fun v h2 K => wpC X c (fun _ _ => False) conds (fr.set k (some v)) K h2) (fun v h2 K => wpE X c (fun _ _ => False) ex (fr.set k (some v)) K h2) g vs [] h1 Qc) h)
    (hE : ∀ e s', ExcPost X A h s R e s' → E e s')
    (hend : ∀ C v s', CompEnd X h s C Qc v s' → compPost X.M A E use QQ v C (.ok .next) s') :
    wpAny X.M A (comprehension (.ListComp elt [⟨.Name x px, iter, ifs, 0⟩] scp pos) scp env p0 (newList []) false (eval iter env) use) QQ E s := by
  obtain ⟨cl, hclos, c1, c2⟩ := closure_ok (env := env) (scope := scp) fun p hp' hf => by
    obtain ⟨_, hc⟩ := i.e.cell _ (hsc.free p hp' hf); exact hc
  refine wpAny_comprehension_free (g := ⟨.Name x px, iter, ifs, 0⟩) (gs := []) rfl (foldedSet_plain hp) hclos hsc.kind (fun y hy hl => (hsc.locs y hy hl).1)
    (wpAny_mono (hsrc _ _ _ _ _ _ _ _ w i hh) (fun xv s1 h1 => wpAny_mono h1 (fun it s2 hi => ?_) hE) hE)
  obtain ⟨I, Sx, vs, g, h1, rfl, W, hs, hI, uI, st, hz, w1⟩ := hi
  refine wpAny_newList ?_ (by simp)
  have hD2 := size_none (Nat.le_refl s2.heap.objs.size)
  have r3 : Rel X h1 (s2.heap.push { cls := .type "list", data := .seq ([] : List Value).toArray }) := (Step.keeps (s' := { s2 with heap := s2.heap.push { cls := .type "list", data := .seq ([] : List Value).toArray } }) st.rel (fun b o e => Heap.get?_push_of_some _ e) ⟨rfl, rfl, rfl⟩).rel
  have st3 : Step X h s h1 { s2 with heap := s2.heap.push { cls := .type "list", data := .seq ([] : List Value).toArray } } := st.trans (Step.keeps st.rel (fun b o e => Heap.get?_push_of_some _ e) ⟨rfl, rfl, rfl⟩)
  refine wpAny_newFunctionEnv hsc.nocell (by intro y hy; cases hy) (fun h4 hn4 hs4 => ?_) hsc.kind
  have eC : (s2.heap.push { cls := .type "list", data := .seq ([] : List Value).toArray }).objs.size = s2.heap.objs.size + 1 := Heap.size_push ..
  generalize hCdef : (s2.heap.push { cls := .type "list", data := .seq ([] : List Value).toArray }).objs.size = C at *
  have hC3 : (s2.heap.push { cls := .type "list", data := .seq ([] : List Value).toArray }).get? C = none := size_none (Nat.le_of_eq hCdef)
  have kk4 : ∀ b o, (s2.heap.push { cls := .type "list", data := .seq ([] : List Value).toArray }).get? b = some o → h4.get? b = some o := fun b o e =>
    hs4.extBut b o (Nat.ne_of_lt (hCdef ▸ Heap.lt_size e)) (Heap.get?_push_of_some _ e)
  have st4 : Step X h s h1 { s2 with heap := h4, toks := s2.toks + ([] : List (Str × Value)).length } := st3.trans (Step.keeps r3 kk4 ⟨rfl, rfl, rfl⟩)
  have hI2 : ∃ o, s2.heap.get? I = some o := by obtain ⟨o, e, _⟩ := W.obj _ _ hs; exact ⟨o, e⟩
  have nID : I ≠ s2.heap.objs.size := by obtain ⟨o, e⟩ := hI2; exact Nat.ne_of_lt (Heap.lt_size e)
  have nIC : I ≠ C := by obtain ⟨o, e⟩ := hI2; rw [eC]; exact Nat.ne_of_lt (Nat.lt_succ_of_lt (Heap.lt_size e))
  have nDC : s2.heap.objs.size ≠ C := by rw [eC]; exact Nat.ne_of_lt (Nat.lt_succ_self _)
  have uD : h1 s2.heap.objs.size = none := st.rel.none_of_new hD2
  have uC : h1 C = none := st3.rel.none_of_new hC3
  have hD0 : s.heap.get? s2.heap.objs.size = none := st.fresh_none hD2
  have hC0 : s.heap.get? C = none := st3.fresh_none hC3
  have hs4' : Sx 0 h4 := W.frame _ _ _ hs (fun o e => kk4 _ _ (Heap.get?_push_of_some _ e)) (.of_keeps fun b o e => kk4 _ _ (Heap.get?_push_of_some _ e))
  have loop : codeAny X.M A (.compLoop (.ListComp elt [⟨.Name x px, iter, ifs, 0⟩] scp pos) 0 (.ref I) (.ref s2.heap.objs.size) (compEnvC scp cl C env)) (compPost X.M A E use QQ (.ref s2.heap.objs.size) C) { s2 with heap := h4, toks := s2.toks + ([] : List (Str × Value)).length } :=
    comp_loop (n₀ := 0) W hz hsc c1 c2 ht he i hI hD0 hC0 nID nIC nDC st4 uI uD uC hs4' (kk4 _ _ (Heap.get?_push_size _ rfl)) hn4 w1
      fun out items n m' ah' s' stt ud uc hg ro hzo hnn q => hend C _ s' ⟨_, out, items, n, m', ah', rfl, stt, hD0, nDC, ud, uc, hC0, hg, ro, hzo, hnn, q⟩
  exact codeAny_compStart_list loop (W.self 0 _ _ _ hs4' loop)

theorem ns_vk {hp h' : Heap} {C : Addr} {m} (n : hp.Ns C m) (kk : ∀ b o, b ≠ C → hp.get? b = some o → h'.get? b = some o) : VK hp h' := vk_but (I := C) (fun o e l => by
  obtain ⟨o', es, ep, e', d, _⟩ := n
  rw [e] at e'; cases e'; exact l.notDict _ _ d) kk

theorem CompEnd.val {C : Addr} {Q : V → AH → Prop} {v : Value} {h' : Heap} (r₀ : Rel X h s₀.heap) (e : CompEnd X h s₀ C (fun out h2 => newP (.list out) h2 Q) v s') (hs : Heap.SameBut C s'.heap h') :
    ValPost X h s₀ Q v { s' with heap := h' } := by
  obtain ⟨D, out, items, n, m, ah', rfl, st, hD, nDC, ud, uc, hC, hg, ro, hz, hn, q⟩ := e
  have kk : ∀ b o, b ≠ C → s'.heap.get? b = some o → h'.get? b = some o := fun b o nb e => hs.extBut b o nb e
  have vk := ns_vk hn kk
  have r := st.rel.poke uc (base_none r₀ hC) vk kk
  have st' : Step X h s₀ ah' { s' with heap := h', toks := s'.toks } := st.poke hC r kk
  exact ⟨.ref D, _, rep_ref, st'.track r₀ hD (o := .list out) ⟨n, items, kk D _ nDC hg, ro.mono vk, hz⟩, q D ud⟩

theorem se_comp {src ex : Ex} {conds : List Ex} {elt iter : PySem.Expr} {ifs : List PySem.Expr} {px pos : Pos} (hsc : ScOk sc x k σ scp) (hsrc : SI X sc σ src iter) (hp : plainE iter = true) (ht : SC X scp ((x, k) :: σ) conds ifs) (he : SE X scp ((x, k) :: σ) ex elt) :
    SE X sc σ (.comp k src conds ex) (.ListComp elt [⟨.Name x px, iter, ifs, 0⟩] scp pos) := by
  intro c R fr Q h env A s w i
  dsimp only [wpE] at w
  obtain ⟨hh, w⟩ := w
  rw [eval_ListComp]
  exact comp_head (use := none) hsc hsrc hp ht he i (i.a.handled hh) w (fun _ _ e => e) fun C v s' ce => by
    obtain ⟨D, out, items, n, m, ah', rfl, _, _, _, _, _, _, _, _, _, hn, _⟩ := id ce
    exact ⟨m, hn, fun h' hs' => ce.val i.r hs'⟩
end
end Mine

namespace Mine
open PySem PyProof.Rows PySem.Calls PySem.SeqAt

theorem lookup_zip {α : Type} : ∀ {ns : List Str} {vs : List α} {n : Str}, ns.length = vs.length → n ∈ ns → ((ns.zip vs).lookup n).isSome = true
  | [], _, _, _, h => by cases h
  | a :: ns, [], _, h, _ => by simp at h
  | a :: ns, v :: vs, n, hl, h => by
    rw [List.zip_cons_cons, List.lookup_cons]
    cases hb : n == a with
    | true => rfl
    | false =>
      cases h with
      | head => simp at hb
      | tail _ h => exact lookup_zip (by simpa using hl) h
theorem filterMap_zip {α : Type} : ∀ {ns : List Str} {vs : List α}, ns.length = vs.length → ns.Nodup → (ns.filterMap fun n => ((ns.zip vs).lookup n).map (n, ·)) = ns.zip vs
  | [], _, _, _ => by simp
  | a :: ns, [], h, _ => by simp at h
  | a :: ns, v :: vs, hl, hn => by
    have hn' := List.nodup_cons.mp hn
    rw [List.filterMap_cons]
    have e1 : ((a :: ns).zip (v :: vs)).lookup a = some v := by simp [List.lookup_cons]
    rw [e1]
    simp only [Option.map_some, List.zip_cons_cons]
    congr 1
    have key : ∀ (l : List Str), (∀ n ∈ l, n ≠ a) → (l.filterMap fun n => (((a, v) :: ns.zip vs).lookup n).map (n, ·)) = l.filterMap fun n => ((ns.zip vs).lookup n).map (n, ·) := by
      intro l
      induction l with
      | nil => intro _; rfl
      | cons b l ih =>
        intro hb
        rw [List.filterMap_cons, List.filterMap_cons, ih fun n hn => hb n (.tail _ hn), List.lookup_cons]
        have : (b == a) = false := by simpa using hb b (.head _)
        rw [this]
    rw [key ns fun n hm e => hn'.1 (e ▸ hm)]
    exact filterMap_zip (by simpa using hl) hn'.2

/-- plain parameters, as many values -/
structure PlainP (fd : FuncData) (ns : List Str) : Prop where
  po : fd.params.posonlyargs = []
  as : fd.params.args.map (·.arg) = ns
  va : fd.params.vararg = none
  ko : fd.params.kwonlyargs = []
  kw : fd.params.kwarg = none
  df : fd.defaults = .none
  nd : ns.Nodup
theorem ite_go {α : Type} {c : Prop} [Decidable c] {a b d : Sem α} (h : ¬ c) (e : b = d) : (if c then a else b) = d := by rw [if_neg h]; exact e
theorem bind_core {fd : FuncData} {ns : List Str} {vals : List Value} (p : PlainP fd ns) (h1 : ¬ ((decide (vals.length > ns.length) && true) = true)) (h2 : ((ns.take ns.length).filter fun n => ((ns.zip vals).lookup n).isNone) = [])
    (h3 : (ns.filterMap fun n => ((ns.zip vals).lookup n).map (n, ·)) = ns.zip vals) : bindArgs fd ⟨vals, []⟩ = pure (ns.zip vals) := by
  obtain ⟨po, as, va, ko, kw, df, nd⟩ := p
  obtain ⟨nm, qn, params, body, scope, gl, cl, dfs, kwd, doc, pym, ann, code, ct, bl⟩ := fd
  obtain ⟨poa, as', va', ko', kd, kw', dfl⟩ := params
  dsimp only at po as va ko kw df
  subst po as va ko kw df
  refine ite_go h1 ?_
  have e0 : ∀ k, List.drop k ((none : Option (Array Value)).getD #[]).toList = [] := fun k => List.drop_nil
  rw [e0]
  refine ite_go (c := (!(((as'.map (·.arg)).take ((as'.map (·.arg)).length)).filter fun n => (((as'.map (·.arg)).zip vals).lookup n).isNone).isEmpty) = true) (by rw [h2]; decide) ?_
  have e1 : ∀ k, List.zip k ([] : List Value) = ([] : List (Str × Value)) := fun k => List.zip_nil_right
  rw [e1]
  exact congrArg (fun x => (pure x : Sem (List (Str × Value)))) ((congrArg (List.filterMap _) (List.append_nil _)).trans h3)
theorem bind_plain {fd : FuncData} {ns : List Str} {vals : List Value} (p : PlainP fd ns) (hl : vals.length = ns.length) : bindArgs fd ⟨vals, []⟩ = pure (ns.zip vals) := by
  refine bind_core p (by simp; omega) ?_ (filterMap_zip (vs := vals) (ns := ns) (by omega) p.nd)
  rw [List.filter_eq_nil_iff]
  intro n hn
  have hm : n ∈ ns := List.mem_of_mem_take hn
  have := lookup_zip (vs := vals) (by omega) hm
  cases hlk : (ns.zip vals).lookup n with
  | none => rw [hlk] at this; cases this
  | some _ => simp
end Mine

namespace Mine
open PySem PyProof.Rows PySem.Calls PySem.SeqAt

theorem bindL_spec {kf : Str → Option NameKind} : ∀ {binds : List (Str × Value)} {m : Str → Option Value} {n : Str}, (binds.map (·.1)).Nodup →
    bindL kf binds m n = if kf n = some .local then (binds.lookup n).or (m n) else m n
  | [], m, n, _ => by simp [bindL]
  | (k, v) :: r, m, n, hn => by
    have hn' := List.nodup_cons.mp hn
    rw [bindL, bindL_spec hn'.2, List.lookup_cons]
    by_cases e : n = k
    · subst e
      have hr : r.lookup n = none := by
        cases h : r.lookup n with
        | none => rfl
        | some v => exact absurd (List.mem_map.mpr ⟨_, mem_of_lookup h, rfl⟩) hn'.1
      by_cases hl : kf n = some .local <;> simp [hl, hr]
    · have hb : (n == k) = false := by simpa using e
      by_cases hl : kf n = some .local <;> by_cases hk : kf k = some .local <;> simp [hl, hk, hb, e]
theorem bindC_spec {kf : Str → Option NameKind} : ∀ {binds : List (Str × Value)} {m : Str → Option Value} {n : Str}, (binds.map (·.1)).Nodup →
    bindC kf binds m n = if kf n = some .local then m n else (binds.lookup n).or (m n)
  | [], m, n, _ => by simp [bindC]
  | (k, v) :: r, m, n, hn => by
    have hn' := List.nodup_cons.mp hn
    rw [bindC, bindC_spec hn'.2, List.lookup_cons]
    by_cases e : n = k
    · subst e
      have hr : r.lookup n = none := by
        cases h : r.lookup n with
        | none => rfl
        | some v => exact absurd (List.mem_map.mpr ⟨_, mem_of_lookup h, rfl⟩) hn'.1
      by_cases hl : kf n = some .local <;> simp [hl, hr]
    · have hb : (n == k) = false := by simpa using e
      by_cases hl : kf n = some .local <;> by_cases hk : kf k = some .local <;> simp [hl, hk, hb, e]
theorem cellsFrom_some {n : Str} : ∀ {names : List (Str × NameKind)} {k : Nat} {acc : List (Str × Addr)}, (n, NameKind.cell) ∈ names ∨ (acc.lookup n).isSome = true → ((cellsFrom k names acc).lookup n).isSome = true
  | [], k, acc, h => by
    rcases h with h | h
    · cases h
    · exact h
  | (a, kd) :: r, k, acc, h => by
    unfold cellsFrom
    split
    · refine cellsFrom_some ?_
      rcases h with h | h
      · cases h with
        | head => right; simp
        | tail _ h => left; exact h
      · right
        rw [List.lookup_cons]
        split
        · rfl
        · exact h
    · rename_i hk
      refine cellsFrom_some ?_
      rcases h with h | h
      · cases h with
        | head => simp at hk
        | tail _ h => left; exact h
      · right; exact h

structure Fn where
  params : List Str
  σ : Slots
  n : Nat
  body : List St
noncomputable def Fn.init (F : Fn) (args : List V) : Fm := args.map some ++ List.replicate (F.n - args.length) none

structure FnOk (X : Ctx) (fd : FuncData) (F : Fn) : Prop where
  plain : PlainP fd F.params
  clo : fd.closure = []
  gl : fd.globals = mainGlobals
  bl : fd.builtins = builtinsNs
  kind : fd.scope.kind = .function
  co : fd.scope.isCoroutine = false
  gen : fd.scope.isGenerator = false
  ps : ∀ i p, F.params[i]? = some p → F.σ.lookup p = some i
  inj : ∀ n n' i, F.σ.lookup n = some i → F.σ.lookup n' = some i → n = n'
  kinds : ∀ n i, F.σ.lookup n = some i → fd.scope.names.lookup n = some .local ∨ fd.scope.names.lookup n = some .cell
  body : ∃ b, fd.body = .stmts b ∧ SSs X fd.scope F.σ F.body b

theorem zip_lookup {ns : List Str} {vs : List Value} (hn : ns.Nodup) : ∀ {i : Nat} {p : Str} {v : Value}, ns[i]? = some p → vs[i]? = some v → (ns.zip vs).lookup p = some v := by
  induction ns generalizing vs with
  | nil => intro i p v h; simp at h
  | cons a ns ih =>
    have hn' := List.nodup_cons.mp hn
    intro i p v hp hv
    cases vs with
    | nil => simp at hv
    | cons u vs =>
      rw [List.zip_cons_cons, List.lookup_cons]
      cases i with
      | zero => simp at hp hv; subst hp hv; simp
      | succ i =>
        simp at hp hv
        have : (p == a) = false := by simp; intro e; subst e; exact hn'.1 (List.mem_of_getElem? hp)
        rw [this]
        exact ih hn'.2 hp hv
theorem zip_lookup_none {ns : List Str} {vs : List Value} {n : Str} (h : n ∉ ns) : (ns.zip vs).lookup n = none := by
  cases e : (ns.zip vs).lookup n with
  | none => rfl
  | some v => exact absurd (List.of_mem_zip (mem_of_lookup e)).1 h

section
variable {X : Ctx} {k : Nat} {f : Str} {args : List V} {h : AH} {Q : V → AH → Prop} {R : Addr → AH → Prop} {fd : FuncData} {F : Fn} {fa : Addr} {o : Obj}

theorem call_intro (G : X.Good) (hfa : X.fa f = some fa) (ho : X.base.get? fa = some o) (hd : o.data = .func fd) (hcode : X.base.CodeRec fd.code fd.qualname) (ok : FnOk X fd F) (hlen : args.length = F.params.length)
    (w : wpSs X ⟨k, true⟩ F.body (fun out _ h' => match out with | .next => Q .none h' | .ret v => Q v h') (fun C _ h' => R C h') (F.init args) h) : X.Call (k + 1) f args h Q R := by
  refine ⟨fa, hfa, fun A s vals oA fs r rv => ?_⟩
  have hvl := rv.length
  obtain ⟨b, hb, hss⟩ := ok.body
  have hnd : ((F.params.zip vals).map (·.1)).Nodup := by
    rw [List.map_fst_zip (by omega)]; exact ok.plain.nd
  have kp : ∀ p ∈ F.params, fd.scope.names.lookup p = some .local ∨ fd.scope.names.lookup p = some .cell := fun p hp => by
    obtain ⟨i, hi⟩ := List.getElem?_of_mem hp
    exact ok.kinds p i (ok.ps i p hi)
  refine codeAny_call_cells (binds := F.params.zip vals) (by have := oA.depth; unfold recursionLimit; omega) (r.base _ _ ho) hd (G.lim.keeps r.base) (hcode.keeps r.base) hb (bind_plain ok.plain (by omega)) ok.clo
    (fun x hx => ?_) (fun s₁ ic => ?_) ok.co ok.gen ok.kind
  · rcases kp x.1 (List.of_mem_zip (b := x.2) hx).1 with q | q
    · exact .inl q
    · exact .inr ⟨q, cellsFrom_some (.inl (mem_of_lookup q))⟩
  · obtain ⟨h₁, tk, es⟩ := ic.toInCall.same
    have kk : ∀ b o, s.heap.get? b = some o → s₁.heap.get? b = some o := ic.toInCall.keep
    have stp : Step X h s h s₁ := Step.keeps r kk (by subst es; exact ⟨rfl, rfl, rfl⟩)
    have hL : s.heap.objs.size ≤ (callEnvC fd s.heap.objs.size fa).locals := ic.toInCall.fresh
    have newL : s.heap.get? (callEnvC fd s.heap.objs.size fa).locals = none := size_none hL
    have newC : ∀ n c, (callEnvC fd s.heap.objs.size fa).cells.lookup n = some c → s.heap.get? c = none := fun n c e => size_none (Nat.le_trans hL (Nat.le_of_lt (ic.above n c (mem_of_lookup e))))
    have newOwn : ∀ a, Own (callEnvC fd s.heap.objs.size fa) a → s.heap.get? a = none := by
      rintro a (q | ⟨n, q⟩)
      · rw [q]; exact newL
      · exact newC n a q
    have kindE : ∀ n, (callEnvC fd s.heap.objs.size fa).kindOf n = fd.scope.names.lookup n := fun n => rfl
    have rv1 := rv.mono (stp.vk r)
    have slotOf : ∀ n i, F.σ.lookup n = some i → (∃ v x, (F.params.zip vals).lookup n = some v ∧ (F.init args)[i]? = some (some x) ∧ RepV s₁.heap x v) ∨ ((F.params.zip vals).lookup n = none ∧ ((F.init args)[i]? = some none ∨ (F.init args)[i]? = none)) := fun n i hn => by
      by_cases hi : i < F.params.length
      · have hp : F.params[i]? = some F.params[i] := by simp [hi]
        have e : n = F.params[i] := ok.inj _ _ i hn (ok.ps i _ hp)
        have hx : args[i]? = some (args[i]'(by omega)) := by simp [show i < args.length by omega]
        obtain ⟨v, hv, rvv⟩ := rv1.get hx
        left
        refine ⟨v, _, ?_, ?_, rvv⟩
        · rw [e]; exact zip_lookup ok.plain.nd hp hv
        · unfold Fn.init
          rw [List.getElem?_append_left (by simp; omega)]
          simp [show i < args.length by omega]
      · right
        refine ⟨zip_lookup_none fun hm => ?_, ?_⟩
        · obtain ⟨j, hj⟩ := List.getElem?_of_mem hm
          have := ok.ps j n hj
          rw [hn] at this; cases this
          exact hi (List.getElem?_eq_some_iff.mp hj).1
        · unfold Fn.init
          rw [List.getElem?_append_right (by simp; omega)]
          cases hq : (List.replicate (F.n - args.length) (none : Option V))[i - (args.map some).length]? with
          | none => exact .inr rfl
          | some z => left; have := List.mem_of_getElem? hq; rw [List.mem_replicate] at this; rw [this.2]
    have opt : ∀ n i, F.σ.lookup n = some i → RepOpt s₁.heap (F.init args)[i]? ((F.params.zip vals).lookup n) := fun n i hn => by
      rcases slotOf n i hn with ⟨v, x, e1, e2, rvv⟩ | ⟨e1, e2 | e2⟩
      · rw [e1, e2]; exact ⟨v, rfl, rvv⟩
      · rw [e1, e2]; exact trivial
      · rw [e1, e2]; trivial
    have sr : SRep F.σ (callEnvC fd s.heap.objs.size fa) (F.init args) h s₁.heap := by
      refine ⟨⟨_, ic.toInCall.ns, fun n i hn hk => ?_⟩, ⟨_, ic.cell, fun n i hn hk => ⟨Option.isSome_iff_exists.mp (cellsFrom_some (.inl (mem_of_lookup hk))), ?_⟩⟩, ic.apart, ic.above, r.none_of_new newL, fun n c e => r.none_of_new (newC n c e), ok.kinds, ok.inj⟩
      · rw [bindL_spec hnd, if_pos hk]
        simpa using opt n i hn
      · rw [bindC_spec hnd, if_neg (by rw [hk]; decide)]
        simpa using opt n i hn
    have ei : EnvOk fd.scope (callEnvC fd s.heap.objs.size fa) := ⟨ok.kind, fun n e => e, fun n e => e, fun n e => ⟨e, Option.isSome_iff_exists.mp (cellsFrom_some (.inl (mem_of_lookup e)))⟩, fun n e => e, ok.gl, ok.bl⟩
    have oA' : OkA ⟨k, true⟩ (A.deeper (callEnvC fd s.heap.objs.size fa)) := ⟨fun _ => oA.handled rfl, by have := oA.depth; show A.depth + 1 + k < 1000; simp only at this; omega, by have := oA.units; show A.units + 3 + 10 * k < 9000; simp only at this; omega⟩
    have fr' : Frs X (A.deeper (callEnvC fd s.heap.objs.size fa)) h s₁.heap := by
      obtain ⟨l, hl, q⟩ := fs.step stp
      refine ⟨_, Around.frames_deeper hl, fun e he => ?_⟩
      rcases List.mem_cons.mp he with rfl | he
      · obtain ⟨m, ⟨o', es', ep', e', d', _⟩, _⟩ := sr.ns
        exact ⟨by rw [ei.kind]; decide, _, o', rfl, base_none r newL, e', ⟨es', ep', d'⟩, sr.uloc⟩
      · exact q e he
    obtain ⟨l, hl, _⟩ := fs
    have inn : InS X ⟨k, true⟩ fd.scope F.σ (callEnvC fd s.heap.objs.size fa) (F.init args) (A.deeper (callEnvC fd s.heap.objs.size fa)) h s₁ := ⟨oA', ei, sr, stp.rel, fun a q => base_none r (newOwn a q), fr', rfl, l, Around.frames_deeper hl⟩
    have stf : ∀ {h' s'}, StepF X (callEnvC fd s.heap.objs.size fa) h s₁ h' s' → Step X h s h' s' := fun {h' s'} st' => by
      refine ⟨st'.rel, fun b o e n => ?_, fun b o e n => st'.fresh b o (kk b o e) n, fun b o e => st'.there b o (kk b o e), st'.rest.1.trans stp.rest.1, st'.rest.2.1.trans stp.rest.2.1, st'.rest.2.2.trans stp.rest.2.2⟩
      refine st'.kept b o (kk b o e) ?_
      rintro (z | z)
      · exact n z
      · have := newOwn b z; rw [e] at this; cases this
    refine wpAny_mono (hss _ _ _ _ _ _ _ _ w inn) (fun fl s' ⟨out, fr', h', ro, st', f', q⟩ => ?_) fun e s' p => p.left inn fun a C fr' ah' h2 ea na fly hC st' q =>
      ⟨C, ah', ⟨a, _, ea, none_back (fun b o e => ⟨o, kk b o e⟩) na, fly.back fun b o e => ⟨o, kk b o e⟩, hC, .inr (.inl rfl)⟩, stf st', q⟩
    replace stf := stf st'
    cases out with
    | next =>
      cases fl <;> simp only [OutRep] at ro
      exact ⟨.none, h', rep_none, stf, q⟩
    | ret x =>
      cases fl <;> simp only [OutRep] at ro
      exact ⟨x, h', ro, stf, q⟩
end
end Mine

namespace Mine
open PySem PyProof.Rows PySem.Calls PySem.SeqAt

section
variable {X : Ctx} {sc scp : Scope} {σ : Slots} {c : Cfg} {env : Env} {fr fr' : Fm} {A : Around} {ah ah' h h1 : AH} {s s' s₀ s1 : Shared} {x : Str} {k : Nat} {P D : Addr}

theorem ss_assign {e : Ex} {v : PySem.Expr} {n : Str} {px pos : Pos} (hx : SE X sc σ e v) (hn : σ.lookup n = some k) (hsw : ∀ env, swapsWith v (some (.Name n px)) pos.line env = pure false) : SS X sc σ (.assign k e) (.Assign [.Name n px] v pos) := by
  intro c Q R fr h env A s w i
  dsimp only [wpS] at w
  refine wpAny_Assign_Name (wpAny_mono (hx _ _ _ _ _ _ _ _ w i.inE) (fun u s1 ⟨y, h1, rv, st, w1⟩ => ?_) fun _ _ e => e.toS i.r i.f) (hsw env)
  have i1 := i.step st
  exact store_ok i1 hn rv fun s' st' f' => ⟨.next, _, h1, trivial, st.toF.trans st', f', w1⟩

theorem ss_assign_comp {src ex : Ex} {conds : List Ex} {elt iter : PySem.Expr} {ifs : List PySem.Expr} {px pos py spos : Pos} {n : Str} {j : Nat} (hn : σ.lookup n = some j)
    (hsc : ScOk sc x k σ scp) (hsrc : SI X sc σ src iter) (hp : plainE iter = true) (ht : SC X scp ((x, k) :: σ) conds ifs) (he : SE X scp ((x, k) :: σ) ex elt) :
    SS X sc σ (.assign j (.comp k src conds ex)) (.Assign [.Name n py] (.ListComp elt [⟨.Name x px, iter, ifs, 0⟩] scp pos) spos) := by
  intro c Q R fr h env A s w i
  have hb : ∃ b, swapsWith (.ListComp elt [⟨.Name x px, iter, ifs, 0⟩] scp pos) (some (.Name n py)) spos.line env = pure b := ⟨_, rfl⟩
  obtain ⟨b, hb⟩ := hb
  cases b
  · dsimp only [wpS] at w
    refine wpAny_Assign_Name (wpAny_mono (se_comp hsc hsrc hp ht he _ _ _ _ _ _ _ _ w i.inE) (fun u s1 ⟨y, h1, rv, st, w1⟩ => ?_) fun _ _ e => e.toS i.r i.f) hb
    have i1 := i.step st
    exact store_ok i1 hn rv fun s' st' f' => ⟨.next, _, h1, trivial, st.toF.trans st', f', w1⟩
  · rw [exec_Assign_Name_used _ _ _ _ hb]
    refine wpAny_bind (wpAny_standAt (wpAny_bind ?_))
    show wpAny _ A (do let _ ← comprehension (.ListComp elt [⟨.Name x px, iter, ifs, 0⟩] scp pos) scp env _ (newList []) false (eval iter env) (some (assign (.Name n py) env))) _ _ s
    dsimp only [wpS] at w
    dsimp only [wpE] at w
    obtain ⟨hh, w⟩ := w
    refine wpAny_bind (comp_head (use := some (assign (.Name n py) env)) hsc hsrc hp ht he i.inE (i.a.handled hh) w (fun _ _ e => e.toS i.r i.f) fun C v s' ce => ?_)
    obtain ⟨D, out, items, nn, m, ah', rfl, st, hD, nDC, ud, uc, hC, hg, ro, hz, hm, q⟩ := ce
    have st1 := st.track i.r hD (o := .list out) ⟨nn, items, hg, ro, hz⟩
    have i1 := i.step st1
    refine wpAny_assign_Name (store_ok i1 hn rep_ref fun s2 st2 f2 => ?_)
    have oC : ¬ Own env C := own_of i.f hC
    have ucp : (ah'.put D (.list out)) C = none := by unfold AH.put; rw [if_neg (Ne.symm nDC)]; exact uc
    have hm2 : s2.heap.Ns C m := Ns.same hm (st2.kept.data (by rintro (z | z); exact z ucp; exact oC z))
    refine ⟨m, hm2, fun h3 hs3 => wpAny_pure (wpAny_pure ?_)⟩
    have kk : ∀ b o, b ≠ C → s2.heap.get? b = some o → h3.get? b = some o := fun b o nb e => hs3.extBut b o nb e
    have vk := ns_vk hm2 kk
    have r3 := st2.rel.poke ucp (base_none i.r hC) vk kk
    have st3 : StepF X env h s _ { s2 with heap := h3, toks := s2.toks } := (st1.toF.trans st2).poke hC r3 kk
    exact ⟨.next, _, _, trivial, st3, f2.poke oC vk kk, q D ud⟩

theorem ss_expr {e : Ex} {v : PySem.Expr} {pos : Pos} (hx : SE X sc σ e v) (hsw : ∀ env, swapsWith v none pos.line env = pure false) : SS X sc σ (.expr e) (.Expr v pos) := by
  intro c Q R fr h env A s w i
  dsimp only [wpS] at w
  refine wpAny_Expr_any (wpAny_mono (hx _ _ _ _ _ _ _ _ w i.inE) (fun u s1 ⟨y, h1, rv, st, w1⟩ => ?_) fun _ _ e => e.toS i.r i.f) (by unfold interactive; rw [i.e.kind]; rfl) (hsw env)
  exact ⟨.next, fr, h1, trivial, st.toF, i.f.step i.r st, w1⟩
end
end Mine

namespace Mine
open PySem PyProof.Rows PySem.Calls PySem.SeqAt

/-! slices -/
noncomputable def loB : Option Int → Nat → Nat
  | none, _ => 0
  | some k, n => clampI k n
noncomputable def hiB : Option Int → Nat → Nat
  | none, n => n
  | some k, n => clampI k n
inductive Part : V → Option Int → Prop
  | none : Part .none none
  | int (i : Int) : Part (.int i) (some i)
theorem part_lo {y : V} {n a : Nat} (e : loV y n = some a) : ∃ p, Part y p ∧ a = loB p n := by
  unfold loV at e
  split at e
  · cases e; exact ⟨_, .none, rfl⟩
  · cases e; exact ⟨_, .int _, rfl⟩
  · cases e
theorem part_hi {y : V} {n a : Nat} (e : hiV y n = some a) : ∃ p, Part y p ∧ a = hiB p n := by
  unfold hiV at e
  split at e
  · cases e; exact ⟨_, .none, rfl⟩
  · cases e; exact ⟨_, .int _, rfl⟩
  · cases e
theorem Part.is {hp : Heap} {y : V} {p : Option Int} {v : Value} (x : Part y p) (r : RepV hp y v) : IsPart v p := by
  cases x
  · simp only [RepV] at r; subst r; exact .none
  · simp only [RepV] at r; obtain ⟨t, rfl⟩ := r; exact .int _ _

theorem bounds_one (lo hi : Option Int) (n : Nat) : sliceBounds lo hi none n = ((loB lo n : Int), (hiB hi n : Int), 1) := by
  unfold sliceBounds
  simp only [Option.getD_none]
  congr 1
  · cases lo <;> simp [loB, clampI] <;> split <;> omega
  · congr 1
    cases hi <;> simp [hiB, clampI] <;> split <;> omega
theorem pick_one (items : List Value) (lo hi : Option Int) {a b : Nat} (ha : a = loB lo items.length) (hb : b = hiB hi items.length) :
    slicePick items.toArray lo hi none = ((items.take b).drop a).toArray := by
  unfold slicePick
  rw [List.size_toArray, bounds_one, ← ha, ← hb]
  simp only
  rw [sliceRange_one, pick_run, List.drop_take]
section
variable {prog : Program} {w : World} {A : Around} {E : Value → Shared → Prop} {s : Shared}
end

section
variable {X : Ctx} {sc : Scope} {σ : Slots} {c : Cfg} {env : Env} {fr : Fm} {A : Around} {h : AH} {s : Shared}
noncomputable def PartOk (X : Ctx) (sc : Scope) (σ : Slots) (x : Ex) : Option PySem.Expr → Prop
  | none => litNone x = true
  | some e => SE X sc σ x e
theorem litNone_eq {x : Ex} (h : litNone x = true) : x = .lit .none := by
  unfold litNone at h
  split at h
  · rfl
  · cases h
theorem part_ok {x : Ex} {e : Option PySem.Expr} {R : RX} {Q : V → AH → Prop} (p : PartOk X sc σ x e) (w : wpE X c R x fr Q h) (i : In X c sc σ env fr A h s) : wpAny X.M A (evalPart e env) (ValPost X h s Q) (ExcPost X A h s R) s := by
  cases e with
  | none =>
    have := litNone_eq p
    subst this
    dsimp only [wpE] at w
    rw [evalPart_none]
    exact wpAny_pure (.pure i.r rep_none w)
  | some e => rw [evalPart_some]; exact p _ _ _ _ _ _ _ _ w i

theorem slice_ok {x y z : V} {vo vl vu : Value} {E : Value → Shared → Prop} {Q : V → AH → Prop} {v : PySem.Expr} {l u : Option PySem.Expr} {p : Pos} (r : Rel X h s.heap) (rv : RepV s.heap x vo) (rl3 : RepV s.heap y vl) (ru : RepV s.heap z vu) (w3 : sliceP x y z h Q) :
    wpAny X.M A (subscriptTail v (.Slice l u none p) vo (.ref s.heap.objs.size)) (ValPost X h s Q) E { s with heap := s.heap.push { cls := .type "slice", data := .fields #[vl, vu, .none] } } := by
  have kk : ∀ b o, s.heap.get? b = some o → (s.heap.push { cls := .type "slice", data := .fields #[vl, vu, .none] }).get? b = some o := fun b o e => Heap.get?_push_of_some _ e
  have st4 : Step X h s h { s with heap := s.heap.push { cls := .type "slice", data := .fields #[vl, vu, .none] } } := Step.keeps r kk ⟨rfl, rfl, rfl⟩
  have rv4 := rv.mono (st4.vk r)
  have hsl : (s.heap.push { cls := .type "slice", data := .fields #[vl, vu, .none] }).IsSliceOf s.heap.objs.size vl vu .none := Heap.IsSliceOf.new ..
  unfold sliceP at w3
  split at w3
  · simp only [RepV] at rv4; subst rv4
    split at w3
    · rename_i vs ha
      split at w3
      · rename_i r' hr
        obtain ⟨n, items, ha', ra, z1⟩ := st4.rel.rep _ _ ha
        unfold pySlice at hr
        split at hr
        · rename_i a b ea eb
          cases hr
          obtain ⟨pl, p1, rfl⟩ := part_lo ea
          obtain ⟨pu, p2, rfl⟩ := part_hi eb
          have lz := ra.length
          refine tail_any (isList_of ha').typeIs slot_list_getitem.lookup (wpAny_getItem_list_slice (isList_of ha') hsl (p1.is rl3) (p2.is ru) .none (by simp) ?_ (by rw [List.size_toArray, lz]; exact big_size z1)) (by rfl)
          rw [pick_one items pl pu (a := loB pl vs.length) (b := hiB pu vs.length) (by rw [lz]) (by rw [lz])]
          have key := ValPost.new (X := X) (Q := Q) (s := { s with heap := s.heap.push { cls := .type "slice", data := .fields #[vl, vu, .none] } }) (ob := { cls := .type "list", data := .seq ((items.take (hiB pu vs.length)).drop (loB pl vs.length)).toArray }) (o := .list ((vs.take (hiB pu vs.length)).drop (loB pl vs.length))) st4.rel rfl
            ⟨0, _, Heap.get?_push_size _ rfl, ((ra.take _).drop _).mono (.of_keeps fun b o e => Heap.get?_push_of_some _ e), by simp; omega⟩ w3
          exact key.back st4
        · cases hr
      · exact w3.elim
    · exact w3.elim
  · exact w3.elim

theorem se_slice {o lo hi : Ex} {v : PySem.Expr} {l u : Option PySem.Expr} {p pos : Pos} (ho : SE X sc σ o v) (hl : PartOk X sc σ lo l) (hu : PartOk X sc σ hi u) : SE X sc σ (.slice o lo hi) (.Subscript v (.Slice l u none p) pos) := by
  intro c R fr Q h env A s w i
  dsimp only [wpE] at w
  refine Subscript_ (wpAny_mono (ho _ _ _ _ _ _ _ _ w i) (fun vo s1 ⟨x, h1, rv, st, w1⟩ => ?_) fun _ _ e => e)
  have i1 := i.step st
  refine wpAny_Slice (wpAny_mono (part_ok hl w1 i1) (fun vl s2 ⟨y, h2, rl, st2, w2⟩ => ?_) fun _ _ e => e.back st)
  have i2 := i1.step st2
  refine wpAny_mono (part_ok hu w2 i2) (fun vu s3 ⟨z, h3, ru, st3, w3⟩ => ?_) fun _ _ e => e.back (st.trans st2)
  have i3 := i2.step st3
  rw [evalPart_none]
  refine wpAny_pure ?_
  have rv3 := (rv.mono (st2.vk i1.r)).mono (st3.vk i2.r)
  have rl3 := rl.mono (st3.vk i2.r)
  exact wpAny_mono (slice_ok st3.rel rv3 rl3 ru w3) (fun _ _ q => q.back ((st.trans st2).trans st3)) fun _ _ e => e
end
end Mine

namespace Mine
open PySem PyProof.Rows

section
variable {X : Ctx} {sc : Scope} {σ : Slots}
theorem tup2_inv {v : V} {f : V → V → Prop} (w : match v with | .tup [x, y] => f x y | _ => False) : ∃ x y, v = .tup [x, y] ∧ f x y := by
  rcases v with _ | _ | _ | _ | _ | vs | _ <;> try exact False.elim w
  rcases vs with _ | ⟨x, _ | ⟨y, _ | ⟨z, vs⟩⟩⟩ <;> first | exact ⟨_, _, rfl, w⟩ | exact False.elim w
theorem swaps_call {x : PySem.Expr} {t : Option PySem.Expr} {l : Nat} {env : Env} (h : (vw x).tag = 20) : swapsWith x t l env = pure false := by
  obtain ⟨g, a, k, p, rfl⟩ := vw20 h
  rfl
/-- a pair taken apart -/
theorem ss_unpack2 {e : Ex} {v : PySem.Expr} {n1 n2 : Str} {i j : Nat} {p1 p2 pt pos : Pos} {kx : Nat} (hx : SE X sc σ e v) (h1 : σ.lookup n1 = some i) (h2 : σ.lookup n2 = some j) (hv : (vw v).tag = 20) :
    SS X sc σ (.unpack2 i j e) (.Assign [.Tuple [.Name n1 p1, .Name n2 p2] kx pt] v pos) := by
  intro c Q R fr h env A s w i
  dsimp only [wpS] at w
  have hw : swappedStores [.Tuple [.Name n1 p1, .Name n2 p2] kx pt] v env = pure none := by
    obtain ⟨g, a, k, p, rfl⟩ := vw20 hv
    rfl
  refine wpAny_Assign_stores (wpAny_mono (hx _ _ _ _ _ _ _ _ w i.inE) (fun u s1 ⟨y, g1, rv, st, w1⟩ => ?_) fun _ _ e => e.toS i.r i.f) (show swapsWith v (some (.Tuple [.Name n1 p1, .Name n2 p2] kx pt)) pos.line env = pure false from swaps_call hv) hw
  have i1 := i.step st
  obtain ⟨xa, xb, rfl, hh, w1⟩ := tup2_inv w1
  simp only [RepV] at rv
  obtain ⟨a, n, items, rfl, ha, ra, z⟩ := rv
  obtain ⟨va, _, rfl, ra1, vb, _, rfl, rb1, e3⟩ := ra
  cases e3
  show wpAny _ A (assign (.Tuple [.Name n1 p1, .Name n2 p2] kx pt) env (.ref a)) _ _ s1
  refine wpAny_assign_Tuple (i.a.handled hh) (isTuple_of ha) rfl rfl fun h' he => ?_
  have kk : ∀ b o, s1.heap.get? b = some o → h'.get? b = some o := fun b o q => he b o (Nat.ne_of_lt (Heap.lt_size q)) q
  have st2 : Step X g1 s1 g1 { s1 with heap := h' } := Step.keeps i1.r kk ⟨rfl, rfl, rfl⟩
  have i2 := i1.step st2
  have vk := VK.of_keeps kk
  refine wpAny_assignInOrder_more (wpAny_assign_Name (store_ok i2 h1 (ra1.mono vk) fun s3 st3 f3 => ?_))
  have i3 := i2.stepF st3 f3
  refine wpAny_assignInOrder_more (wpAny_assign_Name (store_ok i3 h2 ((rb1.mono vk).mono (i2.f.vk i2.r st3.kept)) fun s4 st4 f4 => wpAny_assignInOrder_none ?_))
  exact ⟨.next, _, g1, trivial, (((st.trans st2).toF.trans st3).trans st4), f4, w1⟩
end
end Mine

namespace Mine
open PySem PyProof.Rows PySem.Calls PySem.SeqAt PySem.W Builtin Builtin.ObjectAttr

section
variable {X : Ctx} {sc : Scope} {σ : Slots} {h : AH} {s : Shared}

end
end Mine

namespace Mine
open PySem PyProof.Rows PySem.Calls PySem.SeqAt PySem.W

section
variable {X : Ctx} {sc : Scope} {σ : Slots} {c : Cfg} {env : Env} {fr fr' : Fm} {A : Around} {ah ah' h : AH} {s s' : Shared}

/-! the clauses of a try -/
/-- an exception that has landed in its try -/
structure Landed (X : Ctx) (c : Cfg) (sc : Scope) (σ : Slots) (env : Env) (A : Around) (ah : AH) (s : Shared) (a C : Addr) (fr' : Fm) (ah' : AH) (s' : Shared) : Prop where
  na : s.heap.get? a = none
  fly : Fly s.heap s'.heap a C (some .none)
  hC : ∃ n, X.exc n = some C
  st : StepF X env ah s ah' s'
  f : SRep σ env fr' ah' s'.heap

theorem Fly.obj {s h : Heap} {a C : Addr} {x : Option Value} (f : Fly s h a C x) : ∃ oe fs, h.get? a = some oe ∧ oe.cls = .ref C ∧ oe.data = .fields fs := by
  cases f with
  | raw oe vs he hc hd => exact ⟨oe, vs, he, hc, hd⟩
  | tr oe vs T oT ts fl he hc hd => exact ⟨oe, vs, he, hc, hd⟩

/-! isinstance of a caught exception, where it holds -/
end
end Mine

namespace Mine
open PySem PyProof.Rows PySem.Calls PySem.SeqAt

section
variable {X : Ctx}

noncomputable def AE (X : Ctx) (x : Ex) : Prop := ∀ sc σ e, ckE sc σ x e = true → SE X sc σ x e ∧ ST X sc σ x e

theorem asm_list {xs : List Ex} (ih : ∀ x ∈ xs, AE X x) : ∀ sc σ es, ckEs sc σ xs es = true → SEs X sc σ xs es ∧ STs X sc σ xs es ∧ ∀ e ∈ es, plainE e = true := by
  induction xs with
  | nil =>
    intro sc σ es h
    have h := List.isEmpty_iff.mp h
    subst h
    exact ⟨trivial, trivial, fun e he => nomatch he⟩
  | cons x xs iht =>
    intro sc σ es h
    obtain ⟨e, es, rfl, h1, h2⟩ := ckCons_el h
    have a := ih x (.head _) sc σ e h1.2
    have b := iht (fun y hy => ih y (.tail _ hy)) sc σ es h2
    refine ⟨⟨a.1, b.1⟩, ⟨a.2, b.2.1⟩, fun e' he' => ?_⟩
    cases he' with
    | head => exact h1.1
    | tail _ m => exact b.2.2 e' m

theorem asm_conds {xs : List Ex} (ih : ∀ x ∈ xs, AE X x) : ∀ sc σ es, ckEs sc σ xs es = true → SC X sc σ xs es := by
  intro sc σ es h
  cases xs with
  | nil =>
    have h := List.isEmpty_iff.mp h
    subst h; exact sc_nil
  | cons x xs =>
    cases xs with
    | nil =>
      obtain ⟨e, es, rfl, h1, h2⟩ := ckCons_el h
      have h2 := List.isEmpty_iff.mp h2
      subst h2
      exact sc_one (ih x (.head _) sc σ _ h1.2).2
    | cons y r => intro c R fr K h env A s w i; unfold wpC at w; exact absurd w.1 (by simp)

noncomputable def AI (X : Ctx) (x : Ex) : Prop := ∀ sc σ e, ckI sc σ x e (ckE sc σ x e) = true → SI X sc σ x e
theorem and3 {a b c : Bool} (h : (a && b && c) = true) : (a = true ∧ b = true) ∧ c = true := ⟨(Bool.and_eq_true _ _).mp ((Bool.and_eq_true _ _).mp h).1, ((Bool.and_eq_true _ _).mp h).2⟩
theorem notT {b : Bool} (h : (!b) = true) : b = false := by cases b <;> first | rfl | cases h
theorem and2 {a b : Bool} (h : (a && b) = true) : a = true ∧ b = true := (Bool.and_eq_true _ _).mp h
theorem call_el {e : PySem.Expr} {k : Str → List PySem.Expr → Bool} (h : ((vw e).tag == 20 && (vw e).b && ckCall k (vw e).es) = true) : ∃ n p args q, e = .Call (.Name n p) args [] q ∧ k n args = true := by
  have h := and3 h
  obtain ⟨g, args, kw, q, rfl⟩ := vw20 (beq_iff_eq.mp h.1.1)
  have hk : kw = [] := List.isEmpty_iff.mp h.1.2
  subst hk
  obtain ⟨n, p, args', e, hk⟩ := ckCall_el h.2
  cases e
  exact ⟨n, p, _, q, rfl, hk⟩
theorem meth_el {e : PySem.Expr} {k : PySem.Expr → Str → Nat → List PySem.Expr → Bool} (h : ((vw e).tag == 20 && (vw e).b && ckMeth k (vw e).es) = true) : ∃ v n p args q, e = .Call (.Attribute v n p) args [] q ∧ k v n p.endLine args = true := by
  have h := and3 h
  obtain ⟨g, args, kw, q, rfl⟩ := vw20 (beq_iff_eq.mp h.1.1)
  have hk : kw = [] := List.isEmpty_iff.mp h.1.2
  subst hk
  obtain ⟨v, n, p, args', e, hk⟩ := ckMeth_el h.2
  cases e
  exact ⟨v, n, p, _, q, rfl, hk⟩

theorem asm_iter (G : X.Good) {x : Ex} (a : AE X x) (ih : ∀ y, sizeOf y < sizeOf x → AE X y) : AI X x := by
  intro sc σ e h
  have other : (ckI sc σ x e (ckE sc σ x e) = ckE sc σ x e) → (∀ c R whole fr Q h, wpI X c R x whole fr Q h = whole (fun x h1 => srcP Q h1 x) h) → SI X sc σ x e := fun h1 h2 => si_plain (a sc σ e (h1 ▸ h)).1 h2
  cases x
  case range1 b =>
    obtain ⟨n, p, args, q, rfl, hk⟩ := call_el h
    have h := and3 hk
    have h1 := beq_iff_eq.mp h.1.1
    subst h1
    obtain ⟨y, rfl, h3⟩ := ck1_el h.2
    have h3 := and2 h3
    exact si_range1 G (ih _ (by simp +arith) sc σ _ h3.2).1 h3.1 h.1.2
  case rev =>
    obtain ⟨n, p, args, q, rfl, hk⟩ := call_el h
    have h := and3 hk
    have h1 := beq_iff_eq.mp h.1.1
    subst h1
    obtain ⟨y, rfl, h3⟩ := ck1_el h.2
    have h3 := and2 h3
    exact si_rev G (ih _ (by simp +arith) sc σ _ h3.2).1 h3.1 h.1.2
  all_goals exact other rfl fun _ _ _ _ _ _ => rfl

theorem se_st {sc : Scope} {σ : Slots} {x : Ex} {e : PySem.Expr} (hx : SE X sc σ x e) (h1 : ∀ c R whole fr K h, wpT X c R x whole fr K h = whole (fun v h1 => match truthV h1 v with | some r => K r h1 | none => False) h)
    (h2 : ∀ env whole, isTrue e env whole = (do let v ← whole; standAt e.pos; holding [v] (truthy v))) : SE X sc σ x e ∧ ST X sc σ x e := ⟨hx, st_plain hx h1 h2⟩

theorem lit_isTrue {v : V} {e : PySem.Expr} (h : ckLit v e = true) : ∀ env whole, isTrue e env whole = (do let v ← whole; standAt e.pos; holding [v] (truthy v)) := by
  intro env whole
  obtain ⟨c, k, p, rfl⟩ := vw1 (beq_iff_eq.mp (and2 h).1)
  rfl

theorem asm_all (G : X.Good) : ∀ n x, sizeOf x ≤ n → AE X x := by
  intro n
  induction n with
  | zero => intro x hx; cases x <;> simp at hx
  | succ n ihn =>
    intro x hx sc σ e h
    have ih : ∀ y, sizeOf y < sizeOf x → AE X y := fun y hy => ihn y (by omega)
    have ihl : ∀ ys : List Ex, sizeOf ys < sizeOf x → ∀ y ∈ ys, AE X y := fun ys hy y hm => ih y (Nat.lt_trans (List.sizeOf_lt_of_mem hm) hy)
    cases x
    case lit v =>
      exact se_st (se_lit h) (fun _ _ _ _ _ _ => rfl) (lit_isTrue h)
    case var i =>
      have h := and2 h
      have h2 := and2 h.1
      have h3 := and3 h2.1
      obtain ⟨n, p, rfl⟩ := vw2 (beq_iff_eq.mp h3.1.1)
      exact se_st (se_var (beq_iff_eq.mp h3.1.2) h3.2 (notT h2.2) (notT h.2)) (fun _ _ _ _ _ _ => rfl) fun _ _ => rfl
    case glob g =>
      have h := and2 h
      have h2 := and3 h.1
      obtain ⟨n, p, rfl⟩ := vw2 (beq_iff_eq.mp h2.1.1)
      have h1 : n = g := beq_iff_eq.mp h2.1.2
      subst h1
      exact se_st (se_glob G h2.2 (notT h.2)) (fun _ _ _ _ _ _ => rfl) fun _ _ => rfl
    case bin op a b =>
      have h := and3 h
      obtain ⟨l, o, r, p, rfl⟩ := vw3 (beq_iff_eq.mp h.1.1)
      have h1 : o = op := beq_iff_eq.mp h.1.2
      subst h1
      obtain ⟨x, y, e, h2, h3⟩ := ck2_el h.2
      cases e
      exact se_st (se_bin (ih _ (by simp +arith) _ _ _ h2).1 (ih _ (by simp +arith) _ _ _ h3).1) (fun _ _ _ _ _ _ => rfl) fun _ _ => rfl
    case cmp op a b =>
      have h := and3 h
      obtain ⟨l, o, r, p, rfl⟩ := vw4 (beq_iff_eq.mp h.1.1)
      have h1 : o = [op] := beq_iff_eq.mp h.1.2
      subst h1
      obtain ⟨x, y, e, h2, h3⟩ := ck2_el h.2
      cases e
      have h3 := and2 h3
      have a := (ih _ (by simp +arith) _ _ _ h2).1
      have b := (ih _ (by simp +arith) _ _ _ h3.2).1
      have h4 : behindInMarks op y = false := notT h3.1
      exact ⟨se_cmp a b h4, st_cmp a b h4⟩
    case not a =>
      have h := and3 h
      obtain ⟨o, x, p, rfl⟩ := vw5 (beq_iff_eq.mp h.1.1)
      have h1 : o = .Not := beq_iff_eq.mp h.1.2
      subst h1
      obtain ⟨x, e, h2⟩ := ck1_el h.2
      cases e
      exact ⟨se_not (ih _ (by simp +arith) _ _ _ h2).1, st_not (ih _ (by simp +arith) _ _ _ h2).2⟩
    case neg a =>
      have h := and3 h
      obtain ⟨o, x, p, rfl⟩ := vw5 (beq_iff_eq.mp h.1.1)
      have h1 : o = .USub := beq_iff_eq.mp h.1.2
      subst h1
      obtain ⟨x, e, h2⟩ := ck1_el h.2
      cases e
      exact se_st (se_neg (ih _ (by simp +arith) _ _ _ h2).1) (fun _ _ _ _ _ _ => rfl) fun _ _ => rfl
    case bop op es =>
      have h := and3 h
      obtain ⟨o, x, p, rfl⟩ := vw6 (beq_iff_eq.mp h.1.1)
      have h1 : o = op := beq_iff_eq.mp h.1.2
      subst h1
      have a := asm_list (ihl _ (by simp +arith)) _ _ _ h.2
      exact ⟨se_bop a.1, st_bop a.2.1⟩
    case callf f es =>
      obtain ⟨n, p, args, q, rfl, hk⟩ := call_el h
      have h := and2 hk
      have h5 := and2 h.1
      have h4 := and2 h5.1
      have h3 := and3 h4.1
      have h1 := beq_iff_eq.mp h3.1.1
      subst h1
      have a := asm_list (ihl _ (by simp +arith)) _ _ _ h.2
      exact se_st (se_callf G a.1 a.2.2 h3.1.2 (notT h3.2) (notT h5.2)) (fun _ _ _ _ _ _ => rfl) fun _ _ => rfl
    case bi b es =>
      obtain ⟨n, p, args, q, rfl, hk⟩ := call_el h
      have h := and3 hk
      have h1 := beq_iff_eq.mp h.1.1
      subst h1
      have a := asm_list (ihl _ (by simp +arith)) _ _ _ h.2
      exact se_st (se_bi G a.1 a.2.2 h.1.2) (fun _ _ _ _ _ _ => rfl) fun _ _ => rfl
    case isi a ts =>
      obtain ⟨n, p, args, q, rfl, hk⟩ := call_el h
      have h := and3 hk
      have h1 := beq_iff_eq.mp h.1.1
      subst h1
      obtain ⟨x, y, rfl, h3, h4⟩ := ck2_el h.2
      have h3 := and2 h3
      unfold ckTys at h4
      split at h4
      · exact se_st (se_isi G (ih _ (by simp +arith) _ _ _ h3.2).1 h3.1 h.1.2 h4) (fun _ _ _ _ _ _ => rfl) fun _ _ => rfl
      · cases h4
    case bm m o es =>
      obtain ⟨v, n, p, args, q, rfl, hk⟩ := meth_el h
      have h := and3 hk
      have h3 := and2 h.1.1
      have h2 := and3 h3.1
      have h1 := beq_iff_eq.mp h2.1.2
      subst h1
      have a := asm_list (ihl _ (by simp +arith)) _ _ _ h.2
      exact se_st (se_bm (ih _ (by simp +arith) _ _ _ h.1.2).1 a.1 a.2.2 h2.1.1 h2.2 (of_decide_eq_true h3.2)) (fun _ _ _ _ _ _ => rfl) fun _ _ => rfl
    case sub o i =>
      have h := and2 h
      obtain ⟨v, k, p, rfl⟩ := vw10 (beq_iff_eq.mp h.1)
      obtain ⟨x, y, e, h2, h3⟩ := ck2_el h.2
      cases e
      have h3 := and2 h3
      exact se_st (se_sub (ih _ (by simp +arith) _ _ _ h2).1 (ih _ (by simp +arith) _ _ _ h3.2).1 h3.1) (fun _ _ _ _ _ _ => rfl) fun _ _ => rfl
    case slice o lo hi =>
      have h := and2 h
      obtain ⟨v, k, p, rfl⟩ := vw10 (beq_iff_eq.mp h.1)
      obtain ⟨x, y, e, h2, h3⟩ := ck2_el h.2
      cases e
      have h3 := and2 h3
      have h4 := and3 h3.1
      obtain ⟨l, u, st, q, rfl⟩ := vw11 (beq_iff_eq.mp h4.1.1)
      have hst : st = none := Option.isNone_iff_eq_none.mp h4.1.2
      subst hst
      refine se_st (se_slice (ih _ (by simp +arith) _ _ _ h2).1 ?_ ?_) (fun _ _ _ _ _ _ => rfl) fun _ _ => rfl
      · cases l with
        | none => exact h4.2
        | some l => exact (ih _ (by simp +arith) _ _ _ h4.2).1
      · cases u with
        | none => exact h3.2
        | some u => exact (ih _ (by simp +arith) _ _ _ h3.2).1
    case list es =>
      have h := and2 h
      obtain ⟨v, p, rfl⟩ := vw12 (beq_iff_eq.mp h.1)
      have a := asm_list (ihl _ (by simp +arith)) _ _ _ h.2
      exact se_st (se_list (spliced_ok a.1 a.2.2)) (fun _ _ _ _ _ _ => rfl) fun _ _ => rfl
    case tuple es =>
      have h := and2 h
      obtain ⟨v, k, p, rfl⟩ := vw13 (beq_iff_eq.mp h.1)
      have a := asm_list (ihl _ (by simp +arith)) _ _ _ h.2
      exact se_st (se_tuple (spliced_ok a.1 a.2.2)) (fun _ _ _ _ _ _ => rfl) fun _ _ => rfl
    case dict0 =>
      have h := and2 h
      obtain ⟨ks, vs, p, rfl⟩ := vw14 (beq_iff_eq.mp h.1)
      have h2 := and2 h.2
      have h3 := List.isEmpty_iff.mp h2.1
      have h4 := List.isEmpty_iff.mp h2.2
      subst h3 h4
      exact se_st (se_dict0 G) (fun _ _ _ _ _ _ => rfl) fun _ _ => rfl
    case idict1 k v =>
      have h := and2 h
      obtain ⟨ks, vs, p, rfl⟩ := vw14 (beq_iff_eq.mp h.1)
      obtain ⟨x, y, e, h2, h3⟩ := ck2_el h.2
      obtain ⟨rfl, rfl⟩ := dict1_el e
      exact se_st (se_idict1 G (ih _ (by simp +arith) _ _ _ h2).1 (ih _ (by simp +arith) _ _ _ h3).1) (fun _ _ _ _ _ _ => rfl) fun _ _ => rfl
    case comp j src conds elt =>
      have h := and2 h
      obtain ⟨el, gs, scp, p, rfl⟩ := vw15 (beq_iff_eq.mp h.1)
      obtain ⟨x, q, it, ifs, rfl, h2⟩ := ckGen_el h.2
      have h2 := and3 h2
      have h3 := and3 h2.1.1
      obtain ⟨el', e, h4⟩ := ck1_el h2.2
      cases e
      have a := asm_iter G (ih _ (by simp +arith)) (fun y hy => ih y (Nat.lt_trans hy (by simp +arith))) _ _ _ h3.2
      have b := asm_conds (ihl _ (by simp +arith)) _ _ _ h2.1.2
      have d := (ih _ (by simp +arith) _ _ _ h4).1
      exact se_st (se_comp (scOk_of h3.1.2) a h3.1.1 b d) (fun _ _ _ _ _ _ => rfl) fun _ _ => rfl
    all_goals exact absurd (show false = true from h) Bool.false_ne_true

theorem asm (G : X.Good) (x : Ex) : AE X x := asm_all G _ x (Nat.le_refl _)
theorem asmI (G : X.Good) (x : Ex) : AI X x := asm_iter G (asm G x) fun y _ => asm G y
end
end Mine

namespace Mine
open PySem PyProof.Rows PySem.Calls PySem.SeqAt

structure Vs where
  tag : Nat := 0
  ts : List PySem.Expr := []
  xs : List PySem.Expr := []
  a : List PySem.Stmt := []
  b : List PySem.Stmt := []
  hs : List ExceptHandler := []
  f : Bool := false
noncomputable def vs : PySem.Stmt → Vs
  | .Assign ts x _ => { tag := 1, ts := ts, xs := [x] }
  | .Expr x _ => { tag := 2, xs := [x] }
  | .If x a b _ => { tag := 3, xs := [x], a := a, b := b }
  | .While x a b _ => { tag := 4, xs := [x], a := a, b := b }
  | .For t x a b _ => { tag := 5, ts := [t], xs := [x], a := a, b := b }
  | .Return x _ => { tag := 6, xs := x.toList }
  | .Pass _ => { tag := 7 }
  | .Raise x c _ => { tag := 8, xs := x.toList, f := c.isNone }
  | .Try a hs b f _ => { tag := 9, a := a, hs := hs, b := b, f := f.isEmpty }
  | _ => {}
section
variable {s : PySem.Stmt}
theorem vs1 (h : (vs s).tag = 1) : ∃ ts x p, s = .Assign ts x p := by cases s <;> first | exact ⟨_, _, _, rfl⟩ | exact tg h rfl
theorem vs2 (h : (vs s).tag = 2) : ∃ x p, s = .Expr x p := by cases s <;> first | exact ⟨_, _, rfl⟩ | exact tg h rfl
theorem vs3 (h : (vs s).tag = 3) : ∃ x a b p, s = .If x a b p := by cases s <;> first | exact ⟨_, _, _, _, rfl⟩ | exact tg h rfl
theorem vs4 (h : (vs s).tag = 4) : ∃ x a b p, s = .While x a b p := by cases s <;> first | exact ⟨_, _, _, _, rfl⟩ | exact tg h rfl
theorem vs5 (h : (vs s).tag = 5) : ∃ t x a b p, s = .For t x a b p := by cases s <;> first | exact ⟨_, _, _, _, _, rfl⟩ | exact tg h rfl
theorem vs6 (h : (vs s).tag = 6) : ∃ x p, s = .Return x p := by cases s <;> first | exact ⟨_, _, rfl⟩ | exact tg h rfl
theorem vs7 (h : (vs s).tag = 7) : ∃ p, s = .Pass p := by cases s <;> first | exact ⟨_, rfl⟩ | exact tg h rfl
end
noncomputable def isCompE : Ex → Bool
  | .comp .. => true
  | _ => false
noncomputable def ckConsS (f : PySem.Stmt → Bool) (g : List PySem.Stmt → Bool) : List PySem.Stmt → Bool
  | x :: xs => f x && g xs
  | [] => false
theorem ckConsS_el {f : PySem.Stmt → Bool} {g : List PySem.Stmt → Bool} {es : List PySem.Stmt} (h : ckConsS f g es = true) : ∃ x xs, es = x :: xs ∧ f x = true ∧ g xs = true := by
  match es, h with
  | x :: xs, h => exact ⟨x, xs, rfl, and2 h⟩
noncomputable def ckConsH (f : PySem.Expr → Option Str → List PySem.Stmt → Bool) (g : List ExceptHandler → Bool) : List ExceptHandler → Bool
  | .ExceptHandler (some t) nm body _ :: r => f t nm body && g r
  | _ => false
noncomputable def ckNm (sc : Scope) (σ : Slots) : Option Nat → Option Str → Bool
  | none, none => true
  | some i, some n => σ.lookup n == some i && sc.names.lookup n == some .local
  | _, _ => false
mutual
noncomputable def ckS (sc : Scope) (σ : Slots) : St → PySem.Stmt → Bool
  | .assign i e, s => (vs s).tag == 1 && ck1 (fun t => (vw t).tag == 2 && σ.lookup (vw t).s == some i) (vs s).ts && ck1 (fun x => (isCompE e || !isComp x) && ckE sc σ e x) (vs s).xs
  | .setitem o i e, s => (vs s).tag == 1 && ck1 (fun t => (vw t).tag == 10 && ck2 (ckE sc σ o) (fun k => plainE k && ckE sc σ i k) (vw t).es) (vs s).ts && ck1 (ckE sc σ e) (vs s).xs
  | .setattr .., _ => false
  | .expr e, s => (vs s).tag == 2 && ck1 (fun x => !isComp x && ckE sc σ e x) (vs s).xs
  | .ite e a b, s => (vs s).tag == 3 && ck1 (ckE sc σ e) (vs s).xs && (ckSs sc σ a (vs s).a && ckSs sc σ b (vs s).b)
  | .whil e b, s => (vs s).tag == 4 && ck1 (ckE sc σ e) (vs s).xs && ((vs s).b.isEmpty && ckSs sc σ b (vs s).a)
  | .forr i src b, s => (vs s).tag == 5 && (vs s).b.isEmpty && (ck1 (fun t => (vw t).tag == 2 && σ.lookup (vw t).s == some i) (vs s).ts && ck1 (fun it => plainE it && ckI sc σ src it (ckE sc σ src it)) (vs s).xs && ckSs sc σ b (vs s).a)
  | .ret e, s => (vs s).tag == 6 && ck1 (ckE sc σ e) (vs s).xs
  | .pass, s => (vs s).tag == 7
  | .unpack2 i j e, s => (vs s).tag == 1 && ck1 (fun t => (vw t).tag == 13 && ck2 (fun a => (vw a).tag == 2 && σ.lookup (vw a).s == some i) (fun b => (vw b).tag == 2 && σ.lookup (vw b).s == some j) (vw t).es) (vs s).ts && ck1 (fun x => (vw x).tag == 20 && ckE sc σ e x) (vs s).xs
  | .raise .., _ => false
  | .tryx .., _ => false
noncomputable def ckSs (sc : Scope) (σ : Slots) : List St → List PySem.Stmt → Bool
  | [], es => es.isEmpty
  | x :: xs, es => ckConsS (ckS sc σ x) (ckSs sc σ xs) es
noncomputable def ckHs (sc : Scope) (σ : Slots) : List Hd → List ExceptHandler → Bool
  | [], es => es.isEmpty
  | .mk D n b :: r, es => ckConsH (fun t nm body => (vw t).tag == 2 && (vw t).s == D && isGlob sc D && (!(D == ("__debug__" : Str)) && ckNm sc σ n nm && (!body.isEmpty && ckSs sc σ b body))) (ckHs sc σ r) es
end

section
variable {X : Ctx}
theorem swaps_not {x : PySem.Expr} {t : Option PySem.Expr} {l : Nat} {env : Env} (h : isComp x = false) : swapsWith x t l env = pure false := by
  cases x <;> first | rfl | cases h
theorem swaps_sub {x a b : PySem.Expr} {p : Pos} {l : Nat} {env : Env} : swapsWith x (some (.Subscript a b p)) l env = pure false := by
  cases x <;> rfl
theorem asm_assign (G : X.Good) {e : Ex} {sc : Scope} {σ : Slots} {x : PySem.Expr} {n : Str} {i : Nat} {px pos : Pos} (hn : σ.lookup n = some i) (hc : (isCompE e || !isComp x) = true) (h : ckE sc σ e x = true) : SS X sc σ (.assign i e) (.Assign [.Name n px] x pos) := by
  rw [Bool.or_eq_true] at hc
  rcases hc with hc | hc
  · cases e <;> try (cases hc; done)
    have h := and2 h
    obtain ⟨el, gs, scp, p, rfl⟩ := vw15 (beq_iff_eq.mp h.1)
    obtain ⟨x, q, it, ifs, rfl, h2⟩ := ckGen_el h.2
    have h2 := and3 h2
    have h3 := and3 h2.1.1
    obtain ⟨el', e, h4⟩ := ck1_el h2.2
    cases e
    exact ss_assign_comp hn (scOk_of h3.1.2) (asmI G _ _ _ _ h3.2) h3.1.1 (asm_conds (fun y _ => asm G y) _ _ _ h2.1.2) (asm G _ _ _ _ h4).1
  · exact ss_assign (asm G _ _ _ _ h).1 hn fun env => swaps_not (notT hc)

noncomputable def AS (X : Ctx) (x : St) : Prop := ∀ sc σ e, ckS sc σ x e = true → SS X sc σ x e

theorem asm_sts {xs : List St} (ih : ∀ x ∈ xs, AS X x) : ∀ sc σ es, ckSs sc σ xs es = true → SSs X sc σ xs es := by
  induction xs with
  | nil =>
    intro sc σ es h
    have h := List.isEmpty_iff.mp h
    subst h; exact sss_nil
  | cons x xs iht =>
    intro sc σ es h
    obtain ⟨e, es, rfl, h1, h2⟩ := ckConsS_el h
    exact sss_cons (ih x (.head _) sc σ _ h1) (iht (fun y hy => ih y (.tail _ hy)) sc σ _ h2)

theorem asm_st (G : X.Good) : ∀ n x, sizeOf x ≤ n → AS X x := by
  intro n
  induction n with
  | zero => intro x hx; cases x <;> simp at hx
  | succ n ihn =>
    intro x hx sc σ e h
    have ih : ∀ y, sizeOf y < sizeOf x → AS X y := fun y hy => ihn y (by omega)
    have ihl : ∀ ys : List St, sizeOf ys < sizeOf x → ∀ y ∈ ys, AS X y := fun ys hy y hm => ih y (Nat.lt_trans (List.sizeOf_lt_of_mem hm) hy)
    cases x
    case assign =>
      have h := and3 h
      obtain ⟨ts, x, p, rfl⟩ := vs1 (beq_iff_eq.mp h.1.1)
      obtain ⟨t, e1, h1⟩ := ck1_el h.1.2
      obtain ⟨x', e2, h2⟩ := ck1_el h.2
      cases e2
      have e1 : ts = [t] := e1
      subst e1
      have h1 := and2 h1
      obtain ⟨n, q, rfl⟩ := vw2 (beq_iff_eq.mp h1.1)
      have h2 := and2 h2
      exact asm_assign G (beq_iff_eq.mp h1.2) h2.1 h2.2
    case setitem =>
      have h := and3 h
      obtain ⟨ts, x, p, rfl⟩ := vs1 (beq_iff_eq.mp h.1.1)
      obtain ⟨t, e1, h1⟩ := ck1_el h.1.2
      obtain ⟨x', e2, h2⟩ := ck1_el h.2
      cases e2
      have e1 : ts = [t] := e1
      subst e1
      have h1 := and2 h1
      obtain ⟨v, k, q, rfl⟩ := vw10 (beq_iff_eq.mp h1.1)
      obtain ⟨v', k', e3, h3, h4⟩ := ck2_el h1.2
      cases e3
      have h4 := and2 h4
      exact ss_setitem (asm G _ _ _ _ h3).1 (asm G _ _ _ _ h4.2).1 (asm G _ _ _ _ h2).1 h4.1 fun env => swaps_sub
    case unpack2 =>
      have h := and3 h
      obtain ⟨ts, x, p, rfl⟩ := vs1 (beq_iff_eq.mp h.1.1)
      obtain ⟨t, e1, h1⟩ := ck1_el h.1.2
      obtain ⟨x', e2, h2⟩ := ck1_el h.2
      cases e2
      have e1 : ts = [t] := e1
      subst e1
      have h1 := and2 h1
      obtain ⟨v, k, q, rfl⟩ := vw13 (beq_iff_eq.mp h1.1)
      obtain ⟨v', k', e3, h3, h4⟩ := ck2_el h1.2
      have e3 : v = _ := e3
      subst e3
      have h3 := and2 h3
      have h4 := and2 h4
      obtain ⟨n1, q1, rfl⟩ := vw2 (beq_iff_eq.mp h3.1)
      obtain ⟨n2, q2, rfl⟩ := vw2 (beq_iff_eq.mp h4.1)
      have h2 := and2 h2
      exact ss_unpack2 (asm G _ _ _ _ h2.2).1 (beq_iff_eq.mp h3.2) (beq_iff_eq.mp h4.2) (beq_iff_eq.mp h2.1)
    case expr =>
      have h := and2 h
      obtain ⟨x, p, rfl⟩ := vs2 (beq_iff_eq.mp h.1)
      obtain ⟨x', e2, h2⟩ := ck1_el h.2
      cases e2
      have h2 := and2 h2
      exact ss_expr (asm G _ _ _ _ h2.2).1 fun env => swaps_not (notT h2.1)
    case ite =>
      have h := and3 h
      obtain ⟨x, a, b, p, rfl⟩ := vs3 (beq_iff_eq.mp h.1.1)
      obtain ⟨x', e2, h2⟩ := ck1_el h.1.2
      cases e2
      have h3 := and2 h.2
      exact ss_ite (asm G _ _ _ _ h2).2 (asm_sts (ihl _ (by simp +arith)) _ _ _ h3.1) (asm_sts (ihl _ (by simp +arith)) _ _ _ h3.2)
    case whil =>
      have h := and3 h
      obtain ⟨x, a, b, p, rfl⟩ := vs4 (beq_iff_eq.mp h.1.1)
      obtain ⟨x', e2, h2⟩ := ck1_el h.1.2
      cases e2
      have h3 := and2 h.2
      have e3 : b = [] := List.isEmpty_iff.mp h3.1
      subst e3
      exact ss_while (asm G _ _ _ _ h2).2 (asm_sts (ihl _ (by simp +arith)) _ _ _ h3.2)
    case forr =>
      have h := and3 h
      obtain ⟨t, x, a, b, p, rfl⟩ := vs5 (beq_iff_eq.mp h.1.1)
      have e3 : b = [] := List.isEmpty_iff.mp h.1.2
      subst e3
      have h3 := and3 h.2
      obtain ⟨t', e1, h1⟩ := ck1_el h3.1.1
      cases e1
      obtain ⟨x', e2, h2⟩ := ck1_el h3.1.2
      cases e2
      have h1 := and2 h1
      obtain ⟨n, q, rfl⟩ := vw2 (beq_iff_eq.mp h1.1)
      have h2 := and2 h2
      exact ss_for (beq_iff_eq.mp h1.2) (asmI G _ _ _ _ h2.2) h2.1 (asm_sts (ihl _ (by simp +arith)) _ _ _ h3.2)
    case ret =>
      have h := and2 h
      obtain ⟨x, p, rfl⟩ := vs6 (beq_iff_eq.mp h.1)
      cases x with
      | none => cases h.2
      | some x => exact ss_ret (asm G _ _ _ _ h.2).1
    case pass =>
      obtain ⟨p, rfl⟩ := vs7 (beq_iff_eq.mp h)
      exact ss_pass
    all_goals exact absurd (show false = true from h) Bool.false_ne_true

theorem asmS (G : X.Good) (xs : List St) : ∀ sc σ es, ckSs sc σ xs es = true → SSs X sc σ xs es := asm_sts fun y _ => asm_st G _ y (Nat.le_refl _)

noncomputable def ckParams : Nat → List Str → Slots → Bool
  | _, [], _ => true
  | i, p :: ps, σ => σ.lookup p == some i && ckParams (i + 1) ps σ
theorem ckParams_spec {σ : Slots} : ∀ {ps : List Str} {k : Nat}, ckParams k ps σ = true → ∀ i p, ps[i]? = some p → σ.lookup p = some (k + i)
  | [], k, _, i, p, h => by simp at h
  | q :: ps, k, hc, i, p, h => by
    simp only [ckParams, Bool.and_eq_true, beq_iff_eq] at hc
    cases i with
    | zero => simp at h; subst h; simpa using hc.1
    | succ i => simp at h; have := ckParams_spec hc.2 i p h; rw [this]; congr 1; omega

noncomputable def ckFn (F : Fn) (fd : FuncData) : Bool :=
  fd.params.posonlyargs.isEmpty && fd.params.args.map (·.arg) == F.params && fd.params.vararg.isNone && fd.params.kwonlyargs.isEmpty && fd.params.kwarg.isNone && (match fd.defaults with | .none => true | _ => false) &&
  decide F.params.Nodup && fd.closure.isEmpty && fd.globals == mainGlobals && fd.builtins == builtinsNs && fd.scope.kind == .function && !fd.scope.isCoroutine && !fd.scope.isGenerator && ckParams 0 F.params F.σ &&
  decide (F.σ.map (·.2)).Nodup && (F.σ.all fun p => fd.scope.names.lookup p.1 == some .local || fd.scope.names.lookup p.1 == some .cell) && (match fd.body with | .stmts b => ckSs fd.scope F.σ F.body b | _ => false)

theorem inj_of {σ : Slots} (h : (σ.map (·.2)).Nodup) : ∀ n n' i, σ.lookup n = some i → σ.lookup n' = some i → n = n' := by
  induction σ with
  | nil => intro n n' i h; simp at h
  | cons p σ ih =>
    obtain ⟨a, j⟩ := p
    simp only [List.map_cons, List.nodup_cons] at h
    intro n n' i h1 h2
    rw [List.lookup_cons] at h1 h2
    have no : ∀ m, σ.lookup m = some j → False := fun m hm => h.1 (List.mem_map.mpr ⟨_, mem_of_lookup hm, rfl⟩)
    split at h1
    · cases h1; rename_i q1
      split at h2
      · rename_i q2; simp at q1 q2; rw [q1, q2]
      · exact (no _ h2).elim
    · split at h2
      · cases h2; exact (no _ h1).elim
      · exact ih h.2 n n' i h1 h2

theorem fnOk_of (G : X.Good) {F : Fn} {fd : FuncData} (h : ckFn F fd = true) : FnOk X fd F := by
  unfold ckFn at h
  simp only [Bool.and_eq_true, beq_iff_eq, List.isEmpty_iff, Option.isNone_iff_eq_none, decide_eq_true_eq, Bool.not_eq_true', List.all_eq_true, Bool.or_eq_true] at h
  obtain ⟨⟨⟨⟨⟨⟨⟨⟨⟨⟨⟨⟨⟨⟨⟨⟨h1, h2⟩, h3⟩, h4⟩, h5⟩, h6⟩, h7⟩, h8⟩, h9⟩, h10⟩, h11⟩, h12⟩, h13⟩, h14⟩, h15⟩, h16⟩, h17⟩ := h
  refine ⟨⟨h1, h2, h3, h4, h5, ?_, h7⟩, h8, h9, h10, h11, h12, h13, fun i p e => by simpa using ckParams_spec h14 i p e, inj_of h15, fun n i e => h16 _ (mem_of_lookup e), ?_⟩
  · split at h6
    · assumption
    · cases h6
  · split at h17
    · rename_i b hb; exact ⟨b, hb, asmS G _ _ _ _ h17⟩
    · cases h17
end
end Mine

namespace Mine
open PySem PyProof.Rows PySem.Calls PySem.SeqAt PySem.W

/-- a def of the text, checked against its small form -/
noncomputable def Ctx.Def (X : Ctx) (f : Str) (F : Fn) : Prop :=
  ∃ fa o fd, X.fa f = some fa ∧ X.base.get? fa = some o ∧ o.data = .func fd ∧ X.base.CodeRec fd.code fd.qualname ∧ FnOk X fd F

section
variable {X : Ctx} {k : Nat} {f : Str} {args : List V} {h : AH} {Q : V → AH → Prop} {R : Addr → AH → Prop} {F : Fn}
theorem Ctx.Def.call (D : X.Def f F) (G : X.Good) (hlen : args.length = F.params.length)
    (w : wpSs X ⟨k, true⟩ F.body (fun out _ h' => match out with | .next => Q .none h' | .ret v => Q v h') (fun C _ h' => R C h') (F.init args) h) : X.Call (k + 1) f args h Q R :=
  let ⟨_, _, _, a, b, c, d, e⟩ := D; call_intro G a b c d e hlen w
end

noncomputable def noneIn (K : Frag) (n : Str) : Bool := match nsIn K mainGlobals n with | some none => true | _ => false
noncomputable def refIn (K : Frag) (n : Str) (a : Addr) : Bool := match nsIn K mainGlobals n with | some (some (.ref b)) => b == a | _ => false
noncomputable def fnAt (K : Frag) (a : Addr) : Option FuncData := match K.lookup a with
  | some o => (match o.data with | .func fd => some fd | _ => none)
  | none => none
noncomputable def ckFnAt (K : Frag) (a : Addr) (F : Fn) : Bool := match fnAt K a with
  | some fd => codeIn K fd.code fd.qualname && ckFn F fd
  | none => false
noncomputable def biNames : List Str := ["len", "list", "dict", "tuple", "sorted", "min", "max", "int", "any", "all", "str", "isinstance", "bool", "range", "reversed", "ValueError"]
noncomputable def ckFree (K : Frag) : Bool := biNames.all fun n => noneIn K n
noncomputable def ckFns (K : Frag) (fs : List (Str × Addr)) : Bool := fs.all fun p => (fnAt K p.2).isSome && (p.1.cps.contains 46 || refIn K p.1 p.2)

theorem boot_bi (b : Bi) : bootBuiltins (biName b) = some (biVal b) := by cases b <;> decide +kernel
theorem boot_isi : bootBuiltins "isinstance" = some (.builtin "isinstance") := by decide +kernel
theorem boot_ty : ∀ n ∈ (["int", "bool", "str", "list", "dict", "tuple"] : List String), bootBuiltins (Str.ofString n) = some (.type n) := by decide +kernel
theorem boot_range : bootBuiltins "range" = some (.type "range") := by decide +kernel
theorem boot_ve : bootBuiltins "ValueError" = some (.type "ValueError") := by decide +kernel
theorem boot_reversed : bootBuiltins "reversed" = some (.type "reversed") := by decide +kernel

theorem fnAt_spec {K : Frag} {h : Heap} (X : K.In h) {a : Addr} {fd : FuncData} (e : fnAt K a = some fd) : ∃ o, h.get? a = some o ∧ o.data = .func fd := by
  unfold fnAt at e
  split at e
  · rename_i o ho
    split at e
    · rename_i fd' hd; cases e; exact ⟨o, X _ _ ho, hd⟩
    · cases e
  · cases e

theorem noneIn_spec {K : Frag} {h : Heap} {mg : Str → Option Value} {n : Str} (X : K.In h) (G : h.Ns mainGlobals mg) (e : noneIn K n = true) : mg n = none := by
  unfold noneIn at e
  split at e
  · exact mg_none_of X G (by assumption)
  · cases e
theorem refIn_spec {K : Frag} {h : Heap} {mg : Str → Option Value} {n : Str} {a : Addr} (X : K.In h) (G : h.Ns mainGlobals mg) (e : refIn K n a = true) : mg n = some (.ref a) := by
  unfold refIn at e
  split at e
  · rename_i b hb; rw [← beq_iff_eq.mp e]; exact mg_of X G hb
  · cases e

/-- a class of the text: its name, its place, its methods, the names that its things carry -/
structure ClsT where
  name : Str
  place : Addr
  ms : List (Str × Str)
  ats : List Str
noncomputable def clsOkB (K : Frag) (C : Addr) : Bool := makesIn K C && keepIn K (.ref C) && findIn K (.ref C) "__getattribute__" == some (some (.builtin "object.__getattribute__")) && findIn K (.ref C) "__getattr__" == some none &&
  findIn K (.ref C) "__setattr__" == some (some (.builtin "object.__setattr__")) && plainOver K C && (clsIn K C).any (·.hasDict)
noncomputable def methB (K : Frag) (fs : List (Str × Addr)) (C : Addr) (p : Str × Str) : Bool := match fs.lookup p.2 with
  | some fa => findIn K (.ref C) p.1 == some (some (.ref fa)) && typeIn K (.ref fa) == some (.type "function")
  | none => false
noncomputable def ckCl (K : Frag) (fs : List (Str × Addr)) (c : ClsT) : Bool := clsOkB K c.place && refIn K c.name c.place && c.ms.all (methB K fs c.place) && c.ats.all fun n => findIn K (.ref c.place) n == some none
noncomputable def clsL (cs : List ClsT) (n : Str) : Option Addr := (cs.find? (·.name == n)).map (·.place)
noncomputable def methL (cs : List ClsT) (C : Addr) (m : Str) : Option Str := (cs.find? (·.place == C)).bind fun c => c.ms.lookup m
noncomputable def attrL (cs : List ClsT) (C : Addr) (n : Str) : Bool := (cs.find? (·.place == C)).any fun c => c.ats.contains n
theorem kok_none {X : Ctx} {K : Frag} (h1 : ∀ n, X.cls n = none) (h2 : ∀ C m, X.meth C m = none) (h3 : ∀ C n, X.attr C n = false) : KOk X K :=
  ⟨fun n C e => (by rw [h1] at e; cases e), fun C m f e => (by rw [h2] at e; cases e), fun C n e => (by rw [h3] at e; cases e)⟩

/-- a class of exceptions: its name, its place, the places of its own line -/
structure ExcT where
  name : Str
  place : Addr
  anc : List Addr
noncomputable def mroIs (K : Frag) (es : List ExcT) (e : ExcT) : Bool := match K.lookup e.place with
  | some ⟨_, _, .cls cd, _⟩ => es.all fun e' => cd.mro.contains (.ref e'.place) == e.anc.contains e'.place
  | _ => false
noncomputable def ckEx (K : Frag) (es : List ExcT) (e : ExcT) : Bool := refIn K e.name e.place && excIn K e.place bmVE "ValueError.__new__" && mroIs K es e
noncomputable def excL (es : List ExcT) (n : Str) : Option Addr := (es.find? (·.name == n)).map (·.place)
noncomputable def subL (es : List ExcT) (C H : Addr) : Bool := (es.find? (·.place == C)).any fun e => e.anc.contains H
theorem good_of {X : Ctx} {K : Frag} {fs : List (Str × Addr)} (KX : K.In X.base) (g : X.base.Ns mainGlobals X.mg) (b : X.base.Ns builtinsNs X.mb) (lim : X.base.NoLimit) (bt : ∀ x : Str, x ≠ "__name__" → X.mb x = bootBuiltins x)
    (sysm : ∃ a o, sysModules < a ∧ X.base.get? a = some o) (hfa : ∀ n, X.fa n = fs.lookup n) (ck : ckFree K = true) (ckf : ckFns K fs = true) (gl : ∀ n v, X.glob n = some v → ∃ u, X.mg n = some u ∧ RepV X.base v u) (kc : KOk X K) (ex : ∀ n C, X.exc n = some C → ExcAt X n C) : X.Good := by
  have free : ∀ n ∈ biNames, X.mg n = none := fun n hn => noneIn_spec KX g (List.all_eq_true.mp ck n hn)
  refine ⟨ex, .inr ⟨free _ (by decide), (bt _ (by decide)).trans boot_ve⟩, g, b, lim, fun bb => ⟨free _ (by cases bb <;> decide), ?_⟩, ⟨free _ (by decide), ?_⟩, fun n hn => ⟨free _ ?_, ?_⟩, ⟨free _ (by decide), ?_⟩, ⟨free _ (by decide), ?_⟩, fun f a e hd => ?_, fun f a e => ?_, sysm, gl, ⟨K, KX, kc⟩⟩
  · rw [bt _ (by cases bb <;> decide)]; exact boot_bi bb
  · rw [bt _ (by decide)]; exact boot_isi
  · revert n; decide
  · rw [bt _ (by revert n; decide)]; exact boot_ty n hn
  · rw [bt _ (by decide)]; exact boot_range
  · rw [bt _ (by decide)]; exact boot_reversed
  · rw [hfa] at e
    have := List.all_eq_true.mp ckf _ (mem_of_lookup e)
    simp only [Bool.and_eq_true, Bool.or_eq_true] at this
    rcases this.2 with q | q
    · rw [q] at hd; cases hd
    · exact refIn_spec KX g q
  · rw [hfa] at e
    have := List.all_eq_true.mp ckf _ (mem_of_lookup e)
    simp only [Bool.and_eq_true, Bool.or_eq_true] at this
    obtain ⟨fd, hfd⟩ := Option.isSome_iff_exists.mp this.1
    obtain ⟨o, ho, hd⟩ := fnAt_spec KX hfd
    exact ⟨o, fd, ho, hd⟩

theorem def_of {X : Ctx} {K : Frag} {f : Str} {a : Addr} {F : Fn} (G : X.Good) (KX : K.In X.base) (hfa : X.fa f = some a) (ck : ckFnAt K a F = true) : X.Def f F := by
  unfold ckFnAt at ck
  split at ck
  · rename_i fd hfd
    obtain ⟨o, ho, hd⟩ := fnAt_spec KX hfd
    simp only [Bool.and_eq_true] at ck
    exact ⟨a, o, fd, hfa, ho, hd, codeRec_of KX ck.1, fnOk_of G ck.2⟩
  · cases ck

/-- the heap at the start of a law: the script alone -/
noncomputable def startAH (L : Addr) (ns : List Int) : AH := fun a => if a = L then some (.flist (ns.map .int)) else none

theorem startAH_self {L : Addr} {ns : List Int} : startAH L ns L = some (.flist (ns.map .int)) := if_pos rfl

theorem law_end {X : Ctx} {k : Nat} {L fa : Addr} {ns : List Int} {items : List Value} {c : ClaimW} {cl : Str → Option Addr} {mean : ExcName → Option Value} {args : List WData} {s₁ : Shared}
    (hb : X.base = s₁.heap) (hg : s₁.gens = #[]) (hl : s₁.heap.IsList L (List.toArray items)) (hi : RepVs s₁.heap (ns.map .int) items) (hz : ns.length ≤ big) (hk : k ≤ 600)
    (hf : X.fa "law" = some fa) (call : X.Call k "law" [.ref L] (startAH L ns) (fun v _ => v = .bool true) (fun _ _ => False))
    (hn : ∀ cls, c.raises args cls = false) (hp : c.post args (.bool true) args = true) :
    wpAny X.M callerA (PySem.call (.ref fa) [.ref L]) (fun v s' => GoodWG c cl mean args s₁ (.ok (.ret v)) s') (fun e s' => GoodWG c cl mean args s₁ (.error e) s') s₁ := by
  obtain ⟨fa', hfa', call⟩ := call
  rw [hf] at hfa'; cases hfa'
  refine enter_call (codeAny_mono (call callerA s₁ [.ref L] ?_ ⟨[], rfl, fun e he => by cases he⟩ ?_ ?_) fun res s' y => ?_)
  · exact ⟨fun _ => rfl, by show 301 + k < 1000; omega, by show 4 + 10 * k < 9000; omega⟩
  · refine ⟨fun b o e => hb ▸ e, fun a o e => ?_, fun a o e => ?_⟩
    · unfold startAH at e
      split at e
      · cases e; rename_i q; subst q; exact ⟨items, hl, hi, by simpa using hz⟩
      · cases e
    · unfold startAH at e
      split at e
      · cases e; exact .inl ⟨_, rfl⟩
      · cases e
  · exact ⟨.ref L, [], rfl, rep_ref, rfl⟩
  · refine GoodW.toG ?_
    cases res with
    | error e => obtain ⟨_, _, _, _, q⟩ := y; exact q.elim
    | ok fl =>
      cases fl with
      | ret v =>
        obtain ⟨x, ah', rv, st, q⟩ := y
        subst q
        simp only [RepV] at rv; subst rv
        refine ⟨.inl ⟨.bool true, .bool true, [], rfl, hn, .bool true, hp, fun _ => ⟨List.nodup_nil, fun a ha => by cases ha⟩⟩, fun b o e => st.rel.base b o (hb ▸ e), st.rest.2.2, st.rest.1.trans hg⟩
      | next => exact y.elim
      | brk => exact y.elim
      | cont => exact y.elim

theorem top_sysm {p : Program} {loose : List Str} {mean : ExcName → Option Value} {mg mb : Str → Option Value} {h : Heap} (T : Top p loose mean mg mb h) : ∃ a o, sysModules < a ∧ h.get? a = some o := by
  obtain ⟨_, ⟨o, _, _, ho, _⟩, _⟩ := T.nodigits
  exact ⟨_, o, by decide, ho⟩
end Mine

namespace Mine
open PySem PyProof.Rows PySem.Calls PySem.SeqAt PySem.W
/-! the head of a law: one run of the text's top, looked at by the kernel at once -/
noncomputable def isNm : Stmt → Bool
  | .Assign [.Name n _] _ _ => n == ("__name__" : Str)
  | _ => false
noncomputable def viewOf (p : Program) : Program := { p with main := { p.main with body := p.main.body.filter fun s => !isNm s } }
noncomputable def topRunQ (p : Program) (w : World) (n₀ : Nat) (ann : Option Value) : Nat → SharedT → Thread → Option SharedT
  | 0, _, _ => none
  | n + 1, s, t => match through t with
    | true => some s
    | false => match Fast.tw6613529449190102663 n₀ ann t with
      | false => none
      | true => match Fast.tw10156331382660048174 (Fast.tw11892475500146522536 Fast.tw14364793385576792824) p w s t with
        | some (s', t') => topRunQ p w n₀ ann n s' t'
        | none => none
theorem topRunQ_spec {p : Program} {w : World} {n₀ : Nat} {ann : Option Value} : ∀ (n : Nat) (s : SharedT) (t : Thread) (r : SharedT), topRunQ p w n₀ ann n s t = some r → topRun treeTable p w n₀ ann n s.abs t = some r.abs
  | 0, _, _, _, h => by simp [topRunQ] at h
  | n + 1, s, t, r, h => by
    unfold topRunQ at h
    rw [← Fast.te6613529449190102663, ← Fast.te10156331382660048174, ← Fast.te11892475500146522536, ← Fast.te14364793385576792824] at h
    unfold topRun
    cases ht : through t with
    | true => rw [ht] at h; cases h; rfl
    | false =>
      rw [ht] at h
      cases hk : stepOk n₀ ann t with
      | false => rw [hk] at h; cases h
      | true =>
        rw [hk] at h
        cases hs : stepT (denote treeTable) p w s t with
        | none => rw [hs] at h; cases h
        | some y =>
          obtain ⟨s', t'⟩ := y
          rw [hs] at h
          show (match step (denote treeTable) p w s.abs t with | .go s' t' => topRun treeTable p w n₀ ann n s' t' | .halt _ _ => none) = _
          rw [stepT_spec hs]
          exact topRunQ_spec n s' t' r h
noncomputable def bootT (P : Params) : BT := ((boot_heap P).objs.toList.foldl (fun (x : BT × Nat) o => (x.1.ins x.2 o, x.2 + 1)) (.nil, 0)).1
theorem bootT_abs (P : Params) : absHeap (bootT P) (boot_heap P).objs.size (boot_heap P).life = boot_heap P := by kernel_rfl
theorem boot_ns (P : Params) : (boot_heap P).isNs mainGlobals = true := by kernel_rfl
noncomputable def bootS (w : World) (os : OsState) : SharedT := ⟨bootT w.params, (boot_heap w.params).objs.size, (boot_heap w.params).life, #[], boot_drawn, boot_toks, os⟩
noncomputable def topLook {α : Type} (p q : Program) (Xt : Shared → Bool) (Yf : Shared → α) (w : World) (N : Nat) (os : OsState) :=
  (topRunQ p w (boot_heap w.params).objs.size ((boot_heap w.params).nsMap mainGlobals "__annotations__") N (bootS w os) (topStub p)).map fun s =>
    (staticsOk (importedModules p.main.body) (boot_heap w.params) s.abs.heap && namesBound p s.abs.heap && gensDone s.abs && laidKept (boot_heap w.params) s.abs.heap, Fast.tw4187177175401517315 q [] (importedModules p.main.body) Xt true s.abs, Yf s.abs)
theorem left_of {p q : Program} {Xt : Shared → Bool} {α : Type} {Yf : Shared → α} {y : α} {N : Nat}
    (e : opening p = plainProg p.main.scope.names) (hN : Nat.ble 600 N = true) (f : ∀ s, fenceModules? p s = some s)
    (run : ∀ (w : World) (os : OsState), topLook p q Xt Yf w N os = some (true, openGood q [], y)) : LeftO p q [] Xt Yf (fun _ => y) N := fun w => by
  obtain ⟨⟨h, gs, d, k, os⟩, e1, e2⟩ := Option.map_eq_some_iff.mp (boot_open e hN f w)
  obtain ⟨rfl, rfl, rfl, rfl⟩ : h = boot_heap w.params ∧ gs = #[] ∧ d = boot_drawn ∧ k = boot_toks := by simpa using e2
  obtain ⟨s, hs, l⟩ := Option.map_eq_some_iff.mp (run w os)
  have hs := topRunQ_spec _ _ _ _ hs
  obtain ⟨l1, l2, l3⟩ : _ ∧ _ ∧ _ := by simpa only [Prod.mk.injEq] using l
  rw [← Fast.te4187177175401517315] at l2
  have ab : (bootS w os).abs = ⟨boot_heap w.params, #[], boot_drawn, boot_toks, os⟩ := by
    show Shared.mk (absHeap (bootT w.params) (boot_heap w.params).objs.size (boot_heap w.params).life) #[] boot_drawn boot_toks os = _
    rw [bootT_abs]
  rw [ab] at hs
  unfold openEnds
  rw [e1]
  show (topFrom treeTable p w N _).map _ = _
  have t : topFrom treeTable p w N ⟨boot_heap w.params, #[], boot_drawn, boot_toks, os⟩ = some s.abs := by
    unfold topFrom
    dsimp only
    rw [boot_ns, hs]
    show (match staticsOk (importedModules p.main.body) (boot_heap w.params) s.abs.heap && namesBound p s.abs.heap && gensDone s.abs && laidKept (boot_heap w.params) s.abs.heap with | true => _ | false => _) = _
    rw [l1]
  rw [t]
  exact congrArg some (Prod.ext l2 l3)

noncomputable def fragAt (h : Heap) (as : List Addr) : Frag := as.filterMap fun a => (h.get? a).map fun o => (a, o)
theorem fragAt_in {h : Heap} : ∀ {as : List Addr}, (fragAt h as).In h
  | [], a, o, e => by cases e
  | b :: as, a, o, e => by
    unfold fragAt at e
    cases hb : h.get? b with
    | none => rw [List.filterMap_cons_none (by rw [hb]; rfl)] at e; exact fragAt_in (as := as) a o e
    | some x =>
      rw [List.filterMap_cons_some (by rw [hb]; rfl)] at e
      by_cases q : a = b
      · subst q
        rw [List.lookup_cons, beq_self_eq_true] at e
        exact hb.trans e
      · rw [List.lookup_cons, beq_false_of_ne q] at e
        exact fragAt_in (as := as) a o e
/-- what the head tells of the text's objects -/
noncomputable def Says (ck : Frag → Bool) (_ : World) (h : Heap) : Prop := ∃ K : Frag, K.In h ∧ ck K = true
theorem law_holds {l : OpenLaw} {ck : Frag → Bool} {as : List Addr} {N : Nat} (said : l.wellSaid = true)
    (e : opening l.row.prog = plainProg l.row.prog.main.scope.names) (hN : Nat.ble 600 N = true) (f : ∀ s, fenceModules? l.row.prog s = some s)
    (run : ∀ (w : World) (os : OsState), topLook l.row.prog (viewOf l.row.prog) (fun s => xlAt (viewOf l.row.prog) [] s && recOk l.row.records s) (fun s => ck (fragAt s.heap as)) w N os = some (true, openGood (viewOf l.row.prog) [], true))
    (hdef : ∃ d kwd, defOf (viewOf l.row.prog) l.row.name = some (d, kwd) ∧ l.row.prog.theDef l.row.name = some (d.params, d.body, d.scope) ∧ kwWritten? d.params.kwonlyargs d.params.kw_defaults = some kwd)
    (hwr : (!l.row.writes || l.row.records.isEmpty) = true) (ok : (chainsOk (viewOf l.row.prog) && opensWell l.row.prog && (frees l.row.toRowW && l.row.within.isEmpty)) = true) (hb : l.row.prog.bare) (hw : l.row.toRowW.promised)
    (walk : ∀ d kwd, d.name = l.row.name → WalkO (viewOf l.row.prog) [] (XL (viewOf l.row.prog) []) (Says ck) l.row.toRowW d kwd fun f vs => PySem.call f vs) : l.Holds :=
  let ⟨d, kwd, hdef, hp, hk⟩ := hdef
  holds_law said fun k1 => holds_open (left_of e hN f run) (fun w s y => ⟨_, fragAt_in, y⟩) (fun w h h' ⟨K, a, b⟩ k => ⟨K, fun x o q => k _ _ (a x o q), b⟩)
    (fun s e => xl_of s (Bool.and_eq_true_iff.mp e).1) XL.keeps hdef hp hk (fun s e => recFacts_of (Bool.and_eq_true_iff.mp e).2) hwr k1 ok hb hw (walk d kwd (defOf_name hdef))
/-- the whole check of a text: names, places, small forms, classes -/
noncomputable def ckText (fs : List (Str × Addr)) (Fs : List Fn) (cs : List ClsT) (es : List ExcT) (K : Frag) : Bool := ckFree K && ckFns K fs && cs.all (ckCl K fs) && es.all (ckEx K es) && (fs.zip Fs).all fun x => ckFnAt K x.1.2 x.2
structure HeadOk (fs : List (Str × Addr)) (Fs : List Fn) (cs : List ClsT) (es : List ExcT) (K : Frag) : Prop where
  free : ckFree K = true
  fns : ckFns K fs = true
  cls : cs.all (ckCl K fs) = true
  exs : es.all (ckEx K es) = true
  defs : ∀ (i : Nat) (f : Str) (a : Addr) (F : Fn), fs[i]? = some (f, a) → Fs[i]? = some F → ckFnAt K a F = true
theorem headOk_of {fs : List (Str × Addr)} {Fs : List Fn} {cs : List ClsT} {es : List ExcT} {K : Frag} (h : ckText fs Fs cs es K = true) : HeadOk fs Fs cs es K := by
  unfold ckText at h
  simp only [Bool.and_eq_true] at h
  refine ⟨h.1.1.1.1, h.1.1.1.2, h.1.1.2, h.1.2, fun i f a F e1 e2 => ?_⟩
  refine List.all_eq_true.mp h.2 ((f, a), F) (List.mem_of_getElem? (i := i) ?_)
  rw [List.getElem?_zip_eq_some]
  exact ⟨e1, e2⟩
theorem HeadOk.def {X : Ctx} {fs : List (Str × Addr)} {Fs : List Fn} {cs : List ClsT} {es : List ExcT} {K : Frag} (H : HeadOk fs Fs cs es K) (G : X.Good) (KX : K.In X.base) (i : Nat) {f : Str} {a : Addr} {F : Fn} (e1 : fs[i]? = some (f, a)) (e2 : Fs[i]? = some F) (hfa : X.fa f = some a) : X.Def f F :=
  def_of G KX hfa (H.defs i f a F e1 e2)
theorem HeadOk.ref {X : Ctx} {fs : List (Str × Addr)} {Fs : List Fn} {cs : List ClsT} {es : List ExcT} {K : Frag} (H : HeadOk fs Fs cs es K) (KX : K.In X.base) (g : X.base.Ns mainGlobals X.mg) (i : Nat) {f : Str} {a : Addr} (e1 : fs[i]? = some (f, a)) (hd : f.cps.contains 46 = false) : X.mg f = some (.ref a) := by
  have := List.all_eq_true.mp H.fns _ (List.mem_of_getElem? e1)
  simp only [Bool.and_eq_true, Bool.or_eq_true] at this
  rcases this.2 with q | q
  · rw [hd] at q; cases q
  · exact refIn_spec KX g q
/-! names of the text that hold a number or a text -/
end Mine

namespace Mine
open PySem PyProof.Rows PySem.W

noncomputable def cellAt (ns : List Int) (i : Nat) : Int := ns[i]?.getD 0

theorem pyIdx_nat {α : Type} (vs : List α) (i : Nat) : pyIdx vs (i : Int) = vs[i]? := by
  unfold pyIdx
  rw [if_pos (by omega)]
  simp
theorem zax {α : Type} (x : α) (r : List α) : pyIdx (x :: r) 0 = some x := rfl
theorem zay {α : Type} (x y : α) (r : List α) : pyIdx (x :: y :: r) 1 = some y := rfl
theorem zaz {α : Type} (x y z : α) (r : List α) : pyIdx (x :: y :: z :: r) 2 = some z := rfl
theorem zba {α : Type} (x y z u : α) (r : List α) : pyIdx (x :: y :: z :: u :: r) 3 = some u := rfl
theorem pyIdxL {α : Type} (l : List α) : pyIdx l (-1) = l.getLast? := by
  unfold pyIdx
  rw [if_neg (by omega)]
  cases l with
  | nil => rfl
  | cons a r =>
    rw [if_pos (by simp; omega), List.getLast?_eq_getElem?]
    congr 1
    simp; omega

section
variable {h : AH} {Q : V → AH → Prop}
theorem eqv_int (n : Nat) (a b : Int) : eqv h (n + 1) (.int a) (.int b) = some (decide (a = b)) := by simp [eqv]; rfl
theorem eqv_bool (n : Nat) (a b : Bool) : eqv h (n + 1) (.bool a) (.bool b) = some (decide (a = b)) := by simp [eqv]; rfl
theorem zab (a b : Int) : cmpV h .Lt (.int a) (.int b) = some (decide (a < b)) := rfl
theorem zac (a b : Int) : cmpV h .LtE (.int a) (.int b) = some (decide (a ≤ b)) := rfl
theorem zad (a b : Int) : cmpV h .Gt (.int a) (.int b) = some (decide (b < a)) := rfl
theorem zae (a b : Int) : cmpV h .GtE (.int a) (.int b) = some (decide (b ≤ a)) := rfl
theorem zbk (a b : Int) : cmpV h .Eq (.int a) (.int b) = some (decide (a = b)) := eqv_int (h := h) 7 a b
theorem zbl (a b : Int) : cmpV h .NotEq (.int a) (.int b) = some (decide (¬ a = b)) := by unfold cmpV; simp only [eqv_int 7 a b]; simp
theorem zbm (a b : Bool) : cmpV h .Eq (.bool a) (.bool b) = some (decide (a = b)) := eqv_bool (h := h) 7 a b
theorem zbn (a b : Bool) : cmpV h .NotEq (.bool a) (.bool b) = some (decide (¬ a = b)) := by unfold cmpV; simp only [eqv_bool 7 a b]; simp
theorem zaf (x y : V) : cmpV h .Is x y = isV x y := rfl
theorem zag (x y : V) : cmpV h .IsNot x y = (isV x y).map (!·) := rfl
theorem zah (x y : V) : cmpV h .In x y = inV h x y := rfl
theorem zai (x y : V) : cmpV h .NotIn x y = (inV h x y).map (!·) := rfl
theorem zak (b : Bool) : truthV h (.bool b) = some b := rfl
theorem zal : truthV h .none = some false := rfl
theorem zbo (i : Int) : truthV h (.int i) = some (decide (¬ i = 0)) := by simp [truthV]; rfl
theorem tr_list {a : Addr} {vs : List V} (e : h a = some (.list vs)) : truthV h (.ref a) = some (!vs.isEmpty) := by simp [truthV, e]
theorem zaj (vs : List V) (k : Int) : getV h (.tup vs) (.int k) = pyIdx vs k := rfl
theorem gv_list {a : Addr} {vs : List V} {k : Int} (e : h a = some (.list vs)) : getV h (.ref a) (.int k) = pyIdx vs k := by simp [getV, e]
theorem gv_idict {a : Addr} {d : List (Int × V)} {ep : Nat} {k : Int} (e : h a = some (.idict d ep)) : getV h (.ref a) (.int k) = dget d k := by simp [getV, e]
theorem lv_list {a : Addr} {vs : List V} (e : h a = some (.list vs)) : lenV h (.ref a) = some vs.length := by simp [lenV, e]
theorem zaa (vs : List V) : lenV h (.tup vs) = some vs.length := rfl
theorem zam (a b : Int) : binop .Add (.int a) (.int b) h Q = Q (.int (a + b)) h := rfl
theorem zan (a b : Int) : binop .Sub (.int a) (.int b) h Q = Q (.int (a - b)) h := rfl
theorem zao (a b : Int) : binop .Mult (.int a) (.int b) h Q = (((-(2 ^ 60) < a ∧ a < 2 ^ 60) ∨ (-(2 ^ 60) < b ∧ b < 2 ^ 60)) ∧ Q (.int (a * b)) h) := rfl
theorem zap (a b : Int) : binop .Mod (.int a) (.int b) h Q = (0 < b ∧ Q (.int (a % b)) h) := rfl
theorem zaq (a b : Int) : binop .FloorDiv (.int a) (.int b) h Q = ((0 < b ∧ b < 10 ^ 100) ∧ Q (.int (a / b)) h) := rfl
theorem zar (a b : Int) : binop .Pow (.int a) (.int b) h Q = ((0 ≤ a ∧ a ≤ 10 ∧ 0 ≤ b ∧ b ≤ 100) ∧ Q (.int (a ^ b.toNat)) h) := rfl
theorem zas (a b : List V) : binop .Add (.tup a) (.tup b) h Q = ((a.length + b.length ≤ small) ∧ Q (.tup (a ++ b)) h) := rfl
theorem zat : (BoolOp.And == BoolOp.Or) = false := rfl
theorem zau : (BoolOp.Or == BoolOp.Or) = true := rfl
theorem zav : (BoolOp.And == BoolOp.And) = true := rfl
theorem zaw : (BoolOp.Or == BoolOp.And) = false := rfl
theorem put_self (a : Addr) (o : O) : h.put a o a = some o := by simp [AH.put]
theorem put_ne {a b : Addr} (o : O) (n : b ≠ a) : h.put a o b = h b := by simp [AH.put, n]
end

theorem wcons {X : Ctx} {c : Cfg} {s : St} {r : List St} {Q : QS} {R : RS} {fr : Fm} {h : AH} : wpSs X c (s :: r) Q R fr h = wpS X c s (fun out fr1 h1 => match out with | .next => wpSs X c r Q R fr1 h1 | .ret v => Q (.ret v) fr1 h1) R fr h := by first | (rw [wpSs]; done) | (rw [wpSs]; rfl)
theorem zbj {X : Ctx} {c : Cfg} {Q : QS} {R : RS} {fr : Fm} {h : AH} : wpSs X c [] Q R fr h = Q .next fr h := by rw [wpSs]
theorem Ctx.Def.some {X : Ctx} {f : Str} {F : Fn} (D : X.Def f F) : (X.fa f).isSome = true := let ⟨_, _, _, a, _⟩ := D; by rw [a]; rfl
theorem Ctx.Def.go {X : Ctx} {f : Str} {F : Fn} {k : Nat} {vs : List V} {h : AH} {Q : V → AH → Prop} {R : RX} (D : X.Def f F) (c : X.Call k f vs h Q R) : True ∧ ∃ k', k + 1 = k' + 1 ∧ X.Call k' f vs h Q R := ⟨trivial, k, rfl, c⟩

/-- the def that reads the script -/
noncomputable def fCell : Fn := ⟨["_law_script", "_law_k"], [("_law_script", 0), ("_law_k", 1)], 2, [
    .ite (.cmp .Lt (.var 1) (.bi .len [(.var 0)])) [
      .ret (.sub (.var 0) (.var 1))] [],
    .ret (.lit (.int 0))]⟩

theorem c_cell {X : Ctx} (G : X.Good) (D : X.Def "_law_cell_at" fCell) {k : Nat} {h : AH} {L : Addr} {ns : List Int} {i : Int} {Q R} (hL : h L = some (.flist (ns.map .int))) (hi : 0 ≤ i) (q : Q (.int (cellAt ns i.toNat)) h) :
    X.Call (k + 1) "_law_cell_at" [.ref L, .int i] h Q R := by
  obtain ⟨j, rfl⟩ := Int.eq_ofNat_of_zero_le hi
  refine D.call G rfl ?_
  dsimp only [fCell, Fn.init, wpSs, wpS, wpT, wpE, wpEs, List.map_cons, List.map_nil, List.length_cons, List.length_nil, List.cons_append, List.nil_append, List.getElem?_cons_zero, List.getElem?_cons_succ]
  simp only [biP, lenV, zab, getV, hL, List.map_cons, List.map_nil, List.length_cons, List.length_nil, List.cons_append, List.nil_append, List.getElem?_cons_zero, List.getElem?_cons_succ]
  refine ⟨trivial, ?_⟩
  rw [pyIdx_nat]
  simp only [Int.toNat_natCast] at q
  unfold cellAt at q
  by_cases hj : j < ns.length
  · simp [hj] at q ⊢; exact q
  · simp [hj] at q ⊢; exact q
end Mine

namespace Mine

/-! maps of ints -/
noncomputable abbrev IM := List (Int × Int)
noncomputable def mget (m : IM) (k : Int) : Option Int := (m.find? fun p => p.1 = k).map (·.2)
noncomputable def mput (m : IM) (k v : Int) : IM := if m.any (fun p => p.1 = k) then m.map (fun p => if p.1 = k then (p.1, v) else p) else m ++ [(k, v)]
theorem mget_mem {m : IM} {k v : Int} (h : mget m k = some v) : (k, v) ∈ m := by
  unfold mget at h
  rw [Option.map_eq_some_iff] at h
  obtain ⟨p, hp, rfl⟩ := h
  have := List.find?_some hp
  simp only [decide_eq_true_eq] at this
  have hm := List.mem_of_find?_eq_some hp
  subst this; exact hm
theorem mem_mget {m : IM} {k v : Int} (h : (k, v) ∈ m) : ∃ u, mget m k = some u := by
  unfold mget
  cases e : m.find? fun p => p.1 = k with
  | some p => exact ⟨_, rfl⟩
  | none => rw [List.find?_eq_none] at e; exact absurd (decide_eq_true rfl) (e _ h)
theorem mget_none {m : IM} {k : Int} (h : ∀ p ∈ m, p.1 ≠ k) : mget m k = none := by
  cases e : mget m k with
  | none => rfl
  | some v => exact absurd rfl (h _ (mget_mem e))
theorem mem_mput {m : IM} {k v : Int} {p : Int × Int} (h : p ∈ mput m k v) : p ∈ m ∨ p = (k, v) := by
  unfold mput at h
  split at h
  · obtain ⟨q, hq, rfl⟩ := List.mem_map.mp h
    by_cases e : q.1 = k
    · right; simp [e]
    · left; simpa [e] using hq
  · rcases List.mem_append.mp h with h | h
    · exact .inl h
    · right; simpa using h
theorem mput_length {m : IM} {k v : Int} : (mput m k v).length ≤ m.length + 1 := by
  unfold mput
  split <;> simp

/-! the way up -/
noncomputable def wayL (m : IM) : Nat → Int → List Int
  | 0, x => [x]
  | n + 1, x => match mget m x with | none => [x] | some y => x :: wayL m n y
noncomputable def ends (m : IM) : Nat → Int → Prop
  | 0, x => mget m x = none
  | n + 1, x => match mget m x with | none => True | some y => ends m n y
theorem ends_succ {m : IM} : ∀ {n : Nat} {x : Int}, ends m n x → ends m (n + 1) x
  | 0, x, h => by unfold ends at h ⊢; rw [h]; trivial
  | n + 1, x, h => by
    unfold ends at h ⊢
    split
    · trivial
    · rename_i y hy; rw [hy] at h; exact ends_succ h
theorem ends_le {m : IM} {n k : Nat} {x : Int} (h : ends m n x) (l : n ≤ k) : ends m k x := by
  induction l with
  | refl => exact h
  | step _ ih => exact ends_succ ih
theorem wayL_ne {m : IM} {n : Nat} {x : Int} : wayL m n x ≠ [] := by
  cases n with
  | zero => simp [wayL]
  | succ n => unfold wayL; split <;> simp
theorem wayL_mono {m : IM} : ∀ {n k : Nat} {x : Int}, ends m n x → n ≤ k → wayL m k x = wayL m n x
  | 0, 0, x, h, l => rfl
  | 0, k + 1, x, h, l => by unfold ends at h; unfold wayL; rw [h]
  | n + 1, k + 1, x, h, l => by
    unfold ends at h; unfold wayL
    cases e : mget m x with
    | none => rfl
    | some y => rw [e] at h; simp only; rw [wayL_mono h (by omega)]

/-! names of folders -/
noncomputable def someI (c : Int) : Int :=
  if c / 4 % 6 = 0 then 1 else if c / 4 % 6 = 1 then 10 ^ 9 else if c / 4 % 6 = 2 then 10 ^ 20 else if c / 4 % 6 = 3 then 10 ^ 33 else if c / 4 % 6 = 4 then 10 ^ 47 else 10 ^ 57
noncomputable def nm (c k : Int) : Int :=
  if c % 4 = 1 then 10 ^ 60 - k
  else if c % 4 = 2 then 1 + (c / 24 + k * someI c) % 10 ^ 60
  else if c % 4 = 3 then 1 + 7 * k
  else if c / 224 % 2 = 1 ∧ k % 2 = 1 then 10 ^ 60 - k
  else 1 + k
theorem nm_pos {c k : Int} (h0 : 0 ≤ k) (h1 : k ≤ 500) : 0 < nm c k := by
  unfold nm
  repeat' split
  all_goals omega
theorem nm_inj {c j k : Int} (h0 : 0 ≤ k) (h1 : k ≤ 500) (h2 : 0 ≤ j) (h3 : j ≤ 500) (e : nm c j = nm c k) : j = k := by
  unfold nm at e
  split at e
  · omega
  split at e
  · unfold someI at e
    generalize c / 24 = A at e
    generalize c / 4 % 6 = B at e
    repeat' split at e
    all_goals omega
  split at e
  · omega
  split at e <;> split at e <;> omega

end Mine

namespace Mine
open PySem PyProof.Rows PySem.W

/-! heaps that grow -/
noncomputable def Ext (h h' : AH) : Prop := ∀ a o, h a = some o → h' a = some o
theorem Ext.refl {h : AH} : Ext h h := fun _ _ e => e
theorem Ext.trans {a b c : AH} (x : Ext a b) (y : Ext b c) : Ext a c := fun _ _ e => y _ _ (x _ _ e)
theorem ext_put {h : AH} {c : Addr} {o : O} (n : h c = none) : Ext h (h.put c o) := fun a o' e => by
  unfold AH.put
  split
  · rename_i q; rw [q, n] at e; cases e
  · exact e
theorem Ext.no {h h' : AH} (x : Ext h h') {a : Addr} (n : h' a = none) : h a = none := by
  cases e : h a with
  | none => rfl
  | some o => rw [x _ _ e] at n; cases n
theorem addr_ne {h : AH} {a c : Addr} {o : O} (e : h a = some o) (n : h c = none) : a ≠ c := fun q => by rw [q, n] at e; cases e
theorem new_go {o : O} {h : AH} {Q : V → AH → Prop} (q : ∀ c h1, h c = none → Ext h h1 → h1 c = some o → Q (.ref c) h1) : newP o h Q :=
  fun c n => q c _ n (ext_put n) (put_self c o)
/-- one object is changed -/
noncomputable def Upd (a : Addr) (h h' : AH) : Prop := ∀ b, b ≠ a → h' b = h b
theorem upd_put {h : AH} {a : Addr} {o : O} : Upd a h (h.put a o) := fun b n => put_ne o n
theorem Upd.at {h h' : AH} {a b : Addr} {o : O} (u : Upd a h h') (e : h b = some o) (n : b ≠ a) : h' b = some o := (u b n).trans e

/-! maps of ints as dicts -/
noncomputable def iD (m : IM) : List (Int × V) := m.map fun p => (p.1, .int p.2)
theorem iD_length (m : IM) : (iD m).length = m.length := List.length_map ..
theorem dget_iD (m : IM) (k : Int) : dget (iD m) k = (mget m k).map V.int := by
  unfold dget mget iD
  induction m with
  | nil => rfl
  | cons p m ih =>
    rw [List.map_cons, List.find?_cons, List.find?_cons]
    by_cases e : p.1 = k
    · simp [e]
    · simpa [e] using ih
theorem dput_iD (m : IM) (k v : Int) : dput (iD m) k (.int v) = iD (mput m k v) := by
  unfold dput mput iD
  have : (m.map fun p => (p.1, V.int p.2)).any (fun kv => kv.1 = k) = m.any (fun p => p.1 = k) := by rw [List.any_map]; rfl
  rw [this]
  split
  · rw [List.map_map, List.map_map]
    refine List.map_congr_left fun p _ => ?_
    show (if p.1 = k then (p.1, V.int v) else (p.1, V.int p.2)) = ((if p.1 = k then (p.1, v) else p).1, V.int (if p.1 = k then (p.1, v) else p).2)
    split <;> rfl
  · simp

theorem zbb {α : Type} (a b c d x : α) (r : List α) : pyIdx (a :: b :: c :: d :: x :: r) 4 = some x := rfl
theorem zbc {α : Type} (a b c d e x : α) (r : List α) : pyIdx (a :: b :: c :: d :: e :: x :: r) 5 = some x := rfl
theorem zbd {α : Type} (a b c d e f x : α) (r : List α) : pyIdx (a :: b :: c :: d :: e :: f :: x :: r) 6 = some x := rfl
theorem zbe {α : Type} (a b c d e f g x : α) (r : List α) : pyIdx (a :: b :: c :: d :: e :: f :: g :: x :: r) 7 = some x := rfl

theorem zbp : ((2 : Int) < 10 ^ 100) = True := eq_true (by decide)
theorem zbq : ((4 : Int) < 10 ^ 100) = True := eq_true (by decide)
theorem zbr : ((6 : Int) < 10 ^ 100) = True := eq_true (by decide)
theorem zbs : ((8 : Int) < 10 ^ 100) = True := eq_true (by decide)
theorem zbt : ((9 : Int) < 10 ^ 100) = True := eq_true (by decide)
theorem zbu : ((16 : Int) < 10 ^ 100) = True := eq_true (by decide)
theorem zbv : ((24 : Int) < 10 ^ 100) = True := eq_true (by decide)
theorem zbw : ((28 : Int) < 10 ^ 100) = True := eq_true (by decide)
theorem zbx : ((60 : Int) < 10 ^ 100) = True := eq_true (by decide)
theorem zby : ((224 : Int) < 10 ^ 100) = True := eq_true (by decide)
theorem zbz : ((540 : Int) < 10 ^ 100) = True := eq_true (by decide)
theorem zca : ((0 : Int) < 10 ^ 60) = True := eq_true (by decide)

theorem zbf {a b : Prop} : (if true = true then a else b) = a := rfl
theorem zbg {a b : Prop} : (if false = true then a else b) = b := rfl
theorem zbh {a b : Prop} : (if true = false then a else b) = b := rfl
theorem zbi {a b : Prop} : (if false = false then a else b) = a := rfl
/-! short names -/
theorem ya {α β : Type} (f : α → β) (a : α) (l : List α) : (a :: l).map f = f a :: l.map f := rfl
theorem yb {α β : Type} (f : α → β) : ([] : List α).map f = [] := rfl
theorem yc {α : Type} (a : α) (l : List α) : (a :: l).length = l.length + 1 := rfl
theorem yd {α : Type} : ([] : List α).length = 0 := rfl
theorem ye {α : Type} (a : α) (l m : List α) : (a :: l) ++ m = a :: (l ++ m) := rfl
theorem yf {α : Type} (m : List α) : ([] : List α) ++ m = m := rfl
theorem yg {α : Type} (a : α) (l : List α) : (a :: l)[0]? = some a := rfl
theorem yh {α : Type} (a : α) (l : List α) (i : Nat) : (a :: l)[i + 1]? = l[i]? := rfl
theorem yi {α : Type} (a b : α) (l : List α) : (a :: l).set 0 b = b :: l := rfl
theorem yj {α : Type} (a b : α) (l : List α) (i : Nat) : (a :: l).set (i + 1) b = a :: l.set i b := rfl
theorem yk (b : Bool) : (true || b) = true := rfl
theorem yl (b : Bool) : (false || b) = b := rfl
theorem ym (b : Bool) : (true && b) = b := rfl
theorem yn (b : Bool) : (false && b) = false := rfl
theorem yo (b : Bool) : (b || false) = b := Bool.or_false b
theorem yp (b : Bool) : (b || true) = true := Bool.or_true b
theorem yq (b : Bool) : (b && false) = false := Bool.and_false b
theorem yr (b : Bool) : (b && true) = b := Bool.and_true b
theorem ys (p : Prop) [Decidable p] : (decide p = true) = p := decide_eq_true_eq
theorem yt (p : Prop) [Decidable p] : (decide p = false) = ¬ p := propext decide_eq_false_iff_not
theorem yu (p : Prop) [Decidable p] [Decidable (¬ p)] : decide (¬ p) = !decide p := decide_not
theorem yv (b : Bool) : ((!b) = true) = (b = false) := Bool.not_eq_true' b
theorem yw : (!true) = false := rfl
theorem yx : (!false) = true := rfl
theorem yy : (false = true) = False := Bool.false_eq_true
theorem yz : (true = false) = False := Bool.true_eq_false
/-! loops -/
theorem loop_inv {F : V → Fm → AH → QS → Prop} {g : Guard} {Q : QS} (I : List V → Fm → AH → Prop) (hg : ∀ vs fr h, I vs fr h → g.ok h)
    (hs : ∀ v vs fr h (K : QS), I (v :: vs) fr h → (∀ fr' h', I vs fr' h' → K .next fr' h') → F v fr h K) (hn : ∀ fr h, I [] fr h → Q .next fr h) : ∀ {vs fr h}, I vs fr h → loopL F g vs fr h Q
  | [], fr, h, i => ⟨hg _ _ _ i, hn _ _ i⟩
  | v :: vs, fr, h, i => ⟨hg _ _ _ i, hs v vs fr h _ i fun fr' h' i' => loop_inv I hg hs hn i'⟩
theorem loop_range {F : V → Fm → AH → QS → Prop} {Q : QS} {m : Int} (I : Nat → Fm → AH → Prop) : ∀ {n : Nat} {fr h} (j : Nat),
    (∀ i fr h (K : QS), i < j + n → I i fr h → (∀ fr' h', I (i + 1) fr' h' → K .next fr' h') → F (.int (m + (i : Nat))) fr h K) → (∀ fr h, I (j + n) fr h → Q .next fr h) → I j fr h →
    loopL F freeG ((List.range' j n).map fun i => .int (m + (i : Nat))) fr h Q
  | 0, fr, h, j, hs, hn, i => ⟨trivial, hn _ _ i⟩
  | n + 1, fr, h, j, hs, hn, i => ⟨trivial, hs j fr h _ (by omega) i fun fr' h' i' => by
      refine loop_range I (j + 1) (fun i fr h K l => hs i fr h K (by omega)) (fun fr h q => hn fr h ?_) i'
      rw [show j + (n + 1) = j + 1 + n by omega]; exact q⟩
theorem loop_range0 {F : V → Fm → AH → QS → Prop} {Q : QS} {m : Int} (I : Nat → Fm → AH → Prop) {n : Nat} {fr h}
    (hs : ∀ i fr h (K : QS), i < n → I i fr h → (∀ fr' h', I (i + 1) fr' h' → K .next fr' h') → F (.int (m + (i : Nat))) fr h K) (hn : ∀ fr h, I n fr h → Q .next fr h) (i : I 0 fr h) :
    loopL F freeG ((List.range n).map fun i => .int (m + (i : Nat))) fr h Q := by
  rw [List.range_eq_range']
  exact loop_range I 0 (fun i fr h K l => hs i fr h K (by omega)) (fun fr h q => hn fr h (by simpa using q)) i

/-! tests of membership -/
theorem inL_ints {h : AH} {n : Nat} {x : Int} : ∀ {l : List Int}, inL (eqv h (n + 1)) (.int x) (l.map .int) = some (decide (x ∈ l))
  | [] => by simp [inL]
  | y :: l => by
    rw [List.map_cons, inL, eqv_int, inL_ints]
    simp only [List.mem_cons, Bool.decide_or]
    congr 2
    exact decide_eq_decide.mpr ⟨Eq.symm, Eq.symm⟩
theorem inV_idict {h : AH} {a : Addr} {d : IM} {ep : Nat} {x : Int} (e : h a = some (.idict (iD d) ep)) : inV h (.int x) (.ref a) = some (mget d x).isSome := by
  unfold inV; simp only [e, dget_iD, Option.isSome_map]
theorem inV_tup {h : AH} {l : List Int} {x : Int} : inV h (.int x) (.tup (l.map .int)) = some (decide (x ∈ l)) := inL_ints
end Mine

namespace Mine
open PySem PySem.W PyProof.Rows
section
variable {X : Ctx}

noncomputable def fWhole : Fn := ⟨["_law_found"], [("_law_found", 0)], 1, [
    .ret (.bop .And [(.isi (.var 0) [.int]), (.not (.isi (.var 0) [.bool]))])]⟩
theorem c_whole (G : X.Good) (D : X.Def "_law_whole" fWhole) {k : Nat} {h : AH} {i : Int} {Q R} (q : Q (.bool true) h) : X.Call (k + 1) "_law_whole" [.int i] h Q R := by
  refine D.call G rfl ?_
  unfold fWhole
  (rw [wcons]; (((try dsimp only [Fn.init,wpS,wpT,wpTs,wpB,wpI,wpC,wpE,wpEs,biP,zaa,zab,zac,zad,zae,zaf,zag,zah,zai,zaj,zak,zal,zam,zan,zao,zap,zaq,zar,zas,zat,zau,zav,zaw,zax,zay,zaz,zba,zbb,zbc,zbd,zbe,isiV,kindV,kindO,tyN,srcP,ya,yb,yc,yd,List.replicate,ye,yf,yg,yh,yi,yj,Nat.reduceSub,Nat.reduceAdd,Nat.reduceBEq,yk,yl,ym,yn,yw,yx,zbf,zbg,zbh,zbi]); (try simp only [zbj,zaa,zaf,zag,zah,zai,zas,zbb,zbc,zbd,zbe,zab,zac,zad,zae,zbk,zbl,zbm,zbn,zak,zal,zbo,zaj,zam,zan,zao,zap,zaq,zar,zax,zay,zaz,zba,zat,zau,zav,zaw,Nat.reduceBEq,yo,yl,yk,yp,yq,yn,yr,ym,ya,yb,yc,yd,ye,yf,yg,yh,yi,yj,not_true_eq_false,not_false_eq_true,Classical.not_not,decide_true,decide_false,ys,yt,yu,yv,true_and,and_true,ite_true,ite_false,if_true,if_false,yw,yx,yy,yz,Nat.sub_self,Nat.reduceSub,Nat.reduceAdd,Int.reduceToNat,Int.reduceLT,Int.reduceLE,Int.reduceNeg,eq_self,zbp,zbq,zbr,zbs,zbt,zbu,zbv,zbw,zbx,zby,zbz,zca]))))
  exact q

noncomputable def fName : Fn := ⟨["_law_k", "_law_cell"], [("_law_k", 0), ("_law_cell", 1), ("_law_some", 2)], 3, [
    .ite (.cmp .Eq (.bin .Mod (.var 1) (.lit (.int 4))) (.lit (.int 1))) [
      .ret (.bin .Sub (.bin .Pow (.lit (.int 10)) (.lit (.int 60))) (.var 0))] [],
    .ite (.cmp .Eq (.bin .Mod (.var 1) (.lit (.int 4))) (.lit (.int 2))) [
      .assign 2 (.list [(.lit (.int 1)), (.bin .Pow (.lit (.int 10)) (.lit (.int 9))), (.bin .Pow (.lit (.int 10)) (.lit (.int 20))), (.bin .Pow (.lit (.int 10)) (.lit (.int 33))), (.bin .Pow (.lit (.int 10)) (.lit (.int 47))), (.bin .Pow (.lit (.int 10)) (.lit (.int 57)))]),
      .ret (.bin .Add (.lit (.int 1)) (.bin .Mod (.bin .Add (.bin .FloorDiv (.var 1) (.lit (.int 24))) (.bin .Mult (.var 0) (.sub (.var 2) (.bin .Mod (.bin .FloorDiv (.var 1) (.lit (.int 4))) (.lit (.int 6)))))) (.bin .Pow (.lit (.int 10)) (.lit (.int 60)))))] [],
    .ite (.cmp .Eq (.bin .Mod (.var 1) (.lit (.int 4))) (.lit (.int 3))) [
      .ret (.bin .Add (.lit (.int 1)) (.bin .Mult (.lit (.int 7)) (.var 0)))] [],
    .ite (.bop .And [(.cmp .Eq (.bin .Mod (.bin .FloorDiv (.var 1) (.lit (.int 224))) (.lit (.int 2))) (.lit (.int 1))), (.cmp .Eq (.bin .Mod (.var 0) (.lit (.int 2))) (.lit (.int 1)))]) [
      .ret (.bin .Sub (.bin .Pow (.lit (.int 10)) (.lit (.int 60))) (.var 0))] [],
    .ret (.bin .Add (.lit (.int 1)) (.var 0))]⟩
theorem some_idx (c : Int) : pyIdx [V.int 1, .int (10 ^ 9), .int (10 ^ 20), .int (10 ^ 33), .int (10 ^ 47), .int (10 ^ 57)] (c / 4 % 6) = some (.int (someI c)) := by
  unfold someI
  have : c / 4 % 6 = 0 ∨ c / 4 % 6 = 1 ∨ c / 4 % 6 = 2 ∨ c / 4 % 6 = 3 ∨ c / 4 % 6 = 4 ∨ c / 4 % 6 = 5 := by omega
  generalize c / 4 % 6 = B at this
  rcases this with rfl | rfl | rfl | rfl | rfl | rfl <;> rfl
theorem c_name (G : X.Good) (D : X.Def "_law_name" fName) {k : Nat} {h : AH} {i c : Int} {Q R} (h0 : 0 ≤ i) (h1 : i ≤ 500) (q : ∀ h', Ext h h' → Q (.int (nm c i)) h') : X.Call (k + 1) "_law_name" [.int i, .int c] h Q R := by
  refine D.call G rfl ?_
  unfold fName
  unfold nm at q
  (rw [wcons]; (((try dsimp only [Fn.init,wpS,wpT,wpTs,wpB,wpI,wpC,wpE,wpEs,biP,zaa,zab,zac,zad,zae,zaf,zag,zah,zai,zaj,zak,zal,zam,zan,zao,zap,zaq,zar,zas,zat,zau,zav,zaw,zax,zay,zaz,zba,zbb,zbc,zbd,zbe,isiV,kindV,kindO,tyN,srcP,ya,yb,yc,yd,List.replicate,ye,yf,yg,yh,yi,yj,Nat.reduceSub,Nat.reduceAdd,Nat.reduceBEq,yk,yl,ym,yn,yw,yx,zbf,zbg,zbh,zbi]); (try simp only [zbj,zaa,zaf,zag,zah,zai,zas,zbb,zbc,zbd,zbe,zab,zac,zad,zae,zbk,zbl,zbm,zbn,zak,zal,zbo,zaj,zam,zan,zao,zap,zaq,zar,zax,zay,zaz,zba,zat,zau,zav,zaw,Nat.reduceBEq,yo,yl,yk,yp,yq,yn,yr,ym,ya,yb,yc,yd,ye,yf,yg,yh,yi,yj,not_true_eq_false,not_false_eq_true,Classical.not_not,decide_true,decide_false,ys,yt,yu,yv,true_and,and_true,ite_true,ite_false,if_true,if_false,yw,yx,yy,yz,Nat.sub_self,Nat.reduceSub,Nat.reduceAdd,Int.reduceToNat,Int.reduceLT,Int.reduceLE,Int.reduceNeg,eq_self,zbp,zbq,zbr,zbs,zbt,zbu,zbv,zbw,zbx,zby,zbz,zca]))))
  split
  · rename_i e; (rw [wcons]; (((try dsimp only [Fn.init,wpS,wpT,wpTs,wpB,wpI,wpC,wpE,wpEs,biP,zaa,zab,zac,zad,zae,zaf,zag,zah,zai,zaj,zak,zal,zam,zan,zao,zap,zaq,zar,zas,zat,zau,zav,zaw,zax,zay,zaz,zba,zbb,zbc,zbd,zbe,isiV,kindV,kindO,tyN,srcP,ya,yb,yc,yd,List.replicate,ye,yf,yg,yh,yi,yj,Nat.reduceSub,Nat.reduceAdd,Nat.reduceBEq,yk,yl,ym,yn,yw,yx,zbf,zbg,zbh,zbi]); (try simp only [zbj,zaa,zaf,zag,zah,zai,zas,zbb,zbc,zbd,zbe,zab,zac,zad,zae,zbk,zbl,zbm,zbn,zak,zal,zbo,zaj,zam,zan,zao,zap,zaq,zar,zax,zay,zaz,zba,zat,zau,zav,zaw,Nat.reduceBEq,yo,yl,yk,yp,yq,yn,yr,ym,ya,yb,yc,yd,ye,yf,yg,yh,yi,yj,not_true_eq_false,not_false_eq_true,Classical.not_not,decide_true,decide_false,ys,yt,yu,yv,true_and,and_true,ite_true,ite_false,if_true,if_false,yw,yx,yy,yz,Nat.sub_self,Nat.reduceSub,Nat.reduceAdd,Int.reduceToNat,Int.reduceLT,Int.reduceLE,Int.reduceNeg,eq_self,zbp,zbq,zbr,zbs,zbt,zbu,zbv,zbw,zbx,zby,zbz,zca])))); have := q h .refl; rwa [if_pos e] at this
  rename_i e1
  rw [if_neg e1] at q
  (rw [wcons]; (((try dsimp only [Fn.init,wpS,wpT,wpTs,wpB,wpI,wpC,wpE,wpEs,biP,zaa,zab,zac,zad,zae,zaf,zag,zah,zai,zaj,zak,zal,zam,zan,zao,zap,zaq,zar,zas,zat,zau,zav,zaw,zax,zay,zaz,zba,zbb,zbc,zbd,zbe,isiV,kindV,kindO,tyN,srcP,ya,yb,yc,yd,List.replicate,ye,yf,yg,yh,yi,yj,Nat.reduceSub,Nat.reduceAdd,Nat.reduceBEq,yk,yl,ym,yn,yw,yx,zbf,zbg,zbh,zbi]); (try simp only [zbj,zaa,zaf,zag,zah,zai,zas,zbb,zbc,zbd,zbe,zab,zac,zad,zae,zbk,zbl,zbm,zbn,zak,zal,zbo,zaj,zam,zan,zao,zap,zaq,zar,zax,zay,zaz,zba,zat,zau,zav,zaw,Nat.reduceBEq,yo,yl,yk,yp,yq,yn,yr,ym,ya,yb,yc,yd,ye,yf,yg,yh,yi,yj,not_true_eq_false,not_false_eq_true,Classical.not_not,decide_true,decide_false,ys,yt,yu,yv,true_and,and_true,ite_true,ite_false,if_true,if_false,yw,yx,yy,yz,Nat.sub_self,Nat.reduceSub,Nat.reduceAdd,Int.reduceToNat,Int.reduceLT,Int.reduceLE,Int.reduceNeg,eq_self,zbp,zbq,zbr,zbs,zbt,zbu,zbv,zbw,zbx,zby,zbz,zca]))))
  split
  · rename_i e
    rw [if_pos e] at q
    (rw [wcons]; (((try dsimp only [Fn.init,wpS,wpT,wpTs,wpB,wpI,wpC,wpE,wpEs,biP,zaa,zab,zac,zad,zae,zaf,zag,zah,zai,zaj,zak,zal,zam,zan,zao,zap,zaq,zar,zas,zat,zau,zav,zaw,zax,zay,zaz,zba,zbb,zbc,zbd,zbe,isiV,kindV,kindO,tyN,srcP,ya,yb,yc,yd,List.replicate,ye,yf,yg,yh,yi,yj,Nat.reduceSub,Nat.reduceAdd,Nat.reduceBEq,yk,yl,ym,yn,yw,yx,zbf,zbg,zbh,zbi]); (try simp only [zbj,zaa,zaf,zag,zah,zai,zas,zbb,zbc,zbd,zbe,zab,zac,zad,zae,zbk,zbl,zbm,zbn,zak,zal,zbo,zaj,zam,zan,zao,zap,zaq,zar,zax,zay,zaz,zba,zat,zau,zav,zaw,Nat.reduceBEq,yo,yl,yk,yp,yq,yn,yr,ym,ya,yb,yc,yd,ye,yf,yg,yh,yi,yj,not_true_eq_false,not_false_eq_true,Classical.not_not,decide_true,decide_false,ys,yt,yu,yv,true_and,and_true,ite_true,ite_false,if_true,if_false,yw,yx,yy,yz,Nat.sub_self,Nat.reduceSub,Nat.reduceAdd,Int.reduceToNat,Int.reduceLT,Int.reduceLE,Int.reduceNeg,eq_self,zbp,zbq,zbr,zbs,zbt,zbu,zbv,zbw,zbx,zby,zbz,zca]))))
    refine ⟨by decide, new_go fun a h' na x ha => ?_⟩
    (rw [wcons]; (((try dsimp only [Fn.init,wpS,wpT,wpTs,wpB,wpI,wpC,wpE,wpEs,biP,zaa,zab,zac,zad,zae,zaf,zag,zah,zai,zaj,zak,zal,zam,zan,zao,zap,zaq,zar,zas,zat,zau,zav,zaw,zax,zay,zaz,zba,zbb,zbc,zbd,zbe,isiV,kindV,kindO,tyN,srcP,ya,yb,yc,yd,List.replicate,ye,yf,yg,yh,yi,yj,Nat.reduceSub,Nat.reduceAdd,Nat.reduceBEq,yk,yl,ym,yn,yw,yx,zbf,zbg,zbh,zbi]); (try simp only [zbj,zaa,zaf,zag,zah,zai,zas,zbb,zbc,zbd,zbe,zab,zac,zad,zae,zbk,zbl,zbm,zbn,zak,zal,zbo,zaj,zam,zan,zao,zap,zaq,zar,zax,zay,zaz,zba,zat,zau,zav,zaw,Nat.reduceBEq,yo,yl,yk,yp,yq,yn,yr,ym,ya,yb,yc,yd,ye,yf,yg,yh,yi,yj,not_true_eq_false,not_false_eq_true,Classical.not_not,decide_true,decide_false,ys,yt,yu,yv,true_and,and_true,ite_true,ite_false,if_true,if_false,yw,yx,yy,yz,Nat.sub_self,Nat.reduceSub,Nat.reduceAdd,Int.reduceToNat,Int.reduceLT,Int.reduceLE,Int.reduceNeg,eq_self,zbp,zbq,zbr,zbs,zbt,zbu,zbv,zbw,zbx,zby,zbz,zca]))))
    simp only [getV, ha, some_idx]
    (((try dsimp only [Fn.init,wpS,wpT,wpTs,wpB,wpI,wpC,wpE,wpEs,biP,zaa,zab,zac,zad,zae,zaf,zag,zah,zai,zaj,zak,zal,zam,zan,zao,zap,zaq,zar,zas,zat,zau,zav,zaw,zax,zay,zaz,zba,zbb,zbc,zbd,zbe,isiV,kindV,kindO,tyN,srcP,ya,yb,yc,yd,List.replicate,ye,yf,yg,yh,yi,yj,Nat.reduceSub,Nat.reduceAdd,Nat.reduceBEq,yk,yl,ym,yn,yw,yx,zbf,zbg,zbh,zbi]); (try simp only [zbj,zaa,zaf,zag,zah,zai,zas,zbb,zbc,zbd,zbe,zab,zac,zad,zae,zbk,zbl,zbm,zbn,zak,zal,zbo,zaj,zam,zan,zao,zap,zaq,zar,zax,zay,zaz,zba,zat,zau,zav,zaw,Nat.reduceBEq,yo,yl,yk,yp,yq,yn,yr,ym,ya,yb,yc,yd,ye,yf,yg,yh,yi,yj,not_true_eq_false,not_false_eq_true,Classical.not_not,decide_true,decide_false,ys,yt,yu,yv,true_and,and_true,ite_true,ite_false,if_true,if_false,yw,yx,yy,yz,Nat.sub_self,Nat.reduceSub,Nat.reduceAdd,Int.reduceToNat,Int.reduceLT,Int.reduceLE,Int.reduceNeg,eq_self,zbp,zbq,zbr,zbs,zbt,zbu,zbv,zbw,zbx,zby,zbz,zca])))
    exact ⟨.inl ⟨by omega, by omega⟩, q h' x⟩
  rename_i e2
  rw [if_neg e2] at q
  (rw [wcons]; (((try dsimp only [Fn.init,wpS,wpT,wpTs,wpB,wpI,wpC,wpE,wpEs,biP,zaa,zab,zac,zad,zae,zaf,zag,zah,zai,zaj,zak,zal,zam,zan,zao,zap,zaq,zar,zas,zat,zau,zav,zaw,zax,zay,zaz,zba,zbb,zbc,zbd,zbe,isiV,kindV,kindO,tyN,srcP,ya,yb,yc,yd,List.replicate,ye,yf,yg,yh,yi,yj,Nat.reduceSub,Nat.reduceAdd,Nat.reduceBEq,yk,yl,ym,yn,yw,yx,zbf,zbg,zbh,zbi]); (try simp only [zbj,zaa,zaf,zag,zah,zai,zas,zbb,zbc,zbd,zbe,zab,zac,zad,zae,zbk,zbl,zbm,zbn,zak,zal,zbo,zaj,zam,zan,zao,zap,zaq,zar,zax,zay,zaz,zba,zat,zau,zav,zaw,Nat.reduceBEq,yo,yl,yk,yp,yq,yn,yr,ym,ya,yb,yc,yd,ye,yf,yg,yh,yi,yj,not_true_eq_false,not_false_eq_true,Classical.not_not,decide_true,decide_false,ys,yt,yu,yv,true_and,and_true,ite_true,ite_false,if_true,if_false,yw,yx,yy,yz,Nat.sub_self,Nat.reduceSub,Nat.reduceAdd,Int.reduceToNat,Int.reduceLT,Int.reduceLE,Int.reduceNeg,eq_self,zbp,zbq,zbr,zbs,zbt,zbu,zbv,zbw,zbx,zby,zbz,zca]))))
  split
  · rename_i e; (rw [wcons]; (((try dsimp only [Fn.init,wpS,wpT,wpTs,wpB,wpI,wpC,wpE,wpEs,biP,zaa,zab,zac,zad,zae,zaf,zag,zah,zai,zaj,zak,zal,zam,zan,zao,zap,zaq,zar,zas,zat,zau,zav,zaw,zax,zay,zaz,zba,zbb,zbc,zbd,zbe,isiV,kindV,kindO,tyN,srcP,ya,yb,yc,yd,List.replicate,ye,yf,yg,yh,yi,yj,Nat.reduceSub,Nat.reduceAdd,Nat.reduceBEq,yk,yl,ym,yn,yw,yx,zbf,zbg,zbh,zbi]); (try simp only [zbj,zaa,zaf,zag,zah,zai,zas,zbb,zbc,zbd,zbe,zab,zac,zad,zae,zbk,zbl,zbm,zbn,zak,zal,zbo,zaj,zam,zan,zao,zap,zaq,zar,zax,zay,zaz,zba,zat,zau,zav,zaw,Nat.reduceBEq,yo,yl,yk,yp,yq,yn,yr,ym,ya,yb,yc,yd,ye,yf,yg,yh,yi,yj,not_true_eq_false,not_false_eq_true,Classical.not_not,decide_true,decide_false,ys,yt,yu,yv,true_and,and_true,ite_true,ite_false,if_true,if_false,yw,yx,yy,yz,Nat.sub_self,Nat.reduceSub,Nat.reduceAdd,Int.reduceToNat,Int.reduceLT,Int.reduceLE,Int.reduceNeg,eq_self,zbp,zbq,zbr,zbs,zbt,zbu,zbv,zbw,zbx,zby,zbz,zca]))))
    rw [if_pos e] at q
    exact ⟨.inl ⟨by decide, by decide⟩, q h .refl⟩
  rename_i e3
  rw [if_neg e3] at q
  have q := q h .refl
  (rw [wcons]; (((try dsimp only [Fn.init,wpS,wpT,wpTs,wpB,wpI,wpC,wpE,wpEs,biP,zaa,zab,zac,zad,zae,zaf,zag,zah,zai,zaj,zak,zal,zam,zan,zao,zap,zaq,zar,zas,zat,zau,zav,zaw,zax,zay,zaz,zba,zbb,zbc,zbd,zbe,isiV,kindV,kindO,tyN,srcP,ya,yb,yc,yd,List.replicate,ye,yf,yg,yh,yi,yj,Nat.reduceSub,Nat.reduceAdd,Nat.reduceBEq,yk,yl,ym,yn,yw,yx,zbf,zbg,zbh,zbi]); (try simp only [zbj,zaa,zaf,zag,zah,zai,zas,zbb,zbc,zbd,zbe,zab,zac,zad,zae,zbk,zbl,zbm,zbn,zak,zal,zbo,zaj,zam,zan,zao,zap,zaq,zar,zax,zay,zaz,zba,zat,zau,zav,zaw,Nat.reduceBEq,yo,yl,yk,yp,yq,yn,yr,ym,ya,yb,yc,yd,ye,yf,yg,yh,yi,yj,not_true_eq_false,not_false_eq_true,Classical.not_not,decide_true,decide_false,ys,yt,yu,yv,true_and,and_true,ite_true,ite_false,if_true,if_false,yw,yx,yy,yz,Nat.sub_self,Nat.reduceSub,Nat.reduceAdd,Int.reduceToNat,Int.reduceLT,Int.reduceLE,Int.reduceNeg,eq_self,zbp,zbq,zbr,zbs,zbt,zbu,zbv,zbw,zbx,zby,zbz,zca]))))
  split
  · rename_i e4
    rw [if_neg (fun e => e4 e.1)] at q
    (rw [wcons]; (((try dsimp only [Fn.init,wpS,wpT,wpTs,wpB,wpI,wpC,wpE,wpEs,biP,zaa,zab,zac,zad,zae,zaf,zag,zah,zai,zaj,zak,zal,zam,zan,zao,zap,zaq,zar,zas,zat,zau,zav,zaw,zax,zay,zaz,zba,zbb,zbc,zbd,zbe,isiV,kindV,kindO,tyN,srcP,ya,yb,yc,yd,List.replicate,ye,yf,yg,yh,yi,yj,Nat.reduceSub,Nat.reduceAdd,Nat.reduceBEq,yk,yl,ym,yn,yw,yx,zbf,zbg,zbh,zbi]); (try simp only [zbj,zaa,zaf,zag,zah,zai,zas,zbb,zbc,zbd,zbe,zab,zac,zad,zae,zbk,zbl,zbm,zbn,zak,zal,zbo,zaj,zam,zan,zao,zap,zaq,zar,zax,zay,zaz,zba,zat,zau,zav,zaw,Nat.reduceBEq,yo,yl,yk,yp,yq,yn,yr,ym,ya,yb,yc,yd,ye,yf,yg,yh,yi,yj,not_true_eq_false,not_false_eq_true,Classical.not_not,decide_true,decide_false,ys,yt,yu,yv,true_and,and_true,ite_true,ite_false,if_true,if_false,yw,yx,yy,yz,Nat.sub_self,Nat.reduceSub,Nat.reduceAdd,Int.reduceToNat,Int.reduceLT,Int.reduceLE,Int.reduceNeg,eq_self,zbp,zbq,zbr,zbs,zbt,zbu,zbv,zbw,zbx,zby,zbz,zca])))); exact q
  · rename_i e4
    split
    · rename_i e5
      rw [if_neg (fun e => e5 e.2)] at q
      (rw [wcons]; (((try dsimp only [Fn.init,wpS,wpT,wpTs,wpB,wpI,wpC,wpE,wpEs,biP,zaa,zab,zac,zad,zae,zaf,zag,zah,zai,zaj,zak,zal,zam,zan,zao,zap,zaq,zar,zas,zat,zau,zav,zaw,zax,zay,zaz,zba,zbb,zbc,zbd,zbe,isiV,kindV,kindO,tyN,srcP,ya,yb,yc,yd,List.replicate,ye,yf,yg,yh,yi,yj,Nat.reduceSub,Nat.reduceAdd,Nat.reduceBEq,yk,yl,ym,yn,yw,yx,zbf,zbg,zbh,zbi]); (try simp only [zbj,zaa,zaf,zag,zah,zai,zas,zbb,zbc,zbd,zbe,zab,zac,zad,zae,zbk,zbl,zbm,zbn,zak,zal,zbo,zaj,zam,zan,zao,zap,zaq,zar,zax,zay,zaz,zba,zat,zau,zav,zaw,Nat.reduceBEq,yo,yl,yk,yp,yq,yn,yr,ym,ya,yb,yc,yd,ye,yf,yg,yh,yi,yj,not_true_eq_false,not_false_eq_true,Classical.not_not,decide_true,decide_false,ys,yt,yu,yv,true_and,and_true,ite_true,ite_false,if_true,if_false,yw,yx,yy,yz,Nat.sub_self,Nat.reduceSub,Nat.reduceAdd,Int.reduceToNat,Int.reduceLT,Int.reduceLE,Int.reduceNeg,eq_self,zbp,zbq,zbr,zbs,zbt,zbu,zbv,zbw,zbx,zby,zbz,zca])))); exact q
    · rename_i e5
      rw [if_pos ⟨Classical.not_not.mp e4, Classical.not_not.mp e5⟩] at q
      (rw [wcons]; (((try dsimp only [Fn.init,wpS,wpT,wpTs,wpB,wpI,wpC,wpE,wpEs,biP,zaa,zab,zac,zad,zae,zaf,zag,zah,zai,zaj,zak,zal,zam,zan,zao,zap,zaq,zar,zas,zat,zau,zav,zaw,zax,zay,zaz,zba,zbb,zbc,zbd,zbe,isiV,kindV,kindO,tyN,srcP,ya,yb,yc,yd,List.replicate,ye,yf,yg,yh,yi,yj,Nat.reduceSub,Nat.reduceAdd,Nat.reduceBEq,yk,yl,ym,yn,yw,yx,zbf,zbg,zbh,zbi]); (try simp only [zbj,zaa,zaf,zag,zah,zai,zas,zbb,zbc,zbd,zbe,zab,zac,zad,zae,zbk,zbl,zbm,zbn,zak,zal,zbo,zaj,zam,zan,zao,zap,zaq,zar,zax,zay,zaz,zba,zat,zau,zav,zaw,Nat.reduceBEq,yo,yl,yk,yp,yq,yn,yr,ym,ya,yb,yc,yd,ye,yf,yg,yh,yi,yj,not_true_eq_false,not_false_eq_true,Classical.not_not,decide_true,decide_false,ys,yt,yu,yv,true_and,and_true,ite_true,ite_false,if_true,if_false,yw,yx,yy,yz,Nat.sub_self,Nat.reduceSub,Nat.reduceAdd,Int.reduceToNat,Int.reduceLT,Int.reduceLE,Int.reduceNeg,eq_self,zbp,zbq,zbr,zbs,zbt,zbu,zbv,zbw,zbx,zby,zbz,zca])))); exact q

noncomputable def fWay (a b c : Str) : Fn := ⟨[a, b], [(a, 0), (b, 1), (c, 2)], 3, [
    .assign 2 (.list [(.var 1)]),
    .whil (.cmp .In (.sub (.var 2) (.neg (.lit (.int 1)))) (.var 0)) [
      .expr (.bm .append (.var 2) [(.sub (.var 0) (.sub (.var 2) (.neg (.lit (.int 1)))))])],
    .ret (.var 2)]⟩
theorem Ext.upd {h h1 : AH} {w : Addr} {o : O} (x : Ext h h1) (n : h w = none) : Ext h (h1.put w o) := fun a o' e => by
  rw [put_ne _ (addr_ne e n)]; exact x _ _ e
theorem last_ints (l : List Int) (y : Int) : pyIdx ((l ++ [y]).map V.int) (-1) = some (.int y) := by rw [pyIdxL]; simp
theorem c_way (G : X.Good) {f a b c : Str} (D : X.Def f (fWay a b c)) {k : Nat} {h : AH} {t : Addr} {e : Nat} {m : IM} {n : Nat} {x : Int} {Q R} (ht : h t = some (.idict (iD m) e)) (he : ends m n x) (hn : n ≤ 10000)
    (q : ∀ w h', h w = none → Ext h h' → h' w = some (.list ((wayL m n x).map .int)) → Q (.ref w) h') : X.Call (k + 1) f [.ref t, .int x] h Q R := by
  refine D.call G rfl ?_
  unfold fWay
  (rw [wcons]; (((try dsimp only [Fn.init,wpS,wpT,wpTs,wpB,wpI,wpC,wpE,wpEs,biP,zaa,zab,zac,zad,zae,zaf,zag,zah,zai,zaj,zak,zal,zam,zan,zao,zap,zaq,zar,zas,zat,zau,zav,zaw,zax,zay,zaz,zba,zbb,zbc,zbd,zbe,isiV,kindV,kindO,tyN,srcP,ya,yb,yc,yd,List.replicate,ye,yf,yg,yh,yi,yj,Nat.reduceSub,Nat.reduceAdd,Nat.reduceBEq,yk,yl,ym,yn,yw,yx,zbf,zbg,zbh,zbi]); (try simp only [zbj,zaa,zaf,zag,zah,zai,zas,zbb,zbc,zbd,zbe,zab,zac,zad,zae,zbk,zbl,zbm,zbn,zak,zal,zbo,zaj,zam,zan,zao,zap,zaq,zar,zax,zay,zaz,zba,zat,zau,zav,zaw,Nat.reduceBEq,yo,yl,yk,yp,yq,yn,yr,ym,ya,yb,yc,yd,ye,yf,yg,yh,yi,yj,not_true_eq_false,not_false_eq_true,Classical.not_not,decide_true,decide_false,ys,yt,yu,yv,true_and,and_true,ite_true,ite_false,if_true,if_false,yw,yx,yy,yz,Nat.sub_self,Nat.reduceSub,Nat.reduceAdd,Int.reduceToNat,Int.reduceLT,Int.reduceLE,Int.reduceNeg,eq_self,zbp,zbq,zbr,zbs,zbt,zbu,zbv,zbw,zbx,zby,zbz,zca]))))
  refine ⟨by decide, new_go fun w h1 nw x1 hw => ?_⟩
  (rw [wcons]; (((try dsimp only [Fn.init,wpS,wpT,wpTs,wpB,wpI,wpC,wpE,wpEs,biP,zaa,zab,zac,zad,zae,zaf,zag,zah,zai,zaj,zak,zal,zam,zan,zao,zap,zaq,zar,zas,zat,zau,zav,zaw,zax,zay,zaz,zba,zbb,zbc,zbd,zbe,isiV,kindV,kindO,tyN,srcP,ya,yb,yc,yd,List.replicate,ye,yf,yg,yh,yi,yj,Nat.reduceSub,Nat.reduceAdd,Nat.reduceBEq,yk,yl,ym,yn,yw,yx,zbf,zbg,zbh,zbi]); (try simp only [zbj,zaa,zaf,zag,zah,zai,zas,zbb,zbc,zbd,zbe,zab,zac,zad,zae,zbk,zbl,zbm,zbn,zak,zal,zbo,zaj,zam,zan,zao,zap,zaq,zar,zax,zay,zaz,zba,zat,zau,zav,zaw,Nat.reduceBEq,yo,yl,yk,yp,yq,yn,yr,ym,ya,yb,yc,yd,ye,yf,yg,yh,yi,yj,not_true_eq_false,not_false_eq_true,Classical.not_not,decide_true,decide_false,ys,yt,yu,yv,true_and,and_true,ite_true,ite_false,if_true,if_false,yw,yx,yy,yz,Nat.sub_self,Nat.reduceSub,Nat.reduceAdd,Int.reduceToNat,Int.reduceLT,Int.reduceLE,Int.reduceNeg,eq_self,zbp,zbq,zbr,zbs,zbt,zbu,zbv,zbw,zbx,zby,zbz,zca]))))
  intro P hP
  have main : ∀ n' (acc : List Int) y h1, n' + acc.length ≤ 10000 → ends m n' y → Ext h h1 → h1 w = some (.list ((acc ++ [y]).map .int)) → acc ++ wayL m n' y = wayL m n x → P [some (.ref t), some (.int x), some (.ref w)] h1 := by
    intro n'
    induction n' with
    | zero =>
      intro acc y h1 hl hy x1 hw hq
      refine hP _ _ ?_
      unfold ends at hy
      (((try dsimp only [Fn.init,wpS,wpT,wpTs,wpB,wpI,wpC,wpE,wpEs,biP,zaa,zab,zac,zad,zae,zaf,zag,zah,zai,zaj,zak,zal,zam,zan,zao,zap,zaq,zar,zas,zat,zau,zav,zaw,zax,zay,zaz,zba,zbb,zbc,zbd,zbe,isiV,kindV,kindO,tyN,srcP,ya,yb,yc,yd,List.replicate,ye,yf,yg,yh,yi,yj,Nat.reduceSub,Nat.reduceAdd,Nat.reduceBEq,yk,yl,ym,yn,yw,yx,zbf,zbg,zbh,zbi]); (try simp only [zbj,zaa,zaf,zag,zah,zai,zas,zbb,zbc,zbd,zbe,zab,zac,zad,zae,zbk,zbl,zbm,zbn,zak,zal,zbo,zaj,zam,zan,zao,zap,zaq,zar,zax,zay,zaz,zba,zat,zau,zav,zaw,Nat.reduceBEq,yo,yl,yk,yp,yq,yn,yr,ym,ya,yb,yc,yd,ye,yf,yg,yh,yi,yj,not_true_eq_false,not_false_eq_true,Classical.not_not,decide_true,decide_false,ys,yt,yu,yv,true_and,and_true,ite_true,ite_false,if_true,if_false,yw,yx,yy,yz,Nat.sub_self,Nat.reduceSub,Nat.reduceAdd,Int.reduceToNat,Int.reduceLT,Int.reduceLE,Int.reduceNeg,eq_self,zbp,zbq,zbr,zbs,zbt,zbu,zbv,zbw,zbx,zby,zbz,zca])))
      simp only [getV, hw, last_ints, inV_idict (x1 _ _ ht), hy, Option.isSome_none]
      (((try dsimp only [Fn.init,wpS,wpT,wpTs,wpB,wpI,wpC,wpE,wpEs,biP,zaa,zab,zac,zad,zae,zaf,zag,zah,zai,zaj,zak,zal,zam,zan,zao,zap,zaq,zar,zas,zat,zau,zav,zaw,zax,zay,zaz,zba,zbb,zbc,zbd,zbe,isiV,kindV,kindO,tyN,srcP,ya,yb,yc,yd,List.replicate,ye,yf,yg,yh,yi,yj,Nat.reduceSub,Nat.reduceAdd,Nat.reduceBEq,yk,yl,ym,yn,yw,yx,zbf,zbg,zbh,zbi]); (try simp only [zbj,zaa,zaf,zag,zah,zai,zas,zbb,zbc,zbd,zbe,zab,zac,zad,zae,zbk,zbl,zbm,zbn,zak,zal,zbo,zaj,zam,zan,zao,zap,zaq,zar,zax,zay,zaz,zba,zat,zau,zav,zaw,Nat.reduceBEq,yo,yl,yk,yp,yq,yn,yr,ym,ya,yb,yc,yd,ye,yf,yg,yh,yi,yj,not_true_eq_false,not_false_eq_true,Classical.not_not,decide_true,decide_false,ys,yt,yu,yv,true_and,and_true,ite_true,ite_false,if_true,if_false,yw,yx,yy,yz,Nat.sub_self,Nat.reduceSub,Nat.reduceAdd,Int.reduceToNat,Int.reduceLT,Int.reduceLE,Int.reduceNeg,eq_self,zbp,zbq,zbr,zbs,zbt,zbu,zbv,zbw,zbx,zby,zbz,zca])))
      (rw [wcons]; (((try dsimp only [Fn.init,wpS,wpT,wpTs,wpB,wpI,wpC,wpE,wpEs,biP,zaa,zab,zac,zad,zae,zaf,zag,zah,zai,zaj,zak,zal,zam,zan,zao,zap,zaq,zar,zas,zat,zau,zav,zaw,zax,zay,zaz,zba,zbb,zbc,zbd,zbe,isiV,kindV,kindO,tyN,srcP,ya,yb,yc,yd,List.replicate,ye,yf,yg,yh,yi,yj,Nat.reduceSub,Nat.reduceAdd,Nat.reduceBEq,yk,yl,ym,yn,yw,yx,zbf,zbg,zbh,zbi]); (try simp only [zbj,zaa,zaf,zag,zah,zai,zas,zbb,zbc,zbd,zbe,zab,zac,zad,zae,zbk,zbl,zbm,zbn,zak,zal,zbo,zaj,zam,zan,zao,zap,zaq,zar,zax,zay,zaz,zba,zat,zau,zav,zaw,Nat.reduceBEq,yo,yl,yk,yp,yq,yn,yr,ym,ya,yb,yc,yd,ye,yf,yg,yh,yi,yj,not_true_eq_false,not_false_eq_true,Classical.not_not,decide_true,decide_false,ys,yt,yu,yv,true_and,and_true,ite_true,ite_false,if_true,if_false,yw,yx,yy,yz,Nat.sub_self,Nat.reduceSub,Nat.reduceAdd,Int.reduceToNat,Int.reduceLT,Int.reduceLE,Int.reduceNeg,eq_self,zbp,zbq,zbr,zbs,zbt,zbu,zbv,zbw,zbx,zby,zbz,zca]))))
      exact q w h1 nw x1 (by rw [← hq]; exact hw)
    | succ n' ih =>
      intro acc y h1 hl hy x1 hw hq
      refine hP _ _ ?_
      unfold ends at hy
      replace hq : acc ++ (match mget m y with | none => [y] | some z => y :: wayL m n' z) = wayL m n x := hq
      (((try dsimp only [Fn.init,wpS,wpT,wpTs,wpB,wpI,wpC,wpE,wpEs,biP,zaa,zab,zac,zad,zae,zaf,zag,zah,zai,zaj,zak,zal,zam,zan,zao,zap,zaq,zar,zas,zat,zau,zav,zaw,zax,zay,zaz,zba,zbb,zbc,zbd,zbe,isiV,kindV,kindO,tyN,srcP,ya,yb,yc,yd,List.replicate,ye,yf,yg,yh,yi,yj,Nat.reduceSub,Nat.reduceAdd,Nat.reduceBEq,yk,yl,ym,yn,yw,yx,zbf,zbg,zbh,zbi]); (try simp only [zbj,zaa,zaf,zag,zah,zai,zas,zbb,zbc,zbd,zbe,zab,zac,zad,zae,zbk,zbl,zbm,zbn,zak,zal,zbo,zaj,zam,zan,zao,zap,zaq,zar,zax,zay,zaz,zba,zat,zau,zav,zaw,Nat.reduceBEq,yo,yl,yk,yp,yq,yn,yr,ym,ya,yb,yc,yd,ye,yf,yg,yh,yi,yj,not_true_eq_false,not_false_eq_true,Classical.not_not,decide_true,decide_false,ys,yt,yu,yv,true_and,and_true,ite_true,ite_false,if_true,if_false,yw,yx,yy,yz,Nat.sub_self,Nat.reduceSub,Nat.reduceAdd,Int.reduceToNat,Int.reduceLT,Int.reduceLE,Int.reduceNeg,eq_self,zbp,zbq,zbr,zbs,zbt,zbu,zbv,zbw,zbx,zby,zbz,zca])))
      simp only [getV, hw, last_ints, inV_idict (x1 _ _ ht)]
      cases hm : mget m y with
      | none =>
        rw [hm] at hq
        simp only [Option.isSome_none]
        (((try dsimp only [Fn.init,wpS,wpT,wpTs,wpB,wpI,wpC,wpE,wpEs,biP,zaa,zab,zac,zad,zae,zaf,zag,zah,zai,zaj,zak,zal,zam,zan,zao,zap,zaq,zar,zas,zat,zau,zav,zaw,zax,zay,zaz,zba,zbb,zbc,zbd,zbe,isiV,kindV,kindO,tyN,srcP,ya,yb,yc,yd,List.replicate,ye,yf,yg,yh,yi,yj,Nat.reduceSub,Nat.reduceAdd,Nat.reduceBEq,yk,yl,ym,yn,yw,yx,zbf,zbg,zbh,zbi]); (try simp only [zbj,zaa,zaf,zag,zah,zai,zas,zbb,zbc,zbd,zbe,zab,zac,zad,zae,zbk,zbl,zbm,zbn,zak,zal,zbo,zaj,zam,zan,zao,zap,zaq,zar,zax,zay,zaz,zba,zat,zau,zav,zaw,Nat.reduceBEq,yo,yl,yk,yp,yq,yn,yr,ym,ya,yb,yc,yd,ye,yf,yg,yh,yi,yj,not_true_eq_false,not_false_eq_true,Classical.not_not,decide_true,decide_false,ys,yt,yu,yv,true_and,and_true,ite_true,ite_false,if_true,if_false,yw,yx,yy,yz,Nat.sub_self,Nat.reduceSub,Nat.reduceAdd,Int.reduceToNat,Int.reduceLT,Int.reduceLE,Int.reduceNeg,eq_self,zbp,zbq,zbr,zbs,zbt,zbu,zbv,zbw,zbx,zby,zbz,zca])))
        (rw [wcons]; (((try dsimp only [Fn.init,wpS,wpT,wpTs,wpB,wpI,wpC,wpE,wpEs,biP,zaa,zab,zac,zad,zae,zaf,zag,zah,zai,zaj,zak,zal,zam,zan,zao,zap,zaq,zar,zas,zat,zau,zav,zaw,zax,zay,zaz,zba,zbb,zbc,zbd,zbe,isiV,kindV,kindO,tyN,srcP,ya,yb,yc,yd,List.replicate,ye,yf,yg,yh,yi,yj,Nat.reduceSub,Nat.reduceAdd,Nat.reduceBEq,yk,yl,ym,yn,yw,yx,zbf,zbg,zbh,zbi]); (try simp only [zbj,zaa,zaf,zag,zah,zai,zas,zbb,zbc,zbd,zbe,zab,zac,zad,zae,zbk,zbl,zbm,zbn,zak,zal,zbo,zaj,zam,zan,zao,zap,zaq,zar,zax,zay,zaz,zba,zat,zau,zav,zaw,Nat.reduceBEq,yo,yl,yk,yp,yq,yn,yr,ym,ya,yb,yc,yd,ye,yf,yg,yh,yi,yj,not_true_eq_false,not_false_eq_true,Classical.not_not,decide_true,decide_false,ys,yt,yu,yv,true_and,and_true,ite_true,ite_false,if_true,if_false,yw,yx,yy,yz,Nat.sub_self,Nat.reduceSub,Nat.reduceAdd,Int.reduceToNat,Int.reduceLT,Int.reduceLE,Int.reduceNeg,eq_self,zbp,zbq,zbr,zbs,zbt,zbu,zbv,zbw,zbx,zby,zbz,zca]))))
        exact q w h1 nw x1 (by rw [← hq]; exact hw)
      | some z =>
        rw [hm] at hy hq
        simp only [Option.isSome_some]
        (((try dsimp only [Fn.init,wpS,wpT,wpTs,wpB,wpI,wpC,wpE,wpEs,biP,zaa,zab,zac,zad,zae,zaf,zag,zah,zai,zaj,zak,zal,zam,zan,zao,zap,zaq,zar,zas,zat,zau,zav,zaw,zax,zay,zaz,zba,zbb,zbc,zbd,zbe,isiV,kindV,kindO,tyN,srcP,ya,yb,yc,yd,List.replicate,ye,yf,yg,yh,yi,yj,Nat.reduceSub,Nat.reduceAdd,Nat.reduceBEq,yk,yl,ym,yn,yw,yx,zbf,zbg,zbh,zbi]); (try simp only [zbj,zaa,zaf,zag,zah,zai,zas,zbb,zbc,zbd,zbe,zab,zac,zad,zae,zbk,zbl,zbm,zbn,zak,zal,zbo,zaj,zam,zan,zao,zap,zaq,zar,zax,zay,zaz,zba,zat,zau,zav,zaw,Nat.reduceBEq,yo,yl,yk,yp,yq,yn,yr,ym,ya,yb,yc,yd,ye,yf,yg,yh,yi,yj,not_true_eq_false,not_false_eq_true,Classical.not_not,decide_true,decide_false,ys,yt,yu,yv,true_and,and_true,ite_true,ite_false,if_true,if_false,yw,yx,yy,yz,Nat.sub_self,Nat.reduceSub,Nat.reduceAdd,Int.reduceToNat,Int.reduceLT,Int.reduceLE,Int.reduceNeg,eq_self,zbp,zbq,zbr,zbs,zbt,zbu,zbv,zbw,zbx,zby,zbz,zca])))
        (rw [wcons]; (((try dsimp only [Fn.init,wpS,wpT,wpTs,wpB,wpI,wpC,wpE,wpEs,biP,zaa,zab,zac,zad,zae,zaf,zag,zah,zai,zaj,zak,zal,zam,zan,zao,zap,zaq,zar,zas,zat,zau,zav,zaw,zax,zay,zaz,zba,zbb,zbc,zbd,zbe,isiV,kindV,kindO,tyN,srcP,ya,yb,yc,yd,List.replicate,ye,yf,yg,yh,yi,yj,Nat.reduceSub,Nat.reduceAdd,Nat.reduceBEq,yk,yl,ym,yn,yw,yx,zbf,zbg,zbh,zbi]); (try simp only [zbj,zaa,zaf,zag,zah,zai,zas,zbb,zbc,zbd,zbe,zab,zac,zad,zae,zbk,zbl,zbm,zbn,zak,zal,zbo,zaj,zam,zan,zao,zap,zaq,zar,zax,zay,zaz,zba,zat,zau,zav,zaw,Nat.reduceBEq,yo,yl,yk,yp,yq,yn,yr,ym,ya,yb,yc,yd,ye,yf,yg,yh,yi,yj,not_true_eq_false,not_false_eq_true,Classical.not_not,decide_true,decide_false,ys,yt,yu,yv,true_and,and_true,ite_true,ite_false,if_true,if_false,yw,yx,yy,yz,Nat.sub_self,Nat.reduceSub,Nat.reduceAdd,Int.reduceToNat,Int.reduceLT,Int.reduceLE,Int.reduceNeg,eq_self,zbp,zbq,zbr,zbs,zbt,zbu,zbv,zbw,zbx,zby,zbz,zca]))))
        simp only [bmKind, bmP, getV, hw, x1 _ _ ht, last_ints, dget_iD, hm, Option.map_some]
        refine ⟨trivial, ?_, ?_⟩
        · simp only [List.length_map, List.length_append, List.length_cons, List.length_nil, small]; omega
        · refine ih (acc ++ [y]) z _ (by simp; omega) hy (x1.upd nw) ?_ (by simpa using hq)
          rw [put_self]; simp
  exact main n [] x h1 (by simpa using hn) he x1 hw rfl

noncomputable def fSame : Fn := ⟨["_law_found", "_law_due"], [("_law_found", 0), ("_law_due", 1), ("_law_folder", 2)], 3, [
    .ite (.bop .Or [(.not (.isi (.var 0) [.dict])), (.cmp .NotEq (.bi .len [(.var 0)]) (.bi .len [(.var 1)]))]) [
      .ret (.lit (.bool false))] [],
    .forr 2 (.var 1) [
      .ite (.bop .Or [(.cmp .NotIn (.var 2) (.var 0)), (.not (.callf "_law_whole" [(.sub (.var 0) (.var 2))])), (.cmp .NotEq (.sub (.var 0) (.var 2)) (.sub (.var 1) (.var 2)))]) [
        .ret (.lit (.bool false))] []],
    .forr 2 (.var 0) [
      .ite (.not (.callf "_law_whole" [(.var 2)])) [
        .ret (.lit (.bool false))] []],
    .ret (.lit (.bool true))]⟩
theorem c_same (G : X.Good) (Dw : X.Def "_law_whole" fWhole) (D : X.Def "_law_same_tree" fSame) {k : Nat} {h : AH} {a b : Addr} {e e' : Nat} {m m' : IM} {Q R} (ha : h a = some (.idict (iD m) e)) (hb : h b = some (.idict (iD m') e')) (hl : m.length = m'.length) (hs : ∀ k v, mget m' k = some v → mget m k = some v)
    (q : Q (.bool true) h) : X.Call (k + 3) "_law_same_tree" [.ref a, .ref b] h Q R := by
  refine D.call G rfl ?_
  unfold fSame
  (rw [wcons]; (((try dsimp only [Fn.init,wpS,wpT,wpTs,wpB,wpI,wpC,wpE,wpEs,biP,zaa,zab,zac,zad,zae,zaf,zag,zah,zai,zaj,zak,zal,zam,zan,zao,zap,zaq,zar,zas,zat,zau,zav,zaw,zax,zay,zaz,zba,zbb,zbc,zbd,zbe,isiV,kindV,kindO,tyN,srcP,ya,yb,yc,yd,List.replicate,ye,yf,yg,yh,yi,yj,Nat.reduceSub,Nat.reduceAdd,Nat.reduceBEq,yk,yl,ym,yn,yw,yx,zbf,zbg,zbh,zbi]); (try simp only [zbj,zaa,zaf,zag,zah,zai,zas,zbb,zbc,zbd,zbe,zab,zac,zad,zae,zbk,zbl,zbm,zbn,zak,zal,zbo,zaj,zam,zan,zao,zap,zaq,zar,zax,zay,zaz,zba,zat,zau,zav,zaw,Nat.reduceBEq,yo,yl,yk,yp,yq,yn,yr,ym,ya,yb,yc,yd,ye,yf,yg,yh,yi,yj,not_true_eq_false,not_false_eq_true,Classical.not_not,decide_true,decide_false,ys,yt,yu,yv,true_and,and_true,ite_true,ite_false,if_true,if_false,yw,yx,yy,yz,Nat.sub_self,Nat.reduceSub,Nat.reduceAdd,Int.reduceToNat,Int.reduceLT,Int.reduceLE,Int.reduceNeg,eq_self,zbp,zbq,zbr,zbs,zbt,zbu,zbv,zbw,zbx,zby,zbz,zca]))))
  simp only [ha, hb, lenV, iD_length, hl]
  (((try dsimp only [Fn.init,wpS,wpT,wpTs,wpB,wpI,wpC,wpE,wpEs,biP,zaa,zab,zac,zad,zae,zaf,zag,zah,zai,zaj,zak,zal,zam,zan,zao,zap,zaq,zar,zas,zat,zau,zav,zaw,zax,zay,zaz,zba,zbb,zbc,zbd,zbe,isiV,kindV,kindO,tyN,srcP,ya,yb,yc,yd,List.replicate,ye,yf,yg,yh,yi,yj,Nat.reduceSub,Nat.reduceAdd,Nat.reduceBEq,yk,yl,ym,yn,yw,yx,zbf,zbg,zbh,zbi]); (try simp only [zbj,zaa,zaf,zag,zah,zai,zas,zbb,zbc,zbd,zbe,zab,zac,zad,zae,zbk,zbl,zbm,zbn,zak,zal,zbo,zaj,zam,zan,zao,zap,zaq,zar,zax,zay,zaz,zba,zat,zau,zav,zaw,Nat.reduceBEq,yo,yl,yk,yp,yq,yn,yr,ym,ya,yb,yc,yd,ye,yf,yg,yh,yi,yj,not_true_eq_false,not_false_eq_true,Classical.not_not,decide_true,decide_false,ys,yt,yu,yv,true_and,and_true,ite_true,ite_false,if_true,if_false,yw,yx,yy,yz,Nat.sub_self,Nat.reduceSub,Nat.reduceAdd,Int.reduceToNat,Int.reduceLT,Int.reduceLE,Int.reduceNeg,eq_self,zbp,zbq,zbr,zbs,zbt,zbu,zbv,zbw,zbx,zby,zbz,zca])))
  (rw [wcons]; (((try dsimp only [Fn.init,wpS,wpT,wpTs,wpB,wpI,wpC,wpE,wpEs,biP,zaa,zab,zac,zad,zae,zaf,zag,zah,zai,zaj,zak,zal,zam,zan,zao,zap,zaq,zar,zas,zat,zau,zav,zaw,zax,zay,zaz,zba,zbb,zbc,zbd,zbe,isiV,kindV,kindO,tyN,srcP,ya,yb,yc,yd,List.replicate,ye,yf,yg,yh,yi,yj,Nat.reduceSub,Nat.reduceAdd,Nat.reduceBEq,yk,yl,ym,yn,yw,yx,zbf,zbg,zbh,zbi]); (try simp only [zbj,zaa,zaf,zag,zah,zai,zas,zbb,zbc,zbd,zbe,zab,zac,zad,zae,zbk,zbl,zbm,zbn,zak,zal,zbo,zaj,zam,zan,zao,zap,zaq,zar,zax,zay,zaz,zba,zat,zau,zav,zaw,Nat.reduceBEq,yo,yl,yk,yp,yq,yn,yr,ym,ya,yb,yc,yd,ye,yf,yg,yh,yi,yj,not_true_eq_false,not_false_eq_true,Classical.not_not,decide_true,decide_false,ys,yt,yu,yv,true_and,and_true,ite_true,ite_false,if_true,if_false,yw,yx,yy,yz,Nat.sub_self,Nat.reduceSub,Nat.reduceAdd,Int.reduceToNat,Int.reduceLT,Int.reduceLE,Int.reduceNeg,eq_self,zbp,zbq,zbr,zbs,zbt,zbu,zbv,zbw,zbx,zby,zbz,zca]))))
  simp only [hb]
  refine loop_inv (fun vs fr h' => h = h' ∧ (∀ v ∈ vs, ∃ i u, v = .int i ∧ mget m' i = some u) ∧ ∃ z, fr = [some (.ref a), some (.ref b), z]) (fun vs fr h' i => by rw [← i.1]; exact hb) ?_ ?_ ⟨rfl, ?_, _, rfl⟩
  · rintro v vs fr _ K ⟨rfl, hv, z, rfl⟩ hK
    obtain ⟨i, u, rfl, hi⟩ := hv v (.head _)
    have hi' := hs _ _ hi
    (((try dsimp only [Fn.init,wpS,wpT,wpTs,wpB,wpI,wpC,wpE,wpEs,biP,zaa,zab,zac,zad,zae,zaf,zag,zah,zai,zaj,zak,zal,zam,zan,zao,zap,zaq,zar,zas,zat,zau,zav,zaw,zax,zay,zaz,zba,zbb,zbc,zbd,zbe,isiV,kindV,kindO,tyN,srcP,ya,yb,yc,yd,List.replicate,ye,yf,yg,yh,yi,yj,Nat.reduceSub,Nat.reduceAdd,Nat.reduceBEq,yk,yl,ym,yn,yw,yx,zbf,zbg,zbh,zbi]); (try simp only [zbj,zaa,zaf,zag,zah,zai,zas,zbb,zbc,zbd,zbe,zab,zac,zad,zae,zbk,zbl,zbm,zbn,zak,zal,zbo,zaj,zam,zan,zao,zap,zaq,zar,zax,zay,zaz,zba,zat,zau,zav,zaw,Nat.reduceBEq,yo,yl,yk,yp,yq,yn,yr,ym,ya,yb,yc,yd,ye,yf,yg,yh,yi,yj,not_true_eq_false,not_false_eq_true,Classical.not_not,decide_true,decide_false,ys,yt,yu,yv,true_and,and_true,ite_true,ite_false,if_true,if_false,yw,yx,yy,yz,Nat.sub_self,Nat.reduceSub,Nat.reduceAdd,Int.reduceToNat,Int.reduceLT,Int.reduceLE,Int.reduceNeg,eq_self,zbp,zbq,zbr,zbs,zbt,zbu,zbv,zbw,zbx,zby,zbz,zca])))
    (rw [wcons]; (((try dsimp only [Fn.init,wpS,wpT,wpTs,wpB,wpI,wpC,wpE,wpEs,biP,zaa,zab,zac,zad,zae,zaf,zag,zah,zai,zaj,zak,zal,zam,zan,zao,zap,zaq,zar,zas,zat,zau,zav,zaw,zax,zay,zaz,zba,zbb,zbc,zbd,zbe,isiV,kindV,kindO,tyN,srcP,ya,yb,yc,yd,List.replicate,ye,yf,yg,yh,yi,yj,Nat.reduceSub,Nat.reduceAdd,Nat.reduceBEq,yk,yl,ym,yn,yw,yx,zbf,zbg,zbh,zbi]); (try simp only [zbj,zaa,zaf,zag,zah,zai,zas,zbb,zbc,zbd,zbe,zab,zac,zad,zae,zbk,zbl,zbm,zbn,zak,zal,zbo,zaj,zam,zan,zao,zap,zaq,zar,zax,zay,zaz,zba,zat,zau,zav,zaw,Nat.reduceBEq,yo,yl,yk,yp,yq,yn,yr,ym,ya,yb,yc,yd,ye,yf,yg,yh,yi,yj,not_true_eq_false,not_false_eq_true,Classical.not_not,decide_true,decide_false,ys,yt,yu,yv,true_and,and_true,ite_true,ite_false,if_true,if_false,yw,yx,yy,yz,Nat.sub_self,Nat.reduceSub,Nat.reduceAdd,Int.reduceToNat,Int.reduceLT,Int.reduceLE,Int.reduceNeg,eq_self,zbp,zbq,zbr,zbs,zbt,zbu,zbv,zbw,zbx,zby,zbz,zca]))))
    simp only [inV_idict ha, getV, ha, hb, dget_iD, hi, hi', Option.map_some, Option.isSome_some]
    (((try dsimp only [Fn.init,wpS,wpT,wpTs,wpB,wpI,wpC,wpE,wpEs,biP,zaa,zab,zac,zad,zae,zaf,zag,zah,zai,zaj,zak,zal,zam,zan,zao,zap,zaq,zar,zas,zat,zau,zav,zaw,zax,zay,zaz,zba,zbb,zbc,zbd,zbe,isiV,kindV,kindO,tyN,srcP,ya,yb,yc,yd,List.replicate,ye,yf,yg,yh,yi,yj,Nat.reduceSub,Nat.reduceAdd,Nat.reduceBEq,yk,yl,ym,yn,yw,yx,zbf,zbg,zbh,zbi]); (try simp only [zbj,zaa,zaf,zag,zah,zai,zas,zbb,zbc,zbd,zbe,zab,zac,zad,zae,zbk,zbl,zbm,zbn,zak,zal,zbo,zaj,zam,zan,zao,zap,zaq,zar,zax,zay,zaz,zba,zat,zau,zav,zaw,Nat.reduceBEq,yo,yl,yk,yp,yq,yn,yr,ym,ya,yb,yc,yd,ye,yf,yg,yh,yi,yj,not_true_eq_false,not_false_eq_true,Classical.not_not,decide_true,decide_false,ys,yt,yu,yv,true_and,and_true,ite_true,ite_false,if_true,if_false,yw,yx,yy,yz,Nat.sub_self,Nat.reduceSub,Nat.reduceAdd,Int.reduceToNat,Int.reduceLT,Int.reduceLE,Int.reduceNeg,eq_self,zbp,zbq,zbr,zbs,zbt,zbu,zbv,zbw,zbx,zby,zbz,zca])))
    refine ⟨Dw.some, _, rfl, c_whole G Dw ?_⟩
    (((try dsimp only [Fn.init,wpS,wpT,wpTs,wpB,wpI,wpC,wpE,wpEs,biP,zaa,zab,zac,zad,zae,zaf,zag,zah,zai,zaj,zak,zal,zam,zan,zao,zap,zaq,zar,zas,zat,zau,zav,zaw,zax,zay,zaz,zba,zbb,zbc,zbd,zbe,isiV,kindV,kindO,tyN,srcP,ya,yb,yc,yd,List.replicate,ye,yf,yg,yh,yi,yj,Nat.reduceSub,Nat.reduceAdd,Nat.reduceBEq,yk,yl,ym,yn,yw,yx,zbf,zbg,zbh,zbi]); (try simp only [zbj,zaa,zaf,zag,zah,zai,zas,zbb,zbc,zbd,zbe,zab,zac,zad,zae,zbk,zbl,zbm,zbn,zak,zal,zbo,zaj,zam,zan,zao,zap,zaq,zar,zax,zay,zaz,zba,zat,zau,zav,zaw,Nat.reduceBEq,yo,yl,yk,yp,yq,yn,yr,ym,ya,yb,yc,yd,ye,yf,yg,yh,yi,yj,not_true_eq_false,not_false_eq_true,Classical.not_not,decide_true,decide_false,ys,yt,yu,yv,true_and,and_true,ite_true,ite_false,if_true,if_false,yw,yx,yy,yz,Nat.sub_self,Nat.reduceSub,Nat.reduceAdd,Int.reduceToNat,Int.reduceLT,Int.reduceLE,Int.reduceNeg,eq_self,zbp,zbq,zbr,zbs,zbt,zbu,zbv,zbw,zbx,zby,zbz,zca])))
    simp only [getV, ha, hb, dget_iD, hi, hi', Option.map_some]
    (((try dsimp only [Fn.init,wpS,wpT,wpTs,wpB,wpI,wpC,wpE,wpEs,biP,zaa,zab,zac,zad,zae,zaf,zag,zah,zai,zaj,zak,zal,zam,zan,zao,zap,zaq,zar,zas,zat,zau,zav,zaw,zax,zay,zaz,zba,zbb,zbc,zbd,zbe,isiV,kindV,kindO,tyN,srcP,ya,yb,yc,yd,List.replicate,ye,yf,yg,yh,yi,yj,Nat.reduceSub,Nat.reduceAdd,Nat.reduceBEq,yk,yl,ym,yn,yw,yx,zbf,zbg,zbh,zbi]); (try simp only [zbj,zaa,zaf,zag,zah,zai,zas,zbb,zbc,zbd,zbe,zab,zac,zad,zae,zbk,zbl,zbm,zbn,zak,zal,zbo,zaj,zam,zan,zao,zap,zaq,zar,zax,zay,zaz,zba,zat,zau,zav,zaw,Nat.reduceBEq,yo,yl,yk,yp,yq,yn,yr,ym,ya,yb,yc,yd,ye,yf,yg,yh,yi,yj,not_true_eq_false,not_false_eq_true,Classical.not_not,decide_true,decide_false,ys,yt,yu,yv,true_and,and_true,ite_true,ite_false,if_true,if_false,yw,yx,yy,yz,Nat.sub_self,Nat.reduceSub,Nat.reduceAdd,Int.reduceToNat,Int.reduceLT,Int.reduceLE,Int.reduceNeg,eq_self,zbp,zbq,zbr,zbs,zbt,zbu,zbv,zbw,zbx,zby,zbz,zca])))
    exact hK _ _ ⟨rfl, fun v hv' => hv v (.tail _ hv'), _, rfl⟩
  · rintro fr _ ⟨rfl, _, z, rfl⟩
    (((try dsimp only [Fn.init,wpS,wpT,wpTs,wpB,wpI,wpC,wpE,wpEs,biP,zaa,zab,zac,zad,zae,zaf,zag,zah,zai,zaj,zak,zal,zam,zan,zao,zap,zaq,zar,zas,zat,zau,zav,zaw,zax,zay,zaz,zba,zbb,zbc,zbd,zbe,isiV,kindV,kindO,tyN,srcP,ya,yb,yc,yd,List.replicate,ye,yf,yg,yh,yi,yj,Nat.reduceSub,Nat.reduceAdd,Nat.reduceBEq,yk,yl,ym,yn,yw,yx,zbf,zbg,zbh,zbi]); (try simp only [zbj,zaa,zaf,zag,zah,zai,zas,zbb,zbc,zbd,zbe,zab,zac,zad,zae,zbk,zbl,zbm,zbn,zak,zal,zbo,zaj,zam,zan,zao,zap,zaq,zar,zax,zay,zaz,zba,zat,zau,zav,zaw,Nat.reduceBEq,yo,yl,yk,yp,yq,yn,yr,ym,ya,yb,yc,yd,ye,yf,yg,yh,yi,yj,not_true_eq_false,not_false_eq_true,Classical.not_not,decide_true,decide_false,ys,yt,yu,yv,true_and,and_true,ite_true,ite_false,if_true,if_false,yw,yx,yy,yz,Nat.sub_self,Nat.reduceSub,Nat.reduceAdd,Int.reduceToNat,Int.reduceLT,Int.reduceLE,Int.reduceNeg,eq_self,zbp,zbq,zbr,zbs,zbt,zbu,zbv,zbw,zbx,zby,zbz,zca])))
    (rw [wcons]; (((try dsimp only [Fn.init,wpS,wpT,wpTs,wpB,wpI,wpC,wpE,wpEs,biP,zaa,zab,zac,zad,zae,zaf,zag,zah,zai,zaj,zak,zal,zam,zan,zao,zap,zaq,zar,zas,zat,zau,zav,zaw,zax,zay,zaz,zba,zbb,zbc,zbd,zbe,isiV,kindV,kindO,tyN,srcP,ya,yb,yc,yd,List.replicate,ye,yf,yg,yh,yi,yj,Nat.reduceSub,Nat.reduceAdd,Nat.reduceBEq,yk,yl,ym,yn,yw,yx,zbf,zbg,zbh,zbi]); (try simp only [zbj,zaa,zaf,zag,zah,zai,zas,zbb,zbc,zbd,zbe,zab,zac,zad,zae,zbk,zbl,zbm,zbn,zak,zal,zbo,zaj,zam,zan,zao,zap,zaq,zar,zax,zay,zaz,zba,zat,zau,zav,zaw,Nat.reduceBEq,yo,yl,yk,yp,yq,yn,yr,ym,ya,yb,yc,yd,ye,yf,yg,yh,yi,yj,not_true_eq_false,not_false_eq_true,Classical.not_not,decide_true,decide_false,ys,yt,yu,yv,true_and,and_true,ite_true,ite_false,if_true,if_false,yw,yx,yy,yz,Nat.sub_self,Nat.reduceSub,Nat.reduceAdd,Int.reduceToNat,Int.reduceLT,Int.reduceLE,Int.reduceNeg,eq_self,zbp,zbq,zbr,zbs,zbt,zbu,zbv,zbw,zbx,zby,zbz,zca]))))
    simp only [ha]
    refine loop_inv (fun vs fr h' => h = h' ∧ (∀ v ∈ vs, ∃ i, v = .int i) ∧ ∃ z, fr = [some (.ref a), some (.ref b), z]) (fun vs fr h' i => by rw [← i.1]; exact ha) ?_ ?_ ⟨rfl, ?_, _, rfl⟩
    · rintro v vs fr _ K ⟨rfl, hv, z, rfl⟩ hK
      obtain ⟨i, rfl⟩ := hv v (.head _)
      (((try dsimp only [Fn.init,wpS,wpT,wpTs,wpB,wpI,wpC,wpE,wpEs,biP,zaa,zab,zac,zad,zae,zaf,zag,zah,zai,zaj,zak,zal,zam,zan,zao,zap,zaq,zar,zas,zat,zau,zav,zaw,zax,zay,zaz,zba,zbb,zbc,zbd,zbe,isiV,kindV,kindO,tyN,srcP,ya,yb,yc,yd,List.replicate,ye,yf,yg,yh,yi,yj,Nat.reduceSub,Nat.reduceAdd,Nat.reduceBEq,yk,yl,ym,yn,yw,yx,zbf,zbg,zbh,zbi]); (try simp only [zbj,zaa,zaf,zag,zah,zai,zas,zbb,zbc,zbd,zbe,zab,zac,zad,zae,zbk,zbl,zbm,zbn,zak,zal,zbo,zaj,zam,zan,zao,zap,zaq,zar,zax,zay,zaz,zba,zat,zau,zav,zaw,Nat.reduceBEq,yo,yl,yk,yp,yq,yn,yr,ym,ya,yb,yc,yd,ye,yf,yg,yh,yi,yj,not_true_eq_false,not_false_eq_true,Classical.not_not,decide_true,decide_false,ys,yt,yu,yv,true_and,and_true,ite_true,ite_false,if_true,if_false,yw,yx,yy,yz,Nat.sub_self,Nat.reduceSub,Nat.reduceAdd,Int.reduceToNat,Int.reduceLT,Int.reduceLE,Int.reduceNeg,eq_self,zbp,zbq,zbr,zbs,zbt,zbu,zbv,zbw,zbx,zby,zbz,zca])))
      (rw [wcons]; (((try dsimp only [Fn.init,wpS,wpT,wpTs,wpB,wpI,wpC,wpE,wpEs,biP,zaa,zab,zac,zad,zae,zaf,zag,zah,zai,zaj,zak,zal,zam,zan,zao,zap,zaq,zar,zas,zat,zau,zav,zaw,zax,zay,zaz,zba,zbb,zbc,zbd,zbe,isiV,kindV,kindO,tyN,srcP,ya,yb,yc,yd,List.replicate,ye,yf,yg,yh,yi,yj,Nat.reduceSub,Nat.reduceAdd,Nat.reduceBEq,yk,yl,ym,yn,yw,yx,zbf,zbg,zbh,zbi]); (try simp only [zbj,zaa,zaf,zag,zah,zai,zas,zbb,zbc,zbd,zbe,zab,zac,zad,zae,zbk,zbl,zbm,zbn,zak,zal,zbo,zaj,zam,zan,zao,zap,zaq,zar,zax,zay,zaz,zba,zat,zau,zav,zaw,Nat.reduceBEq,yo,yl,yk,yp,yq,yn,yr,ym,ya,yb,yc,yd,ye,yf,yg,yh,yi,yj,not_true_eq_false,not_false_eq_true,Classical.not_not,decide_true,decide_false,ys,yt,yu,yv,true_and,and_true,ite_true,ite_false,if_true,if_false,yw,yx,yy,yz,Nat.sub_self,Nat.reduceSub,Nat.reduceAdd,Int.reduceToNat,Int.reduceLT,Int.reduceLE,Int.reduceNeg,eq_self,zbp,zbq,zbr,zbs,zbt,zbu,zbv,zbw,zbx,zby,zbz,zca]))))
      refine ⟨Dw.some, _, rfl, c_whole G Dw ?_⟩
      (((try dsimp only [Fn.init,wpS,wpT,wpTs,wpB,wpI,wpC,wpE,wpEs,biP,zaa,zab,zac,zad,zae,zaf,zag,zah,zai,zaj,zak,zal,zam,zan,zao,zap,zaq,zar,zas,zat,zau,zav,zaw,zax,zay,zaz,zba,zbb,zbc,zbd,zbe,isiV,kindV,kindO,tyN,srcP,ya,yb,yc,yd,List.replicate,ye,yf,yg,yh,yi,yj,Nat.reduceSub,Nat.reduceAdd,Nat.reduceBEq,yk,yl,ym,yn,yw,yx,zbf,zbg,zbh,zbi]); (try simp only [zbj,zaa,zaf,zag,zah,zai,zas,zbb,zbc,zbd,zbe,zab,zac,zad,zae,zbk,zbl,zbm,zbn,zak,zal,zbo,zaj,zam,zan,zao,zap,zaq,zar,zax,zay,zaz,zba,zat,zau,zav,zaw,Nat.reduceBEq,yo,yl,yk,yp,yq,yn,yr,ym,ya,yb,yc,yd,ye,yf,yg,yh,yi,yj,not_true_eq_false,not_false_eq_true,Classical.not_not,decide_true,decide_false,ys,yt,yu,yv,true_and,and_true,ite_true,ite_false,if_true,if_false,yw,yx,yy,yz,Nat.sub_self,Nat.reduceSub,Nat.reduceAdd,Int.reduceToNat,Int.reduceLT,Int.reduceLE,Int.reduceNeg,eq_self,zbp,zbq,zbr,zbs,zbt,zbu,zbv,zbw,zbx,zby,zbz,zca])))
      exact hK _ _ ⟨rfl, fun v hv' => hv v (.tail _ hv'), _, rfl⟩
    · rintro fr _ ⟨rfl, _, z, rfl⟩
      (((try dsimp only [Fn.init,wpS,wpT,wpTs,wpB,wpI,wpC,wpE,wpEs,biP,zaa,zab,zac,zad,zae,zaf,zag,zah,zai,zaj,zak,zal,zam,zan,zao,zap,zaq,zar,zas,zat,zau,zav,zaw,zax,zay,zaz,zba,zbb,zbc,zbd,zbe,isiV,kindV,kindO,tyN,srcP,ya,yb,yc,yd,List.replicate,ye,yf,yg,yh,yi,yj,Nat.reduceSub,Nat.reduceAdd,Nat.reduceBEq,yk,yl,ym,yn,yw,yx,zbf,zbg,zbh,zbi]); (try simp only [zbj,zaa,zaf,zag,zah,zai,zas,zbb,zbc,zbd,zbe,zab,zac,zad,zae,zbk,zbl,zbm,zbn,zak,zal,zbo,zaj,zam,zan,zao,zap,zaq,zar,zax,zay,zaz,zba,zat,zau,zav,zaw,Nat.reduceBEq,yo,yl,yk,yp,yq,yn,yr,ym,ya,yb,yc,yd,ye,yf,yg,yh,yi,yj,not_true_eq_false,not_false_eq_true,Classical.not_not,decide_true,decide_false,ys,yt,yu,yv,true_and,and_true,ite_true,ite_false,if_true,if_false,yw,yx,yy,yz,Nat.sub_self,Nat.reduceSub,Nat.reduceAdd,Int.reduceToNat,Int.reduceLT,Int.reduceLE,Int.reduceNeg,eq_self,zbp,zbq,zbr,zbs,zbt,zbu,zbv,zbw,zbx,zby,zbz,zca])))
      (rw [wcons]; (((try dsimp only [Fn.init,wpS,wpT,wpTs,wpB,wpI,wpC,wpE,wpEs,biP,zaa,zab,zac,zad,zae,zaf,zag,zah,zai,zaj,zak,zal,zam,zan,zao,zap,zaq,zar,zas,zat,zau,zav,zaw,zax,zay,zaz,zba,zbb,zbc,zbd,zbe,isiV,kindV,kindO,tyN,srcP,ya,yb,yc,yd,List.replicate,ye,yf,yg,yh,yi,yj,Nat.reduceSub,Nat.reduceAdd,Nat.reduceBEq,yk,yl,ym,yn,yw,yx,zbf,zbg,zbh,zbi]); (try simp only [zbj,zaa,zaf,zag,zah,zai,zas,zbb,zbc,zbd,zbe,zab,zac,zad,zae,zbk,zbl,zbm,zbn,zak,zal,zbo,zaj,zam,zan,zao,zap,zaq,zar,zax,zay,zaz,zba,zat,zau,zav,zaw,Nat.reduceBEq,yo,yl,yk,yp,yq,yn,yr,ym,ya,yb,yc,yd,ye,yf,yg,yh,yi,yj,not_true_eq_false,not_false_eq_true,Classical.not_not,decide_true,decide_false,ys,yt,yu,yv,true_and,and_true,ite_true,ite_false,if_true,if_false,yw,yx,yy,yz,Nat.sub_self,Nat.reduceSub,Nat.reduceAdd,Int.reduceToNat,Int.reduceLT,Int.reduceLE,Int.reduceNeg,eq_self,zbp,zbq,zbr,zbs,zbt,zbu,zbv,zbw,zbx,zby,zbz,zca]))))
      exact q
    · intro v hv
      obtain ⟨p, hp, rfl⟩ := List.mem_map.mp hv
      exact ⟨_, rfl⟩
  · intro v hv
    unfold iD at hv
    rw [List.map_map] at hv
    obtain ⟨p, hp, rfl⟩ := List.mem_map.mp hv
    obtain ⟨u, hu⟩ := mem_mget (m := m') (k := p.1) (v := p.2) hp
    exact ⟨_, u, rfl, hu⟩
end
end Mine

namespace Mine
open PySem PySem.W PyProof.Rows
section
variable {X : Ctx}
theorem slice_go {h : AH} {a : Addr} {l r : List V} {lo hi : V} {Q : V → AH → Prop} (ha : h a = some (.list l)) (hs : pySlice l lo hi = some r) (q : ∀ c h1, h c = none → Ext h h1 → h1 c = some (.list r) → Q (.ref c) h1) : sliceP (.ref a) lo hi h Q := by
  unfold sliceP
  simp only [ha, hs]
  exact new_go q
theorem getI {h : AH} {a : Addr} {l : List Int} {i : Nat} {m : Int} (ha : h a = some (.list (l.map .int))) (hi : l[i]? = some m) : getV h (.ref a) (.int (i : Nat)) = some (.int m) := by
  rw [gv_list ha, pyIdx_nat, List.getElem?_map, hi]; rfl
noncomputable def fNumbers : Fn := ⟨["_law_found", "_law_due"], [("_law_found", 0), ("_law_due", 1), ("_law_k", 2)], 3, [
    .ite (.bop .Or [(.not (.isi (.var 0) [.list])), (.cmp .NotEq (.bi .len [(.var 0)]) (.bi .len [(.var 1)]))]) [
      .ret (.lit (.bool false))] [],
    .forr 2 (.range1 (.bi .len [(.var 1)])) [
      .ite (.bop .Or [(.not (.callf "_law_whole" [(.sub (.var 0) (.var 2))])), (.cmp .NotEq (.sub (.var 0) (.var 2)) (.sub (.var 1) (.var 2)))]) [
        .ret (.lit (.bool false))] []],
    .ret (.lit (.bool true))]⟩
theorem c_numbers (G : X.Good) (Dw : X.Def "_law_whole" fWhole) (D : X.Def "_law_numbers" fNumbers) {k : Nat} {h : AH} {p r : Addr} {l : List Int} {Q R} (hp : h p = some (.list (l.map .int))) (hr : h r = some (.list (l.map .int))) (hl : l.length ≤ 10001)
    (q : Q (.bool true) h) : X.Call (k + 3) "_law_numbers" [.ref p, .ref r] h Q R := by
  refine D.call G rfl ?_
  unfold fNumbers
  (rw [wcons]; (((try dsimp only [Fn.init,wpS,wpT,wpTs,wpB,wpI,wpC,wpE,wpEs,biP,zaa,zab,zac,zad,zae,zaf,zag,zah,zai,zaj,zak,zal,zam,zan,zao,zap,zaq,zar,zas,zat,zau,zav,zaw,zax,zay,zaz,zba,zbb,zbc,zbd,zbe,isiV,kindV,kindO,tyN,srcP,ya,yb,yc,yd,List.replicate,ye,yf,yg,yh,yi,yj,Nat.reduceSub,Nat.reduceAdd,Nat.reduceBEq,yk,yl,ym,yn,yw,yx,zbf,zbg,zbh,zbi]); (try simp only [zbj,zaa,zaf,zag,zah,zai,zas,zbb,zbc,zbd,zbe,zab,zac,zad,zae,zbk,zbl,zbm,zbn,zak,zal,zbo,zaj,zam,zan,zao,zap,zaq,zar,zax,zay,zaz,zba,zat,zau,zav,zaw,Nat.reduceBEq,yo,yl,yk,yp,yq,yn,yr,ym,ya,yb,yc,yd,ye,yf,yg,yh,yi,yj,not_true_eq_false,not_false_eq_true,Classical.not_not,decide_true,decide_false,ys,yt,yu,yv,true_and,and_true,ite_true,ite_false,if_true,if_false,yw,yx,yy,yz,Nat.sub_self,Nat.reduceSub,Nat.reduceAdd,Int.reduceToNat,Int.reduceLT,Int.reduceLE,Int.reduceNeg,eq_self,zbp,zbq,zbr,zbs,zbt,zbu,zbv,zbw,zbx,zby,zbz,zca]))))
  simp only [hp, hr, lenV, List.length_map]
  (((try dsimp only [Fn.init,wpS,wpT,wpTs,wpB,wpI,wpC,wpE,wpEs,biP,zaa,zab,zac,zad,zae,zaf,zag,zah,zai,zaj,zak,zal,zam,zan,zao,zap,zaq,zar,zas,zat,zau,zav,zaw,zax,zay,zaz,zba,zbb,zbc,zbd,zbe,isiV,kindV,kindO,tyN,srcP,ya,yb,yc,yd,List.replicate,ye,yf,yg,yh,yi,yj,Nat.reduceSub,Nat.reduceAdd,Nat.reduceBEq,yk,yl,ym,yn,yw,yx,zbf,zbg,zbh,zbi]); (try simp only [zbj,zaa,zaf,zag,zah,zai,zas,zbb,zbc,zbd,zbe,zab,zac,zad,zae,zbk,zbl,zbm,zbn,zak,zal,zbo,zaj,zam,zan,zao,zap,zaq,zar,zax,zay,zaz,zba,zat,zau,zav,zaw,Nat.reduceBEq,yo,yl,yk,yp,yq,yn,yr,ym,ya,yb,yc,yd,ye,yf,yg,yh,yi,yj,not_true_eq_false,not_false_eq_true,Classical.not_not,decide_true,decide_false,ys,yt,yu,yv,true_and,and_true,ite_true,ite_false,if_true,if_false,yw,yx,yy,yz,Nat.sub_self,Nat.reduceSub,Nat.reduceAdd,Int.reduceToNat,Int.reduceLT,Int.reduceLE,Int.reduceNeg,eq_self,zbp,zbq,zbr,zbs,zbt,zbu,zbv,zbw,zbx,zby,zbz,zca])))
  (rw [wcons]; (((try dsimp only [Fn.init,wpS,wpT,wpTs,wpB,wpI,wpC,wpE,wpEs,biP,zaa,zab,zac,zad,zae,zaf,zag,zah,zai,zaj,zak,zal,zam,zan,zao,zap,zaq,zar,zas,zat,zau,zav,zaw,zax,zay,zaz,zba,zbb,zbc,zbd,zbe,isiV,kindV,kindO,tyN,srcP,ya,yb,yc,yd,List.replicate,ye,yf,yg,yh,yi,yj,Nat.reduceSub,Nat.reduceAdd,Nat.reduceBEq,yk,yl,ym,yn,yw,yx,zbf,zbg,zbh,zbi]); (try simp only [zbj,zaa,zaf,zag,zah,zai,zas,zbb,zbc,zbd,zbe,zab,zac,zad,zae,zbk,zbl,zbm,zbn,zak,zal,zbo,zaj,zam,zan,zao,zap,zaq,zar,zax,zay,zaz,zba,zat,zau,zav,zaw,Nat.reduceBEq,yo,yl,yk,yp,yq,yn,yr,ym,ya,yb,yc,yd,ye,yf,yg,yh,yi,yj,not_true_eq_false,not_false_eq_true,Classical.not_not,decide_true,decide_false,ys,yt,yu,yv,true_and,and_true,ite_true,ite_false,if_true,if_false,yw,yx,yy,yz,Nat.sub_self,Nat.reduceSub,Nat.reduceAdd,Int.reduceToNat,Int.reduceLT,Int.reduceLE,Int.reduceNeg,eq_self,zbp,zbq,zbr,zbs,zbt,zbu,zbv,zbw,zbx,zby,zbz,zca]))))
  simp only [hr, lenV, List.length_map]
  refine ⟨⟨by omega, by unfold small; omega⟩, ?_⟩
  rw [Int.toNat_natCast]
  refine loop_range0 (fun i fr h' => h = h' ∧ ∃ z, fr = [some (.ref p), some (.ref r), z]) ?_ ?_ ⟨rfl, _, rfl⟩
  · rintro i fr _ K hi ⟨rfl, z, rfl⟩ hK
    have hx := List.getElem?_eq_getElem hi
    (((try dsimp only [Fn.init,wpS,wpT,wpTs,wpB,wpI,wpC,wpE,wpEs,biP,zaa,zab,zac,zad,zae,zaf,zag,zah,zai,zaj,zak,zal,zam,zan,zao,zap,zaq,zar,zas,zat,zau,zav,zaw,zax,zay,zaz,zba,zbb,zbc,zbd,zbe,isiV,kindV,kindO,tyN,srcP,ya,yb,yc,yd,List.replicate,ye,yf,yg,yh,yi,yj,Nat.reduceSub,Nat.reduceAdd,Nat.reduceBEq,yk,yl,ym,yn,yw,yx,zbf,zbg,zbh,zbi]); (try simp only [zbj,zaa,zaf,zag,zah,zai,zas,zbb,zbc,zbd,zbe,zab,zac,zad,zae,zbk,zbl,zbm,zbn,zak,zal,zbo,zaj,zam,zan,zao,zap,zaq,zar,zax,zay,zaz,zba,zat,zau,zav,zaw,Nat.reduceBEq,yo,yl,yk,yp,yq,yn,yr,ym,ya,yb,yc,yd,ye,yf,yg,yh,yi,yj,not_true_eq_false,not_false_eq_true,Classical.not_not,decide_true,decide_false,ys,yt,yu,yv,true_and,and_true,ite_true,ite_false,if_true,if_false,yw,yx,yy,yz,Nat.sub_self,Nat.reduceSub,Nat.reduceAdd,Int.reduceToNat,Int.reduceLT,Int.reduceLE,Int.reduceNeg,eq_self,zbp,zbq,zbr,zbs,zbt,zbu,zbv,zbw,zbx,zby,zbz,zca])))
    (rw [wcons]; (((try dsimp only [Fn.init,wpS,wpT,wpTs,wpB,wpI,wpC,wpE,wpEs,biP,zaa,zab,zac,zad,zae,zaf,zag,zah,zai,zaj,zak,zal,zam,zan,zao,zap,zaq,zar,zas,zat,zau,zav,zaw,zax,zay,zaz,zba,zbb,zbc,zbd,zbe,isiV,kindV,kindO,tyN,srcP,ya,yb,yc,yd,List.replicate,ye,yf,yg,yh,yi,yj,Nat.reduceSub,Nat.reduceAdd,Nat.reduceBEq,yk,yl,ym,yn,yw,yx,zbf,zbg,zbh,zbi]); (try simp only [zbj,zaa,zaf,zag,zah,zai,zas,zbb,zbc,zbd,zbe,zab,zac,zad,zae,zbk,zbl,zbm,zbn,zak,zal,zbo,zaj,zam,zan,zao,zap,zaq,zar,zax,zay,zaz,zba,zat,zau,zav,zaw,Nat.reduceBEq,yo,yl,yk,yp,yq,yn,yr,ym,ya,yb,yc,yd,ye,yf,yg,yh,yi,yj,not_true_eq_false,not_false_eq_true,Classical.not_not,decide_true,decide_false,ys,yt,yu,yv,true_and,and_true,ite_true,ite_false,if_true,if_false,yw,yx,yy,yz,Nat.sub_self,Nat.reduceSub,Nat.reduceAdd,Int.reduceToNat,Int.reduceLT,Int.reduceLE,Int.reduceNeg,eq_self,zbp,zbq,zbr,zbs,zbt,zbu,zbv,zbw,zbx,zby,zbz,zca]))))
    simp only [Int.zero_add, getI hp hx]
    refine ⟨Dw.some, _, rfl, c_whole G Dw ?_⟩
    (((try dsimp only [Fn.init,wpS,wpT,wpTs,wpB,wpI,wpC,wpE,wpEs,biP,zaa,zab,zac,zad,zae,zaf,zag,zah,zai,zaj,zak,zal,zam,zan,zao,zap,zaq,zar,zas,zat,zau,zav,zaw,zax,zay,zaz,zba,zbb,zbc,zbd,zbe,isiV,kindV,kindO,tyN,srcP,ya,yb,yc,yd,List.replicate,ye,yf,yg,yh,yi,yj,Nat.reduceSub,Nat.reduceAdd,Nat.reduceBEq,yk,yl,ym,yn,yw,yx,zbf,zbg,zbh,zbi]); (try simp only [zbj,zaa,zaf,zag,zah,zai,zas,zbb,zbc,zbd,zbe,zab,zac,zad,zae,zbk,zbl,zbm,zbn,zak,zal,zbo,zaj,zam,zan,zao,zap,zaq,zar,zax,zay,zaz,zba,zat,zau,zav,zaw,Nat.reduceBEq,yo,yl,yk,yp,yq,yn,yr,ym,ya,yb,yc,yd,ye,yf,yg,yh,yi,yj,not_true_eq_false,not_false_eq_true,Classical.not_not,decide_true,decide_false,ys,yt,yu,yv,true_and,and_true,ite_true,ite_false,if_true,if_false,yw,yx,yy,yz,Nat.sub_self,Nat.reduceSub,Nat.reduceAdd,Int.reduceToNat,Int.reduceLT,Int.reduceLE,Int.reduceNeg,eq_self,zbp,zbq,zbr,zbs,zbt,zbu,zbv,zbw,zbx,zby,zbz,zca])))
    simp only [getI hp hx, getI hr hx]
    (((try dsimp only [Fn.init,wpS,wpT,wpTs,wpB,wpI,wpC,wpE,wpEs,biP,zaa,zab,zac,zad,zae,zaf,zag,zah,zai,zaj,zak,zal,zam,zan,zao,zap,zaq,zar,zas,zat,zau,zav,zaw,zax,zay,zaz,zba,zbb,zbc,zbd,zbe,isiV,kindV,kindO,tyN,srcP,ya,yb,yc,yd,List.replicate,ye,yf,yg,yh,yi,yj,Nat.reduceSub,Nat.reduceAdd,Nat.reduceBEq,yk,yl,ym,yn,yw,yx,zbf,zbg,zbh,zbi]); (try simp only [zbj,zaa,zaf,zag,zah,zai,zas,zbb,zbc,zbd,zbe,zab,zac,zad,zae,zbk,zbl,zbm,zbn,zak,zal,zbo,zaj,zam,zan,zao,zap,zaq,zar,zax,zay,zaz,zba,zat,zau,zav,zaw,Nat.reduceBEq,yo,yl,yk,yp,yq,yn,yr,ym,ya,yb,yc,yd,ye,yf,yg,yh,yi,yj,not_true_eq_false,not_false_eq_true,Classical.not_not,decide_true,decide_false,ys,yt,yu,yv,true_and,and_true,ite_true,ite_false,if_true,if_false,yw,yx,yy,yz,Nat.sub_self,Nat.reduceSub,Nat.reduceAdd,Int.reduceToNat,Int.reduceLT,Int.reduceLE,Int.reduceNeg,eq_self,zbp,zbq,zbr,zbs,zbt,zbu,zbv,zbw,zbx,zby,zbz,zca])))
    exact hK _ _ ⟨rfl, _, rfl⟩
  · rintro fr _ ⟨rfl, z, rfl⟩
    (((try dsimp only [Fn.init,wpS,wpT,wpTs,wpB,wpI,wpC,wpE,wpEs,biP,zaa,zab,zac,zad,zae,zaf,zag,zah,zai,zaj,zak,zal,zam,zan,zao,zap,zaq,zar,zas,zat,zau,zav,zaw,zax,zay,zaz,zba,zbb,zbc,zbd,zbe,isiV,kindV,kindO,tyN,srcP,ya,yb,yc,yd,List.replicate,ye,yf,yg,yh,yi,yj,Nat.reduceSub,Nat.reduceAdd,Nat.reduceBEq,yk,yl,ym,yn,yw,yx,zbf,zbg,zbh,zbi]); (try simp only [zbj,zaa,zaf,zag,zah,zai,zas,zbb,zbc,zbd,zbe,zab,zac,zad,zae,zbk,zbl,zbm,zbn,zak,zal,zbo,zaj,zam,zan,zao,zap,zaq,zar,zax,zay,zaz,zba,zat,zau,zav,zaw,Nat.reduceBEq,yo,yl,yk,yp,yq,yn,yr,ym,ya,yb,yc,yd,ye,yf,yg,yh,yi,yj,not_true_eq_false,not_false_eq_true,Classical.not_not,decide_true,decide_false,ys,yt,yu,yv,true_and,and_true,ite_true,ite_false,if_true,if_false,yw,yx,yy,yz,Nat.sub_self,Nat.reduceSub,Nat.reduceAdd,Int.reduceToNat,Int.reduceLT,Int.reduceLE,Int.reduceNeg,eq_self,zbp,zbq,zbr,zbs,zbt,zbu,zbv,zbw,zbx,zby,zbz,zca])))
    (rw [wcons]; (((try dsimp only [Fn.init,wpS,wpT,wpTs,wpB,wpI,wpC,wpE,wpEs,biP,zaa,zab,zac,zad,zae,zaf,zag,zah,zai,zaj,zak,zal,zam,zan,zao,zap,zaq,zar,zas,zat,zau,zav,zaw,zax,zay,zaz,zba,zbb,zbc,zbd,zbe,isiV,kindV,kindO,tyN,srcP,ya,yb,yc,yd,List.replicate,ye,yf,yg,yh,yi,yj,Nat.reduceSub,Nat.reduceAdd,Nat.reduceBEq,yk,yl,ym,yn,yw,yx,zbf,zbg,zbh,zbi]); (try simp only [zbj,zaa,zaf,zag,zah,zai,zas,zbb,zbc,zbd,zbe,zab,zac,zad,zae,zbk,zbl,zbm,zbn,zak,zal,zbo,zaj,zam,zan,zao,zap,zaq,zar,zax,zay,zaz,zba,zat,zau,zav,zaw,Nat.reduceBEq,yo,yl,yk,yp,yq,yn,yr,ym,ya,yb,yc,yd,ye,yf,yg,yh,yi,yj,not_true_eq_false,not_false_eq_true,Classical.not_not,decide_true,decide_false,ys,yt,yu,yv,true_and,and_true,ite_true,ite_false,if_true,if_false,yw,yx,yy,yz,Nat.sub_self,Nat.reduceSub,Nat.reduceAdd,Int.reduceToNat,Int.reduceLT,Int.reduceLE,Int.reduceNeg,eq_self,zbp,zbq,zbr,zbs,zbt,zbu,zbv,zbw,zbx,zby,zbz,zca]))))
    exact q
theorem bk_append {h : AH} {a : Addr} {l : List V} (ha : h a = some (.list l)) : bmKind .append (.ref a) h := by unfold bmKind; simp only [ha]
theorem append_go {h : AH} {a : Addr} {l : List V} {v : V} {Q : V → AH → Prop} (ha : h a = some (.list l)) (hl : l.length ≤ small) (q : ∀ h', Upd a h h' → h' a = some (.list (l ++ [v])) → Q .none h') : bmP .append (.ref a) [v] h Q := by
  unfold bmP; simp only [ha]; exact ⟨hl, q _ upd_put (put_self ..)⟩
theorem dict_go {h : AH} {a : Addr} {d : List (Int × V)} {e : Nat} {Q : V → AH → Prop} (ha : h a = some (.idict d e)) (q : ∀ b e' h', h b = none → Ext h h' → h' b = some (.idict d e') → Q (.ref b) h') : biP .dict [.ref a] h Q := by
  unfold biP; simp only [ha]; exact fun e' => new_go fun b h' n x hb => q b e' h' n x hb
theorem list_go {h : AH} {a : Addr} {l : List V} {Q : V → AH → Prop} (ha : h a = some (.list l)) (q : ∀ b h', h b = none → Ext h h' → h' b = some (.list l) → Q (.ref b) h') : biP .list [.ref a] h Q := by
  unfold biP itemsV; simp only [ha]; exact new_go q
theorem compL_ext {C : V → AH → (Bool → AH → Prop) → Prop} {F : V → AH → (V → AH → Prop) → Prop} {g : Guard} {Q : List V → AH → Prop} {h0 : AH} (f : V → V) (hg : ∀ h', Ext h0 h' → g.ok h') (hC : ∀ v h K, K true h → C v h K) : ∀ {vs acc : List V} {h : AH}, Ext h0 h → (∀ v ∈ vs, ∀ h' K, Ext h0 h' → (∀ h'', Ext h0 h'' → K (f v) h'') → F v h' K) → (∀ h', Ext h0 h' → Q (acc ++ vs.map f) h') → loopC C F g vs acc h Q
  | [], acc, h, x, hF, q => ⟨hg _ x, by have := q h x; rwa [List.map_nil, List.append_nil] at this⟩
  | v :: vs, acc, h, x, hF, q => ⟨hg _ x, hC v _ _ (by
      rw [if_pos rfl]
      exact hF v (.head _) _ _ x fun h2 x2 => compL_ext f hg hC x2 (fun u hu => hF u (.tail _ hu)) fun h3 x3 => by rw [List.append_assoc]; exact q h3 x3)⟩
theorem eqL_refl {f : V → V → Option Bool} : ∀ {l : List V}, (∀ x ∈ l, f x x = some true) → eqL f l l = some true
  | [], _ => rfl
  | x :: l, h => by rw [eqL, h x (.head _), eqL_refl fun y hy => h y (.tail _ hy)]; rfl
theorem eqv_ints {h : AH} {n : Nat} {a b : Addr} {c : List Int} (ha : h a = some (.list (c.map .int))) (hb : h b = some (.list (c.map .int))) : eqv h (n + 2) (.ref a) (.ref b) = some true := by
  unfold eqv
  simp only [ha, hb, if_true]
  refine eqL_refl fun x hx => ?_
  obtain ⟨i, _, rfl⟩ := List.mem_map.mp hx
  rw [eqv_int]; simp
end
end Mine

namespace Mine.L04
open PySem
noncomputable def f_children : Fn := ⟨["tree", "folder"], [("tree", 0), ("folder", 1)], 3, [
    .ret (.bi .sorted [(.comp 2 (.var 0) [(.cmp .Eq (.sub (.var 0) (.var 2)) (.var 1))] (.var 2))])]⟩
noncomputable def f_rows : Fn := ⟨["tree"], [("tree", 0), ("under", 1), ("one", 2), ("found", 3), ("waiting", 4), ("depth", 5), ("folder", 6)], 8, [
    .assign 1 .dict0,
    .forr 2 (.bi .sorted [(.var 0)]) [
      .expr (.bm .append (.bm .setdefault (.var 1) [(.sub (.var 0) (.var 2)), (.list [])]) [(.var 2)])],
    .assign 3 (.list []),
    .assign 4 (.comp 7 (.rev (.bm .get (.var 1) [(.lit (.int 0)), (.list [])])) [] (.tuple [(.lit (.int 1)), (.var 7)])),
    .whil (.var 4) [
      .unpack2 5 6 (.bm .pop (.var 4) []),
      .expr (.bm .append (.var 3) [(.tuple [(.var 5), (.var 6)])]),
      .forr 2 (.rev (.bm .get (.var 1) [(.var 6), (.list [])])) [
        .expr (.bm .append (.var 4) [(.tuple [(.bin .Add (.var 5) (.lit (.int 1))), (.var 2)])])]],
    .ret (.var 3)]⟩
noncomputable def f_law_tree : Fn := ⟨["_law_script", "_law_size", "_law_wide", "_law_cell"], [("_law_script", 0), ("_law_size", 1), ("_law_wide", 2), ("_law_cell", 3), ("_law_tree_here", 4), ("_law_k", 5), ("_law_pick_here", 6)], 7, [
    .assign 4 .dict0,
    .forr 5 (.range1 (.var 1)) [
      .assign 6 (.bin .Mod (.callf "_law_cell_at" [(.var 0), (.bin .Add (.lit (.int 3)) (.var 5))]) (.bin .Add (.var 5) (.lit (.int 2)))),
      .ite (.cmp .Gt (.var 5) (.lit (.int 8))) [
        .assign 6 (.sub (.list [(.bin .Sub (.bin .Add (.var 5) (.lit (.int 1))) (.bin .Mod (.callf "_law_cell_at" [(.var 0), (.lit (.int 3))]) (.lit (.int 2)))), (.bin .Mult (.lit (.int 2)) (.bin .Mod (.bin .Mod (.var 5) (.lit (.int 3))) (.lit (.int 2))))]) (.bi .int [(.var 2)]))] [],
      .ite (.cmp .Eq (.var 6) (.lit (.int 0))) [
        .setitem (.var 4) (.callf "_law_name" [(.var 5), (.var 3)]) (.lit (.int 0))] [],
      .ite (.cmp .Gt (.var 6) (.lit (.int 1))) [
        .setitem (.var 4) (.callf "_law_name" [(.var 5), (.var 3)]) (.callf "_law_name" [(.bin .Sub (.var 6) (.lit (.int 2))), (.var 3)])] []],
    .ret (.var 4)]⟩
noncomputable def f_law_pick : Fn := ⟨["_law_pick_here", "_law_size", "_law_cell"], [("_law_pick_here", 0), ("_law_size", 1), ("_law_cell", 2)], 3, [
    .ite (.cmp .Eq (.var 0) (.lit (.int 0))) [
      .ret (.lit (.int 0))] [],
    .ite (.cmp .Gt (.var 0) (.var 1)) [
      .ret (.callf "_law_name" [(.bin .Add (.var 1) (.lit (.int 5))), (.var 2)])] [],
    .ret (.callf "_law_name" [(.bin .Sub (.var 0) (.lit (.int 1))), (.var 2)])]⟩
noncomputable def f_law_hangs : Fn := ⟨["_law_tree_here", "_law_found"], [("_law_tree_here", 0), ("_law_found", 1), ("_law_path", 2), ("_law_last", 3), ("_law_row", 4)], 5, [
    .assign 2 (.list [(.lit (.int 0))]),
    .assign 3 (.list [(.lit (.int 0))]),
    .forr 4 (.var 1) [
      .ite (.bop .Or [(.not (.isi (.var 4) [.tuple])), (.cmp .NotEq (.bi .len [(.var 4)]) (.lit (.int 2))), (.not (.callf "_law_whole" [(.sub (.var 4) (.lit (.int 0)))])), (.not (.callf "_law_whole" [(.sub (.var 4) (.lit (.int 1)))]))]) [
        .ret (.lit (.bool false))] [],
      .ite (.bop .Or [(.cmp .Lt (.sub (.var 4) (.lit (.int 0))) (.lit (.int 1))), (.cmp .Gt (.sub (.var 4) (.lit (.int 0))) (.bi .len [(.var 2)])), (.cmp .NotIn (.sub (.var 4) (.lit (.int 1))) (.var 0))]) [
        .ret (.lit (.bool false))] [],
      .assign 2 (.slice (.var 2) (.lit .none) (.sub (.var 4) (.lit (.int 0)))),
      .assign 3 (.slice (.var 3) (.lit .none) (.bin .Add (.sub (.var 4) (.lit (.int 0))) (.lit (.int 1)))),
      .ite (.cmp .Eq (.bi .len [(.var 3)]) (.sub (.var 4) (.lit (.int 0)))) [
        .expr (.bm .append (.var 3) [(.lit (.int 0))])] [],
      .ite (.bop .Or [(.cmp .NotEq (.sub (.var 0) (.sub (.var 4) (.lit (.int 1)))) (.sub (.var 2) (.neg (.lit (.int 1))))), (.cmp .LtE (.sub (.var 4) (.lit (.int 1))) (.sub (.var 3) (.sub (.var 4) (.lit (.int 0)))))]) [
        .ret (.lit (.bool false))] [],
      .setitem (.var 3) (.sub (.var 4) (.lit (.int 0))) (.sub (.var 4) (.lit (.int 1))),
      .expr (.bm .append (.var 2) [(.sub (.var 4) (.lit (.int 1)))])],
    .ret (.lit (.bool true))]⟩
noncomputable def f_law : Fn := ⟨["_law_script"], [("_law_script", 0), ("_law_size", 1), ("_law_wide", 2), ("_law_cell", 3), ("_law_tree_here", 4), ("_law_folder", 5), ("_law_handed", 6), ("_law_due", 7), ("_law_first", 8), ("_law_tops", 9), ("_law_found", 10), ("_law_hanging", 11), ("_law_kept", 12)], 17, [
    .assign 1 (.bin .Mod (.callf "_law_cell_at" [(.var 0), (.lit (.int 0))]) (.lit (.int 9))),
    .assign 2 (.cmp .Eq (.bin .Mod (.bin .FloorDiv (.callf "_law_cell_at" [(.var 0), (.lit (.int 0))]) (.lit (.int 9))) (.lit (.int 8))) (.lit (.int 2))),
    .ite (.cmp .In (.bin .Mod (.bin .FloorDiv (.callf "_law_cell_at" [(.var 0), (.lit (.int 0))]) (.lit (.int 9))) (.lit (.int 8))) (.tuple [(.lit (.int 1)), (.lit (.int 2))])) [
      .assign 1 (.bin .Add (.var 1) (.lit (.int 60)))] [],
    .assign 3 (.callf "_law_cell_at" [(.var 0), (.lit (.int 1))]),
    .assign 4 (.callf "_law_tree" [(.var 0), (.var 1), (.var 2), (.var 3)]),
    .assign 5 (.callf "_law_pick" [(.bin .Mod (.callf "_law_cell_at" [(.var 0), (.lit (.int 2))]) (.bin .Add (.var 1) (.lit (.int 2)))), (.var 1), (.var 3)]),
    .assign 6 (.bi .dict [(.var 4)]),
    .assign 7 (.bi .sorted [(.comp 13 (.var 4) [(.cmp .Eq (.sub (.var 4) (.var 13)) (.var 5))] (.var 13))]),
    .assign 8 (.callf "children" [(.var 6), (.var 5)]),
    .assign 9 (.bi .sorted [(.comp 14 (.var 4) [(.cmp .Eq (.sub (.var 4) (.var 14)) (.lit (.int 0)))] (.var 14))]),
    .ite (.bop .Or [(.not (.callf "_law_numbers" [(.var 8), (.var 7)])), (.not (.callf "_law_numbers" [(.callf "children" [(.var 6), (.lit (.int 0))]), (.var 9)]))]) [
      .ret (.lit (.bool false))] [],
    .ite (.not (.callf "_law_numbers" [(.var 8), (.var 7)])) [
      .ret (.lit (.bool false))] [],
    .assign 10 (.callf "rows" [(.var 6)]),
    .ite (.bop .Or [(.not (.isi (.var 10) [.list])), (.not (.callf "_law_hangs" [(.var 4), (.var 10)])), (.not (.callf "_law_same_tree" [(.var 6), (.var 4)]))]) [
      .ret (.lit (.bool false))] [],
    .assign 11 (.comp 15 (.var 4) [(.cmp .Eq (.sub (.callf "_law_way" [(.var 4), (.var 15)]) (.neg (.lit (.int 1)))) (.lit (.int 0)))] (.var 15)),
    .assign 12 (.bi .list [(.var 10)]),
    .ite (.bop .Or [(.cmp .NotEq (.callf "rows" [(.idict1 (.callf "_law_name" [(.lit (.int 0)), (.var 3)]) (.lit (.int 0)))]) (.list [(.tuple [(.lit (.int 1)), (.callf "_law_name" [(.lit (.int 0)), (.var 3)])])])), (.cmp .NotEq (.var 10) (.var 12))]) [
      .ret (.lit (.bool false))] [],
    .ret (.bop .And [(.cmp .Eq (.bi .len [(.var 10)]) (.bi .len [(.var 11)])), (.cmp .Eq (.bi .sorted [(.comp 16 (.var 10) [] (.sub (.var 16) (.lit (.int 1))))]) (.bi .sorted [(.var 11)]))])]⟩
end Mine.L04
namespace Mine.L04
open PySem PySem.W PyProof.Rows
noncomputable def fas : List (Str × Addr) := [(("children" : Str), (19 : Addr)), (("rows" : Str), (24 : Addr)), (("_law_whole" : Str), (31 : Addr)), (("_law_cell_at" : Str), (38 : Addr)), (("_law_name" : Str), (45 : Addr)), (("_law_tree" : Str), (52 : Addr)), (("_law_pick" : Str), (59 : Addr)), (("_law_way" : Str), (66 : Addr)), (("_law_numbers" : Str), (73 : Addr)), (("_law_same_tree" : Str), (80 : Addr)), (("_law_hangs" : Str), (87 : Addr)), (("law" : Str), (92 : Addr))]
noncomputable def Fns : List Fn := [f_children, f_rows, fWhole, fCell, fName, f_law_tree, f_law_pick, (fWay "_law_tree_here" "_law_folder" "_law_way_here"), fNumbers, fSame, f_law_hangs, f_law]
noncomputable def excs : List ExcT := []
noncomputable def clss : List ClsT := []
-- places up to 92; defs: 0:children 1:rows 2:_law_whole 3:_law_cell_at 4:_law_name 5:_law_tree 6:_law_pick 7:_law_way 8:_law_numbers 9:_law_same_tree 10:_law_hangs 11:law
end Mine.L04

namespace Mine

/-! rows of a tree: the folders in the order of a walk down -/
noncomputable def pre (ch : Int → List Int) : Nat → Nat → Int → List (Nat × Int)
  | 0, d, f => [(d, f)]
  | n + 1, d, f => (d, f) :: (ch f).flatMap (pre ch n (d + 1))
noncomputable def Ht (ch : Int → List Int) : Nat → Int → Prop
  | 0, f => ch f = []
  | n + 1, f => ∀ g ∈ ch f, Ht ch n g
theorem pre_succ {ch : Int → List Int} {n d : Nat} {f : Int} : pre ch (n + 1) d f = (d, f) :: (ch f).flatMap (pre ch n (d + 1)) := rfl
/-- what a folder is followed by: its children, one fuel less -/
theorem pre_step {ch : Int → List Int} {n d : Nat} {f : Int} (h : Ht ch n f) : ∃ k, (∀ g ∈ ch f, Ht ch k g) ∧ pre ch n d f = (d, f) :: (ch f).flatMap (pre ch k (d + 1)) := by
  cases n with
  | zero => exact ⟨0, by rw [show ch f = [] from h]; simp, by rw [show ch f = [] from h]; rfl⟩
  | succ n => exact ⟨n, h, rfl⟩

/-! the rows hang together -/
noncomputable def hOk (m : IM) : List Int → List Int → List (Nat × Int) → Prop
  | _, _, [] => True
  | p, l, (d, f) :: r => (1 ≤ d ∧ d ≤ p.length ∧ l.length = p.length ∧ mget m f = p[d - 1]? ∧ l[d]?.getD 0 < f) ∧ hOk m (p.take d ++ [f]) (l.take d ++ [f]) r

structure ChOk (m : IM) (ch : Int → List Int) : Prop where
  par : ∀ f, ∀ g ∈ ch f, mget m g = some f
  all : ∀ f g, mget m g = some f → g ∈ ch f
  pos : ∀ f, ∀ g ∈ ch f, 0 < g
  asc : ∀ f, (ch f).Pairwise (· < ·)

theorem hOk_sub {m : IM} {ch : Int → List Int} (C : ChOk m ch) : ∀ (n : Nat),
    (∀ (d : Nat) (f : Int) (p l : List Int) (rest : List (Nat × Int)), Ht ch n f → 1 ≤ d → d ≤ p.length → l.length = p.length → mget m f = p[d - 1]? → l[d]?.getD 0 < f →
      (∀ p' l' : List Int, l'.length = p'.length → d + 1 ≤ p'.length → p'.take (d + 1) = p.take d ++ [f] → l'.take (d + 1) = l.take d ++ [f] → hOk m p' l' rest) →
      hOk m p l (pre ch n d f ++ rest)) ∧
    (∀ (gs : List Int) (d : Nat) (q : Int) (p l : List Int) (rest : List (Nat × Int)), (∀ g ∈ gs, Ht ch n g) → 1 ≤ d → d ≤ p.length → l.length = p.length → p[d - 1]? = some q → (∀ g ∈ gs, mget m g = some q) →
      gs.Pairwise (· < ·) → (∀ g ∈ gs, l[d]?.getD 0 < g) →
      (∀ p' l' : List Int, l'.length = p'.length → d ≤ p'.length → p'.take d = p.take d → l'.take d = l.take d → hOk m p' l' rest) →
      hOk m p l (gs.flatMap (pre ch n d) ++ rest)) := by
  have sib : ∀ n, (∀ (d : Nat) (f : Int) (p l : List Int) (rest : List (Nat × Int)), Ht ch n f → 1 ≤ d → d ≤ p.length → l.length = p.length → mget m f = p[d - 1]? → l[d]?.getD 0 < f →
      (∀ p' l' : List Int, l'.length = p'.length → d + 1 ≤ p'.length → p'.take (d + 1) = p.take d ++ [f] → l'.take (d + 1) = l.take d ++ [f] → hOk m p' l' rest) →
      hOk m p l (pre ch n d f ++ rest)) → (∀ (gs : List Int) (d : Nat) (q : Int) (p l : List Int) (rest : List (Nat × Int)), (∀ g ∈ gs, Ht ch n g) → 1 ≤ d → d ≤ p.length → l.length = p.length → p[d - 1]? = some q → (∀ g ∈ gs, mget m g = some q) →
      gs.Pairwise (· < ·) → (∀ g ∈ gs, l[d]?.getD 0 < g) →
      (∀ p' l' : List Int, l'.length = p'.length → d ≤ p'.length → p'.take d = p.take d → l'.take d = l.take d → hOk m p' l' rest) →
      hOk m p l (gs.flatMap (pre ch n d) ++ rest)) := by
    intro n one gs
    induction gs with
    | nil => intro d q p l rest _ _ h2 h3 _ _ _ _ k; exact k p l h3 h2 rfl rfl
    | cons g gs ih =>
      intro d q p l rest ht h1 h2 h3 h4 h5 h6 h7 k
      rw [List.flatMap_cons, List.append_assoc]
      have h6' := List.pairwise_cons.mp h6
      refine one d g p l _ (ht g (by simp)) h1 h2 h3 (by rw [h5 g (by simp), h4]) (h7 g (by simp)) fun p' l' e1 e2 e3 e4 => ?_
      have tp : p'.take d = p.take d := by
        have := congrArg (List.take d) e3
        rw [List.take_take, List.take_append_of_le_length (by rw [List.length_take]; omega), List.take_take] at this
        simpa [Nat.min_eq_left (Nat.le_succ d)] using this
      have tl : l'.take d = l.take d := by
        have := congrArg (List.take d) e4
        rw [List.take_take, List.take_append_of_le_length (by rw [List.length_take]; omega), List.take_take] at this
        simpa [Nat.min_eq_left (Nat.le_succ d)] using this
      have ld : l'[d]? = some g := by
        have := congrArg (fun x => x[d]?) e4
        rw [List.getElem?_take_of_lt (by omega), List.getElem?_append_right (by rw [List.length_take]; omega)] at this
        rw [this, List.length_take, Nat.min_eq_left (by omega)]
        simp
      refine ih d q p' l' rest (fun x hx => ht x (by simp [hx])) h1 (by omega) e1 ?_ (fun x hx => h5 x (by simp [hx])) h6'.2 (fun x hx => ?_) fun p2 l2 a1 a2 a3 a4 => k p2 l2 a1 a2 (a3.trans tp) (a4.trans tl)
      · have := congrArg (fun x => x[d - 1]?) tp
        rw [List.getElem?_take_of_lt (by omega), List.getElem?_take_of_lt (by omega)] at this
        rw [this, h4]
      · rw [ld]; exact h6'.1 x hx
  intro n
  induction n with
  | zero =>
    refine ⟨?_, sib 0 ?_⟩ <;>
    · intro d f p l rest ht h1 h2 h3 h4 h5 k
      refine ⟨⟨h1, h2, h3, h4, h5⟩, k _ _ (by simp [h3]) (by simp; omega) ?_ ?_⟩
      · rw [List.take_of_length_le (by simp; omega)]
      · rw [List.take_of_length_le (by simp; omega)]
  | succ n ih =>
    have one : (∀ (d : Nat) (f : Int) (p l : List Int) (rest : List (Nat × Int)), Ht ch (n + 1) f → 1 ≤ d → d ≤ p.length → l.length = p.length → mget m f = p[d - 1]? → l[d]?.getD 0 < f →
      (∀ p' l' : List Int, l'.length = p'.length → d + 1 ≤ p'.length → p'.take (d + 1) = p.take d ++ [f] → l'.take (d + 1) = l.take d ++ [f] → hOk m p' l' rest) →
      hOk m p l (pre ch (n + 1) d f ++ rest)) := by
      intro d f p l rest ht h1 h2 h3 h4 h5 k
      refine ⟨⟨h1, h2, h3, h4, h5⟩, ?_⟩
      have lp : (p.take d ++ [f]).length = d + 1 := by simp; omega
      have ll : (l.take d ++ [f]).length = d + 1 := by simp; omega
      refine ih.2 (ch f) (d + 1) f _ _ rest ht (by omega) (by omega) (by omega) ?_ (C.par f) (C.asc f) ?_ fun p' l' e1 e2 e3 e4 => k p' l' e1 e2 ?_ ?_
      · rw [Nat.add_sub_cancel, List.getElem?_append_right (by simp; omega)]
        simp [Nat.min_eq_left h2]
      · intro g hg
        rw [List.getElem?_eq_none (by omega)]
        exact C.pos f g hg
      · rw [e3, List.take_of_length_le (by omega)]
      · rw [e4, List.take_of_length_le (by omega)]
    exact ⟨one, sib (n + 1) one⟩

noncomputable def rowsAll (ch : Int → List Int) (n : Nat) : List (Nat × Int) := (ch 0).flatMap (pre ch n 1)
theorem hOk_all {m : IM} {ch : Int → List Int} (C : ChOk m ch) {n : Nat} (ht : ∀ g ∈ ch 0, Ht ch n g) : hOk m [0] [0] (rowsAll ch n) := by
  have := (hOk_sub C n).2 (ch 0) 1 0 [0] [0] [] ht (by omega) (by simp) rfl (by rfl) (C.par 0) (C.asc 0) (fun g hg => C.pos 0 g hg) (fun _ _ _ _ _ _ => trivial)
  rwa [List.append_nil] at this

/-! which folders the rows tell -/
theorem pre_ids {m : IM} {ch : Int → List Int} (C : ChOk m ch) (P : Int → Prop) (hP : ∀ f g, mget m g = some f → P f → P g) : ∀ (n d : Nat) (f : Int), P f → ∀ x ∈ pre ch n d f, P x.2
  | 0, d, f, h, x, hx => by
    have : x = (d, f) := by simpa [pre] using hx
    rw [this]; exact h
  | n + 1, d, f, h, x, hx => by
    rw [pre_succ] at hx
    rcases List.mem_cons.mp hx with rfl | hx
    · exact h
    · obtain ⟨g, hg, hx⟩ := List.mem_flatMap.mp hx
      exact pre_ids C P hP n (d + 1) g (hP f g (C.par f g hg) h) x hx
theorem pre_head {ch : Int → List Int} {n d : Nat} {f : Int} : (d, f) ∈ pre ch n d f := by cases n <;> simp [pre]
theorem pre_down {ch : Int → List Int} : ∀ (n d : Nat) (f : Int), Ht ch n f → ∀ x ∈ pre ch n d f, ∀ g ∈ ch x.2, ∃ e, (e, g) ∈ pre ch n d f
  | 0, d, f, h, x, hx, g, hg => by
    have : x = (d, f) := by simpa [pre] using hx
    rw [this] at hg
    rw [show ch f = [] from h] at hg
    cases hg
  | n + 1, d, f, h, x, hx, g, hg => by
    rw [pre_succ] at hx ⊢
    rcases List.mem_cons.mp hx with rfl | hx
    · exact ⟨d + 1, List.mem_cons_of_mem _ (List.mem_flatMap.mpr ⟨g, hg, pre_head⟩)⟩
    · obtain ⟨y, hy, hx⟩ := List.mem_flatMap.mp hx
      obtain ⟨e, he⟩ := pre_down n (d + 1) y (h y hy) x hx g hg
      exact ⟨e, List.mem_cons_of_mem _ (List.mem_flatMap.mpr ⟨y, hy, he⟩)⟩

/-- how far down -/
noncomputable def wl (m : IM) (x : Int) : Nat := (wayL m 401 x).length
noncomputable def top (m : IM) (x : Int) : Int := (wayL m 401 x).getLast wayL_ne
theorem wayL_some {m : IM} {x y : Int} (e : ends m 400 y) (h : mget m x = some y) : wayL m 401 x = x :: wayL m 401 y := by
  rw [wayL_mono e (by omega), show wayL m 401 x = (match mget m x with | none => [x] | some y => x :: wayL m 400 y) from rfl, h]
theorem wl_some {m : IM} {x y : Int} (e : ends m 400 y) (h : mget m x = some y) : wl m x = wl m y + 1 := by
  unfold wl; rw [wayL_some e h]; rfl
theorem top_some {m : IM} {x y : Int} (e : ends m 400 y) (h : mget m x = some y) : top m x = top m y := by
  unfold top
  simp only [wayL_some e h]
  exact List.getLast_cons wayL_ne
theorem top_none {m : IM} {x : Int} (h : mget m x = none) : top m x = x := by
  have : wayL m 401 x = [x] := by rw [show wayL m 401 x = (match mget m x with | none => [x] | some y => x :: wayL m 400 y) from rfl, h]
  unfold top; simp only [this]; rfl

/-- x lies under f -/
inductive Un (m : IM) (f : Int) : Int → Prop
  | self : Un m f f
  | up {x y : Int} : mget m x = some y → Un m f y → Un m f x
theorem Un.wlt {m : IM} {f x : Int} (E : ∀ x y, mget m x = some y → ends m 400 y) (h : Un m f x) : f = x ∨ wl m f < wl m x := by
  induction h with
  | self => exact .inl rfl
  | up e _ ih => have := wl_some (E _ _ e) e; rcases ih with rfl | ih <;> exact .inr (by omega)
theorem Un.eq {m : IM} {f g x : Int} (E : ∀ x y, mget m x = some y → ends m 400 y) (h : Un m f x) : Un m g x → wl m f = wl m g → f = g := by
  induction h with
  | self =>
    intro k e
    rcases k.wlt E with k | k
    · exact k.symm
    · omega
  | up e h ih =>
    intro k e2
    cases k with
    | self =>
      rcases (Un.up e h).wlt E with h | h
      · exact h
      · omega
    | up e3 k => rw [e] at e3; cases e3; exact ih k e2
theorem pre_nodup {m : IM} {ch : Int → List Int} (C : ChOk m ch) (E : ∀ x y, mget m x = some y → ends m 400 y) :
    ∀ (n d : Nat) (f : Int), ((pre ch n d f).map (·.2)).Nodup
  | 0, d, f => by simp [pre]
  | n + 1, d, f => by
    rw [pre_succ, List.map_cons, List.nodup_cons, List.map_flatMap]
    have sub : ∀ g ∈ ch f, ∀ x, x ∈ (pre ch n (d + 1) g).map (·.2) → Un m g x := by
      intro g hg x hx
      obtain ⟨y, hy, rfl⟩ := List.mem_map.mp hx
      exact pre_ids C (Un m g) (fun _ _ a b => .up a b) n (d + 1) g .self y hy
    constructor
    · intro hx
      obtain ⟨g, hg, hx⟩ := List.mem_flatMap.mp hx
      have e := C.par f g hg
      have h1 := wl_some (E _ _ e) e
      rcases (sub g hg _ hx).wlt E with h2 | h2
      · rw [h2] at h1; dsimp only at h1; omega
      · dsimp only at h2; omega
    · unfold List.Nodup
      rw [List.pairwise_flatMap]
      refine ⟨fun g hg => pre_nodup C E n (d + 1) g, (C.asc f).imp_of_mem fun {g1 g2} h1 h2 lt x hx y hy exy => ?_⟩
      subst exy
      have e1 := C.par f g1 h1
      have e2 := C.par f g2 h2
      have := Un.eq E (sub g1 h1 x hx) (sub g2 h2 x hy) (by rw [wl_some (E _ _ e1) e1, wl_some (E _ _ e2) e2])
      omega

theorem rows_nodup {m : IM} {ch : Int → List Int} (C : ChOk m ch) (E : ∀ x y, mget m x = some y → ends m 400 y) {n : Nat} : ((rowsAll ch n).map (·.2)).Nodup := by
  have := pre_nodup C E (n + 1) 0 0
  rw [pre_succ, List.map_cons, List.nodup_cons] at this
  exact this.2

theorem rows_ids {m : IM} {ch : Int → List Int} (C : ChOk m ch) (E : ∀ x y, mget m x = some y → ends m 400 y) (E0 : mget m 0 = none) {n : Nat} (ht : ∀ g ∈ ch 0, Ht ch n g) (x : Int) :
    x ∈ (rowsAll ch n).map (·.2) ↔ (∃ y, mget m x = some y) ∧ top m x = 0 := by
  constructor
  · intro hx
    obtain ⟨r, hr, rfl⟩ := List.mem_map.mp hx
    obtain ⟨g, hg, hr⟩ := List.mem_flatMap.mp hr
    refine pre_ids C (fun x => (∃ y, mget m x = some y) ∧ top m x = 0) (fun f g e h => ⟨⟨_, e⟩, by rw [top_some (E _ _ e) e]; exact h.2⟩) n 1 g ?_ r hr
    have e := C.par 0 g hg
    exact ⟨⟨_, e⟩, by rw [top_some (E _ _ e) e, top_none E0]⟩
  · rintro ⟨⟨y, hy⟩, ht0⟩
    have key : ∀ k x, ends m k x → (∃ y, mget m x = some y) → top m x = 0 → ∃ e, (e, x) ∈ rowsAll ch n := by
      intro k
      induction k with
      | zero => rintro x e ⟨y, hy⟩ _; rw [show mget m x = none from e] at hy; cases hy
      | succ k ih =>
        rintro x e ⟨y, hy⟩ h0
        unfold ends at e
        rw [hy] at e
        simp only at e
        rw [top_some (E _ _ hy) hy] at h0
        by_cases y0 : y = 0
        · subst y0
          exact ⟨1, List.mem_flatMap.mpr ⟨x, C.all 0 x hy, pre_head⟩⟩
        · cases e2 : mget m y with
          | none => rw [top_none e2] at h0; exact absurd h0 y0
          | some z =>
            obtain ⟨e', he'⟩ := ih y e ⟨z, e2⟩ h0
            obtain ⟨g, hg, hr⟩ := List.mem_flatMap.mp he'
            obtain ⟨e3, h3⟩ := pre_down n 1 g (ht g hg) _ hr x (C.all y x hy)
            exact ⟨e3, List.mem_flatMap.mpr ⟨g, hg, h3⟩⟩
    obtain ⟨e, he⟩ := key 401 x (by unfold ends; rw [hy]; exact E _ _ hy) ⟨y, hy⟩ ht0
    exact List.mem_map.mpr ⟨_, he, rfl⟩
end Mine

namespace Mine

/-! the trees that the law builds -/
noncomputable def TreeOk (c : Int) (n : Nat) (m : IM) : Prop := (∀ p ∈ m, ∃ k : Nat, k < n ∧ p.1 = nm c k ∧ (p.2 = 0 ∨ ∃ j : Nat, j < k ∧ p.2 = nm c j)) ∧ m.length ≤ n ∧ (m.map (·.1)).Nodup
theorem mput_ks {m : IM} {k v : Int} : ((mput m k v).map (·.1)) = if m.any (fun p => p.1 = k) then m.map (·.1) else m.map (·.1) ++ [k] := by
  unfold mput
  split
  · rw [List.map_map]
    refine List.map_congr_left fun p hp => ?_
    simp only [Function.comp]
    split <;> simp
  · simp
theorem mput_nd {m : IM} {k v : Int} (h : (m.map (·.1)).Nodup) : ((mput m k v).map (·.1)).Nodup := by
  rw [mput_ks]
  split
  · exact h
  · rename_i q
    rw [List.nodup_append]
    refine ⟨h, by simp, fun a ha b hb e => ?_⟩
    have : b = k := by simpa using hb
    subst this; subst e
    obtain ⟨p, hp, e⟩ := List.mem_map.mp ha
    apply q
    rw [List.any_eq_true]
    exact ⟨p, hp, by simpa using e⟩
theorem TreeOk.up {c : Int} {n : Nat} {m : IM} (h : TreeOk c n m) : TreeOk c (n + 1) m := ⟨fun p hp => let ⟨k, a, b⟩ := h.1 p hp; ⟨k, by omega, b⟩, by have := h.2.1; omega, h.2.2⟩
theorem TreeOk.put {c : Int} {n : Nat} {m : IM} {v : Int} (h : TreeOk c n m) (hv : v = 0 ∨ ∃ j : Nat, j < n ∧ v = nm c j) : TreeOk c (n + 1) (mput m (nm c n) v) := by
  refine ⟨fun p hp => ?_, Nat.le_trans mput_length (by have := h.2.1; omega), mput_nd h.2.2⟩
  rcases mem_mput hp with q | rfl
  · exact h.up.1 p q
  · exact ⟨n, by omega, rfl, hv⟩

section
variable {c : Int} {n : Nat} {m : IM}
theorem TreeOk.get (hn : n ≤ 400) (t : TreeOk c n m) {x y : Int} (e : mget m x = some y) : ∃ k : Nat, k < n ∧ x = nm c k ∧ (y = 0 ∨ ∃ j : Nat, j < k ∧ y = nm c j) := t.1 _ (mget_mem e)
theorem TreeOk.zero (hn : n ≤ 400) (t : TreeOk c n m) : mget m 0 = none := by
  refine mget_none fun p hp e => ?_
  obtain ⟨k, hk, e1, _⟩ := t.1 p hp
  have := nm_pos (c := c) (k := k) (by omega) (by omega)
  omega
theorem TreeOk.ends_nm (hn : n ≤ 400) (t : TreeOk c n m) : ∀ k : Nat, k ≤ 400 → ends m (k + 1) (nm c k) := by
  intro k
  induction k using Nat.strongRecOn with
  | ind k ih =>
    intro hk
    unfold ends
    split
    · trivial
    · rename_i y hy
      obtain ⟨k', hk', e1, e2⟩ := t.get hn hy
      have : (k : Int) = k' := nm_inj (by omega) (by omega) (by omega) (by omega) e1
      have : k = k' := by omega
      subst this
      rcases e2 with rfl | ⟨j, hj, rfl⟩
      · exact ends_le (show ends m 0 0 from t.zero hn) (by omega)
      · exact ends_le (ih j hj (by omega)) (by omega)
theorem TreeOk.ends (hn : n ≤ 390) (t : TreeOk c n m) (x y : Int) (e : mget m x = some y) : ends m 400 y := by
  obtain ⟨k, hk, e1, e2⟩ := t.get (by omega) e
  rcases e2 with rfl | ⟨j, hj, rfl⟩
  · exact ends_le (show Mine.ends m 0 0 from t.zero (by omega)) (by omega)
  · exact ends_le (t.ends_nm (by omega) j (by omega)) (by omega)

/-- the children of a folder, from the sorted keys -/
noncomputable def chL (m : IM) (ks : List Int) (f : Int) : List Int := ks.filter fun k => decide (mget m k = some f)
theorem ch_mem {ks : List Int} {f g : Int} (h : g ∈ chL m ks f) : mget m g = some f := by
  have := (List.mem_filter.mp h).2
  exact of_decide_eq_true this
theorem TreeOk.chOk (hn : n ≤ 400) (t : TreeOk c n m) {ks : List Int} (hs : ks.Pairwise (· < ·)) (hk : ∀ k, k ∈ ks ↔ k ∈ m.map (·.1)) : ChOk m (chL m ks) := by
  refine ⟨fun f g hg => ch_mem hg, fun f g e => List.mem_filter.mpr ⟨(hk g).mpr (List.mem_map.mpr ⟨_, mget_mem e, rfl⟩), decide_eq_true e⟩, fun f g hg => ?_, fun f => hs.filter _⟩
  obtain ⟨k, hk, rfl, _⟩ := t.get hn (ch_mem hg)
  exact nm_pos (by omega) (by omega)
theorem TreeOk.ht (hn : n ≤ 400) (t : TreeOk c n m) {ks : List Int} : ∀ (d j : Nat), n - j ≤ d → j < n → Ht (chL m ks) d (nm c j) := by
  intro d
  induction d with
  | zero => intro j h1 h2; omega
  | succ d ih =>
    intro j h1 h2 g hg
    obtain ⟨k, hk, rfl, e2⟩ := t.get hn (ch_mem hg)
    rcases e2 with e2 | ⟨j', hj', e2⟩
    · have := nm_pos (c := c) (k := j) (by omega) (by omega); omega
    · have := nm_inj (by omega) (by omega) (by omega) (by omega) e2
      exact ih k (by omega) hk
theorem TreeOk.ht0 (hn : n ≤ 400) (t : TreeOk c n m) {ks : List Int} : ∀ g ∈ chL m ks 0, Ht (chL m ks) n g := by
  intro g hg
  obtain ⟨k, hk, rfl, _⟩ := t.get hn (ch_mem hg)
  exact t.ht hn n k (by omega) hk
end
end Mine

namespace Mine.L04
open PySem PySem.W PyProof.Rows


/-! the tree that the law builds -/
noncomputable def pickV (ns : List Int) (w : Bool) (k : Nat) : Int := if (8 : Int) < k then (if w = true then 2 * ((k : Int) % 3 % 2) else (k : Int) + 1 - cellAt ns 3 % 2) else cellAt ns (3 + k) % ((k : Int) + 2)
noncomputable def treeS (ns : List Int) (w : Bool) (c : Int) (m : IM) (k : Nat) : IM :=
  if pickV ns w k = 0 then mput m (nm c k) 0 else if 1 < pickV ns w k then mput m (nm c k) (nm c (pickV ns w k - 2)) else m
noncomputable def treeM (ns : List Int) (w : Bool) (c : Int) : Nat → IM
  | 0 => []
  | n + 1 => treeS ns w c (treeM ns w c n) n
theorem pickV_le {ns : List Int} {w : Bool} {k : Nat} : 0 ≤ pickV ns w k ∧ pickV ns w k ≤ k + 1 := by
  unfold pickV
  split
  · split <;> omega
  · have h1 := Int.emod_nonneg (cellAt ns (3 + k)) (b := (k : Int) + 2) (by omega)
    have h2 := Int.emod_lt_of_pos (cellAt ns (3 + k)) (b := (k : Int) + 2) (by omega)
    omega
theorem treeOk {ns : List Int} {w : Bool} {c : Int} : ∀ n, TreeOk c n (treeM ns w c n)
  | 0 => ⟨fun p hp => (by cases hp), by simp [treeM], by simp [treeM]⟩
  | n + 1 => by
    have ih := treeOk (ns := ns) (w := w) (c := c) n
    show TreeOk c (n + 1) (treeS ns w c (treeM ns w c n) n)
    unfold treeS
    split
    · exact ih.put (.inl rfl)
    split
    · refine ih.put (.inr ⟨(pickV ns w n - 2).toNat, ?_, ?_⟩)
      · have := pickV_le (ns := ns) (w := w) (k := n); omega
      · rw [Int.toNat_of_nonneg (by omega)]
    · exact ih.up

section
variable {X : Ctx}
theorem c_tree (G : X.Good) (Dc : X.Def "_law_cell_at" fCell) (Dn : X.Def "_law_name" fName) (D : X.Def "_law_tree" f_law_tree) {k : Nat} {h : AH} {L : Addr} {ns : List Int} {n : Nat} {w : Bool} {c : Int} {Q R} (hL : h L = some (.flist (ns.map .int))) (hn : n ≤ 68)
    (q : ∀ a e h', h a = none → Ext h h' → h' a = some (.idict (iD (treeM ns w c n)) e) → Q (.ref a) h') : X.Call (k + 3) "_law_tree" [.ref L, .int n, .bool w, .int c] h Q R := by
  refine D.call G rfl ?_
  unfold f_law_tree
  (rw [wcons]; (((try dsimp only [Fn.init,wpS,wpT,wpTs,wpB,wpI,wpC,wpE,wpEs,biP,zaa,zab,zac,zad,zae,zaf,zag,zah,zai,zaj,zak,zal,zam,zan,zao,zap,zaq,zar,zas,zat,zau,zav,zaw,zax,zay,zaz,zba,zbb,zbc,zbd,zbe,isiV,kindV,kindO,tyN,srcP,ya,yb,yc,yd,List.replicate,ye,yf,yg,yh,yi,yj,Nat.reduceSub,Nat.reduceAdd,Nat.reduceBEq,yk,yl,ym,yn,yw,yx,zbf,zbg,zbh,zbi]); (try simp only [zbj,zaa,zaf,zag,zah,zai,zas,zbb,zbc,zbd,zbe,zab,zac,zad,zae,zbk,zbl,zbm,zbn,zak,zal,zbo,zaj,zam,zan,zao,zap,zaq,zar,zax,zay,zaz,zba,zat,zau,zav,zaw,Nat.reduceBEq,yo,yl,yk,yp,yq,yn,yr,ym,ya,yb,yc,yd,ye,yf,yg,yh,yi,yj,not_true_eq_false,not_false_eq_true,Classical.not_not,decide_true,decide_false,ys,yt,yu,yv,true_and,and_true,ite_true,ite_false,if_true,if_false,yw,yx,yy,yz,Nat.sub_self,Nat.reduceSub,Nat.reduceAdd,Int.reduceToNat,Int.reduceLT,Int.reduceLE,Int.reduceNeg,eq_self,zbp,zbq,zbr,zbs,zbt,zbu,zbv,zbw,zbx,zby,zbz,zca]))))
  refine fun e1 => new_go fun t h1 nt x1 ht => ?_
  (rw [wcons]; (((try dsimp only [Fn.init,wpS,wpT,wpTs,wpB,wpI,wpC,wpE,wpEs,biP,zaa,zab,zac,zad,zae,zaf,zag,zah,zai,zaj,zak,zal,zam,zan,zao,zap,zaq,zar,zas,zat,zau,zav,zaw,zax,zay,zaz,zba,zbb,zbc,zbd,zbe,isiV,kindV,kindO,tyN,srcP,ya,yb,yc,yd,List.replicate,ye,yf,yg,yh,yi,yj,Nat.reduceSub,Nat.reduceAdd,Nat.reduceBEq,yk,yl,ym,yn,yw,yx,zbf,zbg,zbh,zbi]); (try simp only [zbj,zaa,zaf,zag,zah,zai,zas,zbb,zbc,zbd,zbe,zab,zac,zad,zae,zbk,zbl,zbm,zbn,zak,zal,zbo,zaj,zam,zan,zao,zap,zaq,zar,zax,zay,zaz,zba,zat,zau,zav,zaw,Nat.reduceBEq,yo,yl,yk,yp,yq,yn,yr,ym,ya,yb,yc,yd,ye,yf,yg,yh,yi,yj,not_true_eq_false,not_false_eq_true,Classical.not_not,decide_true,decide_false,ys,yt,yu,yv,true_and,and_true,ite_true,ite_false,if_true,if_false,yw,yx,yy,yz,Nat.sub_self,Nat.reduceSub,Nat.reduceAdd,Int.reduceToNat,Int.reduceLT,Int.reduceLE,Int.reduceNeg,eq_self,zbp,zbq,zbr,zbs,zbt,zbu,zbv,zbw,zbx,zby,zbz,zca]))))
  refine ⟨⟨by omega, by unfold small; omega⟩, ?_⟩
  rw [Int.toNat_natCast]
  refine loop_range0 (fun i fr h' => Ext h h' ∧ (∃ e, h' t = some (.idict (iD (treeM ns w c i)) e)) ∧ ∃ u v, fr = [some (.ref L), some (.int n), some (.bool w), some (.int c), some (.ref t), u, v]) ?_ ?_ ⟨x1, ⟨_, ht⟩, _, _, rfl⟩
  · rintro i fr h1 K hi ⟨x1, ⟨e1, ht⟩, u, v, rfl⟩ hK
    have len := (treeOk (ns := ns) (w := w) (c := c) i).2.1
    have bd := pickV_le (ns := ns) (w := w) (k := i)
    rw [Int.zero_add]
    (((try dsimp only [Fn.init,wpS,wpT,wpTs,wpB,wpI,wpC,wpE,wpEs,biP,zaa,zab,zac,zad,zae,zaf,zag,zah,zai,zaj,zak,zal,zam,zan,zao,zap,zaq,zar,zas,zat,zau,zav,zaw,zax,zay,zaz,zba,zbb,zbc,zbd,zbe,isiV,kindV,kindO,tyN,srcP,ya,yb,yc,yd,List.replicate,ye,yf,yg,yh,yi,yj,Nat.reduceSub,Nat.reduceAdd,Nat.reduceBEq,yk,yl,ym,yn,yw,yx,zbf,zbg,zbh,zbi]); (try simp only [zbj,zaa,zaf,zag,zah,zai,zas,zbb,zbc,zbd,zbe,zab,zac,zad,zae,zbk,zbl,zbm,zbn,zak,zal,zbo,zaj,zam,zan,zao,zap,zaq,zar,zax,zay,zaz,zba,zat,zau,zav,zaw,Nat.reduceBEq,yo,yl,yk,yp,yq,yn,yr,ym,ya,yb,yc,yd,ye,yf,yg,yh,yi,yj,not_true_eq_false,not_false_eq_true,Classical.not_not,decide_true,decide_false,ys,yt,yu,yv,true_and,and_true,ite_true,ite_false,if_true,if_false,yw,yx,yy,yz,Nat.sub_self,Nat.reduceSub,Nat.reduceAdd,Int.reduceToNat,Int.reduceLT,Int.reduceLE,Int.reduceNeg,eq_self,zbp,zbq,zbr,zbs,zbt,zbu,zbv,zbw,zbx,zby,zbz,zca])))
    (rw [wcons]; (((try dsimp only [Fn.init,wpS,wpT,wpTs,wpB,wpI,wpC,wpE,wpEs,biP,zaa,zab,zac,zad,zae,zaf,zag,zah,zai,zaj,zak,zal,zam,zan,zao,zap,zaq,zar,zas,zat,zau,zav,zaw,zax,zay,zaz,zba,zbb,zbc,zbd,zbe,isiV,kindV,kindO,tyN,srcP,ya,yb,yc,yd,List.replicate,ye,yf,yg,yh,yi,yj,Nat.reduceSub,Nat.reduceAdd,Nat.reduceBEq,yk,yl,ym,yn,yw,yx,zbf,zbg,zbh,zbi]); (try simp only [zbj,zaa,zaf,zag,zah,zai,zas,zbb,zbc,zbd,zbe,zab,zac,zad,zae,zbk,zbl,zbm,zbn,zak,zal,zbo,zaj,zam,zan,zao,zap,zaq,zar,zax,zay,zaz,zba,zat,zau,zav,zaw,Nat.reduceBEq,yo,yl,yk,yp,yq,yn,yr,ym,ya,yb,yc,yd,ye,yf,yg,yh,yi,yj,not_true_eq_false,not_false_eq_true,Classical.not_not,decide_true,decide_false,ys,yt,yu,yv,true_and,and_true,ite_true,ite_false,if_true,if_false,yw,yx,yy,yz,Nat.sub_self,Nat.reduceSub,Nat.reduceAdd,Int.reduceToNat,Int.reduceLT,Int.reduceLE,Int.reduceNeg,eq_self,zbp,zbq,zbr,zbs,zbt,zbu,zbv,zbw,zbx,zby,zbz,zca]))))
    refine ⟨Dc.some, _, rfl, c_cell G Dc (x1 _ _ hL) (by omega) ?_⟩
    (((try dsimp only [Fn.init,wpS,wpT,wpTs,wpB,wpI,wpC,wpE,wpEs,biP,zaa,zab,zac,zad,zae,zaf,zag,zah,zai,zaj,zak,zal,zam,zan,zao,zap,zaq,zar,zas,zat,zau,zav,zaw,zax,zay,zaz,zba,zbb,zbc,zbd,zbe,isiV,kindV,kindO,tyN,srcP,ya,yb,yc,yd,List.replicate,ye,yf,yg,yh,yi,yj,Nat.reduceSub,Nat.reduceAdd,Nat.reduceBEq,yk,yl,ym,yn,yw,yx,zbf,zbg,zbh,zbi]); (try simp only [zbj,zaa,zaf,zag,zah,zai,zas,zbb,zbc,zbd,zbe,zab,zac,zad,zae,zbk,zbl,zbm,zbn,zak,zal,zbo,zaj,zam,zan,zao,zap,zaq,zar,zax,zay,zaz,zba,zat,zau,zav,zaw,Nat.reduceBEq,yo,yl,yk,yp,yq,yn,yr,ym,ya,yb,yc,yd,ye,yf,yg,yh,yi,yj,not_true_eq_false,not_false_eq_true,Classical.not_not,decide_true,decide_false,ys,yt,yu,yv,true_and,and_true,ite_true,ite_false,if_true,if_false,yw,yx,yy,yz,Nat.sub_self,Nat.reduceSub,Nat.reduceAdd,Int.reduceToNat,Int.reduceLT,Int.reduceLE,Int.reduceNeg,eq_self,zbp,zbq,zbr,zbs,zbt,zbu,zbv,zbw,zbx,zby,zbz,zca])))
    refine ⟨by omega, ?_⟩
    have key : ∀ h2, Ext h h2 → h2 t = some (.idict (iD (treeM ns w c i)) e1) → wpSs X ⟨k + 2, true⟩ ((match f_law_tree.body with | [_, .forr _ _ b, _] => b | _ => []).drop 2) K (fun C x h' => R C h') [some (.ref L), some (.int n), some (.bool w), some (.int c), some (.ref t), some (.int i), some (.int (pickV ns w i))] h2 := by
      intro h2 x2 ht2
      simp only [f_law_tree, List.drop_succ_cons, List.drop_zero]
      have up : treeM ns w c (i + 1) = treeS ns w c (treeM ns w c i) i := rfl
      unfold treeS at up
      (rw [wcons]; (((try dsimp only [Fn.init,wpS,wpT,wpTs,wpB,wpI,wpC,wpE,wpEs,biP,zaa,zab,zac,zad,zae,zaf,zag,zah,zai,zaj,zak,zal,zam,zan,zao,zap,zaq,zar,zas,zat,zau,zav,zaw,zax,zay,zaz,zba,zbb,zbc,zbd,zbe,isiV,kindV,kindO,tyN,srcP,ya,yb,yc,yd,List.replicate,ye,yf,yg,yh,yi,yj,Nat.reduceSub,Nat.reduceAdd,Nat.reduceBEq,yk,yl,ym,yn,yw,yx,zbf,zbg,zbh,zbi]); (try simp only [zbj,zaa,zaf,zag,zah,zai,zas,zbb,zbc,zbd,zbe,zab,zac,zad,zae,zbk,zbl,zbm,zbn,zak,zal,zbo,zaj,zam,zan,zao,zap,zaq,zar,zax,zay,zaz,zba,zat,zau,zav,zaw,Nat.reduceBEq,yo,yl,yk,yp,yq,yn,yr,ym,ya,yb,yc,yd,ye,yf,yg,yh,yi,yj,not_true_eq_false,not_false_eq_true,Classical.not_not,decide_true,decide_false,ys,yt,yu,yv,true_and,and_true,ite_true,ite_false,if_true,if_false,yw,yx,yy,yz,Nat.sub_self,Nat.reduceSub,Nat.reduceAdd,Int.reduceToNat,Int.reduceLT,Int.reduceLE,Int.reduceNeg,eq_self,zbp,zbq,zbr,zbs,zbt,zbu,zbv,zbw,zbx,zby,zbz,zca]))))
      split
      · rename_i p0
        rw [if_pos p0] at up
        (rw [wcons]; (((try dsimp only [Fn.init,wpS,wpT,wpTs,wpB,wpI,wpC,wpE,wpEs,biP,zaa,zab,zac,zad,zae,zaf,zag,zah,zai,zaj,zak,zal,zam,zan,zao,zap,zaq,zar,zas,zat,zau,zav,zaw,zax,zay,zaz,zba,zbb,zbc,zbd,zbe,isiV,kindV,kindO,tyN,srcP,ya,yb,yc,yd,List.replicate,ye,yf,yg,yh,yi,yj,Nat.reduceSub,Nat.reduceAdd,Nat.reduceBEq,yk,yl,ym,yn,yw,yx,zbf,zbg,zbh,zbi]); (try simp only [zbj,zaa,zaf,zag,zah,zai,zas,zbb,zbc,zbd,zbe,zab,zac,zad,zae,zbk,zbl,zbm,zbn,zak,zal,zbo,zaj,zam,zan,zao,zap,zaq,zar,zax,zay,zaz,zba,zat,zau,zav,zaw,Nat.reduceBEq,yo,yl,yk,yp,yq,yn,yr,ym,ya,yb,yc,yd,ye,yf,yg,yh,yi,yj,not_true_eq_false,not_false_eq_true,Classical.not_not,decide_true,decide_false,ys,yt,yu,yv,true_and,and_true,ite_true,ite_false,if_true,if_false,yw,yx,yy,yz,Nat.sub_self,Nat.reduceSub,Nat.reduceAdd,Int.reduceToNat,Int.reduceLT,Int.reduceLE,Int.reduceNeg,eq_self,zbp,zbq,zbr,zbs,zbt,zbu,zbv,zbw,zbx,zby,zbz,zca]))))
        refine ⟨Dn.some, _, rfl, c_name G Dn (by omega) (by omega) fun h3 x3 => ?_⟩
        simp only [setP, x3 _ _ ht2, iD_length, dput_iD]
        refine ⟨by unfold small; omega, fun e4 => ?_⟩
        (((try dsimp only [Fn.init,wpS,wpT,wpTs,wpB,wpI,wpC,wpE,wpEs,biP,zaa,zab,zac,zad,zae,zaf,zag,zah,zai,zaj,zak,zal,zam,zan,zao,zap,zaq,zar,zas,zat,zau,zav,zaw,zax,zay,zaz,zba,zbb,zbc,zbd,zbe,isiV,kindV,kindO,tyN,srcP,ya,yb,yc,yd,List.replicate,ye,yf,yg,yh,yi,yj,Nat.reduceSub,Nat.reduceAdd,Nat.reduceBEq,yk,yl,ym,yn,yw,yx,zbf,zbg,zbh,zbi]); (try simp only [zbj,zaa,zaf,zag,zah,zai,zas,zbb,zbc,zbd,zbe,zab,zac,zad,zae,zbk,zbl,zbm,zbn,zak,zal,zbo,zaj,zam,zan,zao,zap,zaq,zar,zax,zay,zaz,zba,zat,zau,zav,zaw,Nat.reduceBEq,yo,yl,yk,yp,yq,yn,yr,ym,ya,yb,yc,yd,ye,yf,yg,yh,yi,yj,not_true_eq_false,not_false_eq_true,Classical.not_not,decide_true,decide_false,ys,yt,yu,yv,true_and,and_true,ite_true,ite_false,if_true,if_false,yw,yx,yy,yz,Nat.sub_self,Nat.reduceSub,Nat.reduceAdd,Int.reduceToNat,Int.reduceLT,Int.reduceLE,Int.reduceNeg,eq_self,zbp,zbq,zbr,zbs,zbt,zbu,zbv,zbw,zbx,zby,zbz,zca])))
        (rw [wcons]; (((try dsimp only [Fn.init,wpS,wpT,wpTs,wpB,wpI,wpC,wpE,wpEs,biP,zaa,zab,zac,zad,zae,zaf,zag,zah,zai,zaj,zak,zal,zam,zan,zao,zap,zaq,zar,zas,zat,zau,zav,zaw,zax,zay,zaz,zba,zbb,zbc,zbd,zbe,isiV,kindV,kindO,tyN,srcP,ya,yb,yc,yd,List.replicate,ye,yf,yg,yh,yi,yj,Nat.reduceSub,Nat.reduceAdd,Nat.reduceBEq,yk,yl,ym,yn,yw,yx,zbf,zbg,zbh,zbi]); (try simp only [zbj,zaa,zaf,zag,zah,zai,zas,zbb,zbc,zbd,zbe,zab,zac,zad,zae,zbk,zbl,zbm,zbn,zak,zal,zbo,zaj,zam,zan,zao,zap,zaq,zar,zax,zay,zaz,zba,zat,zau,zav,zaw,Nat.reduceBEq,yo,yl,yk,yp,yq,yn,yr,ym,ya,yb,yc,yd,ye,yf,yg,yh,yi,yj,not_true_eq_false,not_false_eq_true,Classical.not_not,decide_true,decide_false,ys,yt,yu,yv,true_and,and_true,ite_true,ite_false,if_true,if_false,yw,yx,yy,yz,Nat.sub_self,Nat.reduceSub,Nat.reduceAdd,Int.reduceToNat,Int.reduceLT,Int.reduceLE,Int.reduceNeg,eq_self,zbp,zbq,zbr,zbs,zbt,zbu,zbv,zbw,zbx,zby,zbz,zca]))))
        rw [if_neg (by omega)]
        (((try dsimp only [Fn.init,wpS,wpT,wpTs,wpB,wpI,wpC,wpE,wpEs,biP,zaa,zab,zac,zad,zae,zaf,zag,zah,zai,zaj,zak,zal,zam,zan,zao,zap,zaq,zar,zas,zat,zau,zav,zaw,zax,zay,zaz,zba,zbb,zbc,zbd,zbe,isiV,kindV,kindO,tyN,srcP,ya,yb,yc,yd,List.replicate,ye,yf,yg,yh,yi,yj,Nat.reduceSub,Nat.reduceAdd,Nat.reduceBEq,yk,yl,ym,yn,yw,yx,zbf,zbg,zbh,zbi]); (try simp only [zbj,zaa,zaf,zag,zah,zai,zas,zbb,zbc,zbd,zbe,zab,zac,zad,zae,zbk,zbl,zbm,zbn,zak,zal,zbo,zaj,zam,zan,zao,zap,zaq,zar,zax,zay,zaz,zba,zat,zau,zav,zaw,Nat.reduceBEq,yo,yl,yk,yp,yq,yn,yr,ym,ya,yb,yc,yd,ye,yf,yg,yh,yi,yj,not_true_eq_false,not_false_eq_true,Classical.not_not,decide_true,decide_false,ys,yt,yu,yv,true_and,and_true,ite_true,ite_false,if_true,if_false,yw,yx,yy,yz,Nat.sub_self,Nat.reduceSub,Nat.reduceAdd,Int.reduceToNat,Int.reduceLT,Int.reduceLE,Int.reduceNeg,eq_self,zbp,zbq,zbr,zbs,zbt,zbu,zbv,zbw,zbx,zby,zbz,zca])))
        exact hK _ _ ⟨(x2.trans x3).upd nt, ⟨e4, by rw [put_self, up]⟩, _, _, rfl⟩
      · rename_i p0
        rw [if_neg p0] at up
        (((try dsimp only [Fn.init,wpS,wpT,wpTs,wpB,wpI,wpC,wpE,wpEs,biP,zaa,zab,zac,zad,zae,zaf,zag,zah,zai,zaj,zak,zal,zam,zan,zao,zap,zaq,zar,zas,zat,zau,zav,zaw,zax,zay,zaz,zba,zbb,zbc,zbd,zbe,isiV,kindV,kindO,tyN,srcP,ya,yb,yc,yd,List.replicate,ye,yf,yg,yh,yi,yj,Nat.reduceSub,Nat.reduceAdd,Nat.reduceBEq,yk,yl,ym,yn,yw,yx,zbf,zbg,zbh,zbi]); (try simp only [zbj,zaa,zaf,zag,zah,zai,zas,zbb,zbc,zbd,zbe,zab,zac,zad,zae,zbk,zbl,zbm,zbn,zak,zal,zbo,zaj,zam,zan,zao,zap,zaq,zar,zax,zay,zaz,zba,zat,zau,zav,zaw,Nat.reduceBEq,yo,yl,yk,yp,yq,yn,yr,ym,ya,yb,yc,yd,ye,yf,yg,yh,yi,yj,not_true_eq_false,not_false_eq_true,Classical.not_not,decide_true,decide_false,ys,yt,yu,yv,true_and,and_true,ite_true,ite_false,if_true,if_false,yw,yx,yy,yz,Nat.sub_self,Nat.reduceSub,Nat.reduceAdd,Int.reduceToNat,Int.reduceLT,Int.reduceLE,Int.reduceNeg,eq_self,zbp,zbq,zbr,zbs,zbt,zbu,zbv,zbw,zbx,zby,zbz,zca])))
        (rw [wcons]; (((try dsimp only [Fn.init,wpS,wpT,wpTs,wpB,wpI,wpC,wpE,wpEs,biP,zaa,zab,zac,zad,zae,zaf,zag,zah,zai,zaj,zak,zal,zam,zan,zao,zap,zaq,zar,zas,zat,zau,zav,zaw,zax,zay,zaz,zba,zbb,zbc,zbd,zbe,isiV,kindV,kindO,tyN,srcP,ya,yb,yc,yd,List.replicate,ye,yf,yg,yh,yi,yj,Nat.reduceSub,Nat.reduceAdd,Nat.reduceBEq,yk,yl,ym,yn,yw,yx,zbf,zbg,zbh,zbi]); (try simp only [zbj,zaa,zaf,zag,zah,zai,zas,zbb,zbc,zbd,zbe,zab,zac,zad,zae,zbk,zbl,zbm,zbn,zak,zal,zbo,zaj,zam,zan,zao,zap,zaq,zar,zax,zay,zaz,zba,zat,zau,zav,zaw,Nat.reduceBEq,yo,yl,yk,yp,yq,yn,yr,ym,ya,yb,yc,yd,ye,yf,yg,yh,yi,yj,not_true_eq_false,not_false_eq_true,Classical.not_not,decide_true,decide_false,ys,yt,yu,yv,true_and,and_true,ite_true,ite_false,if_true,if_false,yw,yx,yy,yz,Nat.sub_self,Nat.reduceSub,Nat.reduceAdd,Int.reduceToNat,Int.reduceLT,Int.reduceLE,Int.reduceNeg,eq_self,zbp,zbq,zbr,zbs,zbt,zbu,zbv,zbw,zbx,zby,zbz,zca]))))
        split
        · rename_i p1
          rw [if_pos p1] at up
          (rw [wcons]; (((try dsimp only [Fn.init,wpS,wpT,wpTs,wpB,wpI,wpC,wpE,wpEs,biP,zaa,zab,zac,zad,zae,zaf,zag,zah,zai,zaj,zak,zal,zam,zan,zao,zap,zaq,zar,zas,zat,zau,zav,zaw,zax,zay,zaz,zba,zbb,zbc,zbd,zbe,isiV,kindV,kindO,tyN,srcP,ya,yb,yc,yd,List.replicate,ye,yf,yg,yh,yi,yj,Nat.reduceSub,Nat.reduceAdd,Nat.reduceBEq,yk,yl,ym,yn,yw,yx,zbf,zbg,zbh,zbi]); (try simp only [zbj,zaa,zaf,zag,zah,zai,zas,zbb,zbc,zbd,zbe,zab,zac,zad,zae,zbk,zbl,zbm,zbn,zak,zal,zbo,zaj,zam,zan,zao,zap,zaq,zar,zax,zay,zaz,zba,zat,zau,zav,zaw,Nat.reduceBEq,yo,yl,yk,yp,yq,yn,yr,ym,ya,yb,yc,yd,ye,yf,yg,yh,yi,yj,not_true_eq_false,not_false_eq_true,Classical.not_not,decide_true,decide_false,ys,yt,yu,yv,true_and,and_true,ite_true,ite_false,if_true,if_false,yw,yx,yy,yz,Nat.sub_self,Nat.reduceSub,Nat.reduceAdd,Int.reduceToNat,Int.reduceLT,Int.reduceLE,Int.reduceNeg,eq_self,zbp,zbq,zbr,zbs,zbt,zbu,zbv,zbw,zbx,zby,zbz,zca]))))
          refine ⟨Dn.some, _, rfl, c_name G Dn (by omega) (by omega) fun h3 x3 => ?_⟩
          refine ⟨Dn.some, _, rfl, c_name G Dn (by omega) (by omega) fun h4 x4 => ?_⟩
          simp only [setP, x4 _ _ (x3 _ _ ht2), iD_length, dput_iD]
          refine ⟨by unfold small; omega, fun e4 => ?_⟩
          (((try dsimp only [Fn.init,wpS,wpT,wpTs,wpB,wpI,wpC,wpE,wpEs,biP,zaa,zab,zac,zad,zae,zaf,zag,zah,zai,zaj,zak,zal,zam,zan,zao,zap,zaq,zar,zas,zat,zau,zav,zaw,zax,zay,zaz,zba,zbb,zbc,zbd,zbe,isiV,kindV,kindO,tyN,srcP,ya,yb,yc,yd,List.replicate,ye,yf,yg,yh,yi,yj,Nat.reduceSub,Nat.reduceAdd,Nat.reduceBEq,yk,yl,ym,yn,yw,yx,zbf,zbg,zbh,zbi]); (try simp only [zbj,zaa,zaf,zag,zah,zai,zas,zbb,zbc,zbd,zbe,zab,zac,zad,zae,zbk,zbl,zbm,zbn,zak,zal,zbo,zaj,zam,zan,zao,zap,zaq,zar,zax,zay,zaz,zba,zat,zau,zav,zaw,Nat.reduceBEq,yo,yl,yk,yp,yq,yn,yr,ym,ya,yb,yc,yd,ye,yf,yg,yh,yi,yj,not_true_eq_false,not_false_eq_true,Classical.not_not,decide_true,decide_false,ys,yt,yu,yv,true_and,and_true,ite_true,ite_false,if_true,if_false,yw,yx,yy,yz,Nat.sub_self,Nat.reduceSub,Nat.reduceAdd,Int.reduceToNat,Int.reduceLT,Int.reduceLE,Int.reduceNeg,eq_self,zbp,zbq,zbr,zbs,zbt,zbu,zbv,zbw,zbx,zby,zbz,zca])))
          exact hK _ _ ⟨((x2.trans x3).trans x4).upd nt, ⟨e4, by rw [put_self, up]⟩, _, _, rfl⟩
        · rename_i p1
          rw [if_neg p1] at up
          (((try dsimp only [Fn.init,wpS,wpT,wpTs,wpB,wpI,wpC,wpE,wpEs,biP,zaa,zab,zac,zad,zae,zaf,zag,zah,zai,zaj,zak,zal,zam,zan,zao,zap,zaq,zar,zas,zat,zau,zav,zaw,zax,zay,zaz,zba,zbb,zbc,zbd,zbe,isiV,kindV,kindO,tyN,srcP,ya,yb,yc,yd,List.replicate,ye,yf,yg,yh,yi,yj,Nat.reduceSub,Nat.reduceAdd,Nat.reduceBEq,yk,yl,ym,yn,yw,yx,zbf,zbg,zbh,zbi]); (try simp only [zbj,zaa,zaf,zag,zah,zai,zas,zbb,zbc,zbd,zbe,zab,zac,zad,zae,zbk,zbl,zbm,zbn,zak,zal,zbo,zaj,zam,zan,zao,zap,zaq,zar,zax,zay,zaz,zba,zat,zau,zav,zaw,Nat.reduceBEq,yo,yl,yk,yp,yq,yn,yr,ym,ya,yb,yc,yd,ye,yf,yg,yh,yi,yj,not_true_eq_false,not_false_eq_true,Classical.not_not,decide_true,decide_false,ys,yt,yu,yv,true_and,and_true,ite_true,ite_false,if_true,if_false,yw,yx,yy,yz,Nat.sub_self,Nat.reduceSub,Nat.reduceAdd,Int.reduceToNat,Int.reduceLT,Int.reduceLE,Int.reduceNeg,eq_self,zbp,zbq,zbr,zbs,zbt,zbu,zbv,zbw,zbx,zby,zbz,zca])))
          exact hK _ _ ⟨x2, ⟨e1, by rw [up]; exact ht2⟩, _, _, rfl⟩
    (rw [wcons]; (((try dsimp only [Fn.init,wpS,wpT,wpTs,wpB,wpI,wpC,wpE,wpEs,biP,zaa,zab,zac,zad,zae,zaf,zag,zah,zai,zaj,zak,zal,zam,zan,zao,zap,zaq,zar,zas,zat,zau,zav,zaw,zax,zay,zaz,zba,zbb,zbc,zbd,zbe,isiV,kindV,kindO,tyN,srcP,ya,yb,yc,yd,List.replicate,ye,yf,yg,yh,yi,yj,Nat.reduceSub,Nat.reduceAdd,Nat.reduceBEq,yk,yl,ym,yn,yw,yx,zbf,zbg,zbh,zbi]); (try simp only [zbj,zaa,zaf,zag,zah,zai,zas,zbb,zbc,zbd,zbe,zab,zac,zad,zae,zbk,zbl,zbm,zbn,zak,zal,zbo,zaj,zam,zan,zao,zap,zaq,zar,zax,zay,zaz,zba,zat,zau,zav,zaw,Nat.reduceBEq,yo,yl,yk,yp,yq,yn,yr,ym,ya,yb,yc,yd,ye,yf,yg,yh,yi,yj,not_true_eq_false,not_false_eq_true,Classical.not_not,decide_true,decide_false,ys,yt,yu,yv,true_and,and_true,ite_true,ite_false,if_true,if_false,yw,yx,yy,yz,Nat.sub_self,Nat.reduceSub,Nat.reduceAdd,Int.reduceToNat,Int.reduceLT,Int.reduceLE,Int.reduceNeg,eq_self,zbp,zbq,zbr,zbs,zbt,zbu,zbv,zbw,zbx,zby,zbz,zca]))))
    split
    · rename_i h8
      (rw [wcons]; (((try dsimp only [Fn.init,wpS,wpT,wpTs,wpB,wpI,wpC,wpE,wpEs,biP,zaa,zab,zac,zad,zae,zaf,zag,zah,zai,zaj,zak,zal,zam,zan,zao,zap,zaq,zar,zas,zat,zau,zav,zaw,zax,zay,zaz,zba,zbb,zbc,zbd,zbe,isiV,kindV,kindO,tyN,srcP,ya,yb,yc,yd,List.replicate,ye,yf,yg,yh,yi,yj,Nat.reduceSub,Nat.reduceAdd,Nat.reduceBEq,yk,yl,ym,yn,yw,yx,zbf,zbg,zbh,zbi]); (try simp only [zbj,zaa,zaf,zag,zah,zai,zas,zbb,zbc,zbd,zbe,zab,zac,zad,zae,zbk,zbl,zbm,zbn,zak,zal,zbo,zaj,zam,zan,zao,zap,zaq,zar,zax,zay,zaz,zba,zat,zau,zav,zaw,Nat.reduceBEq,yo,yl,yk,yp,yq,yn,yr,ym,ya,yb,yc,yd,ye,yf,yg,yh,yi,yj,not_true_eq_false,not_false_eq_true,Classical.not_not,decide_true,decide_false,ys,yt,yu,yv,true_and,and_true,ite_true,ite_false,if_true,if_false,yw,yx,yy,yz,Nat.sub_self,Nat.reduceSub,Nat.reduceAdd,Int.reduceToNat,Int.reduceLT,Int.reduceLE,Int.reduceNeg,eq_self,zbp,zbq,zbr,zbs,zbt,zbu,zbv,zbw,zbx,zby,zbz,zca]))))
      refine ⟨Dc.some, _, rfl, c_cell G Dc (x1 _ _ hL) (by omega) ?_⟩
      (((try dsimp only [Fn.init,wpS,wpT,wpTs,wpB,wpI,wpC,wpE,wpEs,biP,zaa,zab,zac,zad,zae,zaf,zag,zah,zai,zaj,zak,zal,zam,zan,zao,zap,zaq,zar,zas,zat,zau,zav,zaw,zax,zay,zaz,zba,zbb,zbc,zbd,zbe,isiV,kindV,kindO,tyN,srcP,ya,yb,yc,yd,List.replicate,ye,yf,yg,yh,yi,yj,Nat.reduceSub,Nat.reduceAdd,Nat.reduceBEq,yk,yl,ym,yn,yw,yx,zbf,zbg,zbh,zbi]); (try simp only [zbj,zaa,zaf,zag,zah,zai,zas,zbb,zbc,zbd,zbe,zab,zac,zad,zae,zbk,zbl,zbm,zbn,zak,zal,zbo,zaj,zam,zan,zao,zap,zaq,zar,zax,zay,zaz,zba,zat,zau,zav,zaw,Nat.reduceBEq,yo,yl,yk,yp,yq,yn,yr,ym,ya,yb,yc,yd,ye,yf,yg,yh,yi,yj,not_true_eq_false,not_false_eq_true,Classical.not_not,decide_true,decide_false,ys,yt,yu,yv,true_and,and_true,ite_true,ite_false,if_true,if_false,yw,yx,yy,yz,Nat.sub_self,Nat.reduceSub,Nat.reduceAdd,Int.reduceToNat,Int.reduceLT,Int.reduceLE,Int.reduceNeg,eq_self,zbp,zbq,zbr,zbs,zbt,zbu,zbv,zbw,zbx,zby,zbz,zca])))
      refine ⟨.inl ⟨by decide, by decide⟩, by decide, new_go fun l h2 nl x2 hl => ?_⟩
      (((try dsimp only [Fn.init,wpS,wpT,wpTs,wpB,wpI,wpC,wpE,wpEs,biP,zaa,zab,zac,zad,zae,zaf,zag,zah,zai,zaj,zak,zal,zam,zan,zao,zap,zaq,zar,zas,zat,zau,zav,zaw,zax,zay,zaz,zba,zbb,zbc,zbd,zbe,isiV,kindV,kindO,tyN,srcP,ya,yb,yc,yd,List.replicate,ye,yf,yg,yh,yi,yj,Nat.reduceSub,Nat.reduceAdd,Nat.reduceBEq,yk,yl,ym,yn,yw,yx,zbf,zbg,zbh,zbi]); (try simp only [zbj,zaa,zaf,zag,zah,zai,zas,zbb,zbc,zbd,zbe,zab,zac,zad,zae,zbk,zbl,zbm,zbn,zak,zal,zbo,zaj,zam,zan,zao,zap,zaq,zar,zax,zay,zaz,zba,zat,zau,zav,zaw,Nat.reduceBEq,yo,yl,yk,yp,yq,yn,yr,ym,ya,yb,yc,yd,ye,yf,yg,yh,yi,yj,not_true_eq_false,not_false_eq_true,Classical.not_not,decide_true,decide_false,ys,yt,yu,yv,true_and,and_true,ite_true,ite_false,if_true,if_false,yw,yx,yy,yz,Nat.sub_self,Nat.reduceSub,Nat.reduceAdd,Int.reduceToNat,Int.reduceLT,Int.reduceLE,Int.reduceNeg,eq_self,zbp,zbq,zbr,zbs,zbt,zbu,zbv,zbw,zbx,zby,zbz,zca])))
      have kk := key h2 (x1.trans x2) (x2 _ _ ht)
      unfold pickV at kk
      rw [if_pos h8] at kk
      simp only [getV, hl]
      cases w with
      | true => (((try dsimp only [Fn.init,wpS,wpT,wpTs,wpB,wpI,wpC,wpE,wpEs,biP,zaa,zab,zac,zad,zae,zaf,zag,zah,zai,zaj,zak,zal,zam,zan,zao,zap,zaq,zar,zas,zat,zau,zav,zaw,zax,zay,zaz,zba,zbb,zbc,zbd,zbe,isiV,kindV,kindO,tyN,srcP,ya,yb,yc,yd,List.replicate,ye,yf,yg,yh,yi,yj,Nat.reduceSub,Nat.reduceAdd,Nat.reduceBEq,yk,yl,ym,yn,yw,yx,zbf,zbg,zbh,zbi]); (try simp only [zbj,zaa,zaf,zag,zah,zai,zas,zbb,zbc,zbd,zbe,zab,zac,zad,zae,zbk,zbl,zbm,zbn,zak,zal,zbo,zaj,zam,zan,zao,zap,zaq,zar,zax,zay,zaz,zba,zat,zau,zav,zaw,Nat.reduceBEq,yo,yl,yk,yp,yq,yn,yr,ym,ya,yb,yc,yd,ye,yf,yg,yh,yi,yj,not_true_eq_false,not_false_eq_true,Classical.not_not,decide_true,decide_false,ys,yt,yu,yv,true_and,and_true,ite_true,ite_false,if_true,if_false,yw,yx,yy,yz,Nat.sub_self,Nat.reduceSub,Nat.reduceAdd,Int.reduceToNat,Int.reduceLT,Int.reduceLE,Int.reduceNeg,eq_self,zbp,zbq,zbr,zbs,zbt,zbu,zbv,zbw,zbx,zby,zbz,zca]))); exact kk
      | false => (((try dsimp only [Fn.init,wpS,wpT,wpTs,wpB,wpI,wpC,wpE,wpEs,biP,zaa,zab,zac,zad,zae,zaf,zag,zah,zai,zaj,zak,zal,zam,zan,zao,zap,zaq,zar,zas,zat,zau,zav,zaw,zax,zay,zaz,zba,zbb,zbc,zbd,zbe,isiV,kindV,kindO,tyN,srcP,ya,yb,yc,yd,List.replicate,ye,yf,yg,yh,yi,yj,Nat.reduceSub,Nat.reduceAdd,Nat.reduceBEq,yk,yl,ym,yn,yw,yx,zbf,zbg,zbh,zbi]); (try simp only [zbj,zaa,zaf,zag,zah,zai,zas,zbb,zbc,zbd,zbe,zab,zac,zad,zae,zbk,zbl,zbm,zbn,zak,zal,zbo,zaj,zam,zan,zao,zap,zaq,zar,zax,zay,zaz,zba,zat,zau,zav,zaw,Nat.reduceBEq,yo,yl,yk,yp,yq,yn,yr,ym,ya,yb,yc,yd,ye,yf,yg,yh,yi,yj,not_true_eq_false,not_false_eq_true,Classical.not_not,decide_true,decide_false,ys,yt,yu,yv,true_and,and_true,ite_true,ite_false,if_true,if_false,yw,yx,yy,yz,Nat.sub_self,Nat.reduceSub,Nat.reduceAdd,Int.reduceToNat,Int.reduceLT,Int.reduceLE,Int.reduceNeg,eq_self,zbp,zbq,zbr,zbs,zbt,zbu,zbv,zbw,zbx,zby,zbz,zca]))); exact kk
    · rename_i h8
      (((try dsimp only [Fn.init,wpS,wpT,wpTs,wpB,wpI,wpC,wpE,wpEs,biP,zaa,zab,zac,zad,zae,zaf,zag,zah,zai,zaj,zak,zal,zam,zan,zao,zap,zaq,zar,zas,zat,zau,zav,zaw,zax,zay,zaz,zba,zbb,zbc,zbd,zbe,isiV,kindV,kindO,tyN,srcP,ya,yb,yc,yd,List.replicate,ye,yf,yg,yh,yi,yj,Nat.reduceSub,Nat.reduceAdd,Nat.reduceBEq,yk,yl,ym,yn,yw,yx,zbf,zbg,zbh,zbi]); (try simp only [zbj,zaa,zaf,zag,zah,zai,zas,zbb,zbc,zbd,zbe,zab,zac,zad,zae,zbk,zbl,zbm,zbn,zak,zal,zbo,zaj,zam,zan,zao,zap,zaq,zar,zax,zay,zaz,zba,zat,zau,zav,zaw,Nat.reduceBEq,yo,yl,yk,yp,yq,yn,yr,ym,ya,yb,yc,yd,ye,yf,yg,yh,yi,yj,not_true_eq_false,not_false_eq_true,Classical.not_not,decide_true,decide_false,ys,yt,yu,yv,true_and,and_true,ite_true,ite_false,if_true,if_false,yw,yx,yy,yz,Nat.sub_self,Nat.reduceSub,Nat.reduceAdd,Int.reduceToNat,Int.reduceLT,Int.reduceLE,Int.reduceNeg,eq_self,zbp,zbq,zbr,zbs,zbt,zbu,zbv,zbw,zbx,zby,zbz,zca])))
      have kk := key h1 x1 ht
      unfold pickV at kk
      rw [if_neg h8] at kk
      have e3 : (3 + (i : Int)).toNat = 3 + i := by omega
      rw [e3]
      exact kk
  · rintro fr h' ⟨x1, ⟨e1, ht⟩, u, v, rfl⟩
    (((try dsimp only [Fn.init,wpS,wpT,wpTs,wpB,wpI,wpC,wpE,wpEs,biP,zaa,zab,zac,zad,zae,zaf,zag,zah,zai,zaj,zak,zal,zam,zan,zao,zap,zaq,zar,zas,zat,zau,zav,zaw,zax,zay,zaz,zba,zbb,zbc,zbd,zbe,isiV,kindV,kindO,tyN,srcP,ya,yb,yc,yd,List.replicate,ye,yf,yg,yh,yi,yj,Nat.reduceSub,Nat.reduceAdd,Nat.reduceBEq,yk,yl,ym,yn,yw,yx,zbf,zbg,zbh,zbi]); (try simp only [zbj,zaa,zaf,zag,zah,zai,zas,zbb,zbc,zbd,zbe,zab,zac,zad,zae,zbk,zbl,zbm,zbn,zak,zal,zbo,zaj,zam,zan,zao,zap,zaq,zar,zax,zay,zaz,zba,zat,zau,zav,zaw,Nat.reduceBEq,yo,yl,yk,yp,yq,yn,yr,ym,ya,yb,yc,yd,ye,yf,yg,yh,yi,yj,not_true_eq_false,not_false_eq_true,Classical.not_not,decide_true,decide_false,ys,yt,yu,yv,true_and,and_true,ite_true,ite_false,if_true,if_false,yw,yx,yy,yz,Nat.sub_self,Nat.reduceSub,Nat.reduceAdd,Int.reduceToNat,Int.reduceLT,Int.reduceLE,Int.reduceNeg,eq_self,zbp,zbq,zbr,zbs,zbt,zbu,zbv,zbw,zbx,zby,zbz,zca])))
    (rw [wcons]; (((try dsimp only [Fn.init,wpS,wpT,wpTs,wpB,wpI,wpC,wpE,wpEs,biP,zaa,zab,zac,zad,zae,zaf,zag,zah,zai,zaj,zak,zal,zam,zan,zao,zap,zaq,zar,zas,zat,zau,zav,zaw,zax,zay,zaz,zba,zbb,zbc,zbd,zbe,isiV,kindV,kindO,tyN,srcP,ya,yb,yc,yd,List.replicate,ye,yf,yg,yh,yi,yj,Nat.reduceSub,Nat.reduceAdd,Nat.reduceBEq,yk,yl,ym,yn,yw,yx,zbf,zbg,zbh,zbi]); (try simp only [zbj,zaa,zaf,zag,zah,zai,zas,zbb,zbc,zbd,zbe,zab,zac,zad,zae,zbk,zbl,zbm,zbn,zak,zal,zbo,zaj,zam,zan,zao,zap,zaq,zar,zax,zay,zaz,zba,zat,zau,zav,zaw,Nat.reduceBEq,yo,yl,yk,yp,yq,yn,yr,ym,ya,yb,yc,yd,ye,yf,yg,yh,yi,yj,not_true_eq_false,not_false_eq_true,Classical.not_not,decide_true,decide_false,ys,yt,yu,yv,true_and,and_true,ite_true,ite_false,if_true,if_false,yw,yx,yy,yz,Nat.sub_self,Nat.reduceSub,Nat.reduceAdd,Int.reduceToNat,Int.reduceLT,Int.reduceLE,Int.reduceNeg,eq_self,zbp,zbq,zbr,zbs,zbt,zbu,zbv,zbw,zbx,zby,zbz,zca]))))
    exact q t e1 h' nt x1 ht

theorem c_pick (G : X.Good) (Dn : X.Def "_law_name" fName) (D : X.Def "_law_pick" f_law_pick) {k : Nat} {h : AH} {p n c : Int} {Q R} (hn : 0 ≤ n ∧ n ≤ 100) (hp : 0 ≤ p ∧ p ≤ 200) (q : ∀ x h', Ext h h' → Q (.int x) h') : X.Call (k + 3) "_law_pick" [.int p, .int n, .int c] h Q R := by
  refine D.call G rfl ?_
  unfold f_law_pick
  (rw [wcons]; (((try dsimp only [Fn.init,wpS,wpT,wpTs,wpB,wpI,wpC,wpE,wpEs,biP,zaa,zab,zac,zad,zae,zaf,zag,zah,zai,zaj,zak,zal,zam,zan,zao,zap,zaq,zar,zas,zat,zau,zav,zaw,zax,zay,zaz,zba,zbb,zbc,zbd,zbe,isiV,kindV,kindO,tyN,srcP,ya,yb,yc,yd,List.replicate,ye,yf,yg,yh,yi,yj,Nat.reduceSub,Nat.reduceAdd,Nat.reduceBEq,yk,yl,ym,yn,yw,yx,zbf,zbg,zbh,zbi]); (try simp only [zbj,zaa,zaf,zag,zah,zai,zas,zbb,zbc,zbd,zbe,zab,zac,zad,zae,zbk,zbl,zbm,zbn,zak,zal,zbo,zaj,zam,zan,zao,zap,zaq,zar,zax,zay,zaz,zba,zat,zau,zav,zaw,Nat.reduceBEq,yo,yl,yk,yp,yq,yn,yr,ym,ya,yb,yc,yd,ye,yf,yg,yh,yi,yj,not_true_eq_false,not_false_eq_true,Classical.not_not,decide_true,decide_false,ys,yt,yu,yv,true_and,and_true,ite_true,ite_false,if_true,if_false,yw,yx,yy,yz,Nat.sub_self,Nat.reduceSub,Nat.reduceAdd,Int.reduceToNat,Int.reduceLT,Int.reduceLE,Int.reduceNeg,eq_self,zbp,zbq,zbr,zbs,zbt,zbu,zbv,zbw,zbx,zby,zbz,zca]))))
  split
  · (rw [wcons]; (((try dsimp only [Fn.init,wpS,wpT,wpTs,wpB,wpI,wpC,wpE,wpEs,biP,zaa,zab,zac,zad,zae,zaf,zag,zah,zai,zaj,zak,zal,zam,zan,zao,zap,zaq,zar,zas,zat,zau,zav,zaw,zax,zay,zaz,zba,zbb,zbc,zbd,zbe,isiV,kindV,kindO,tyN,srcP,ya,yb,yc,yd,List.replicate,ye,yf,yg,yh,yi,yj,Nat.reduceSub,Nat.reduceAdd,Nat.reduceBEq,yk,yl,ym,yn,yw,yx,zbf,zbg,zbh,zbi]); (try simp only [zbj,zaa,zaf,zag,zah,zai,zas,zbb,zbc,zbd,zbe,zab,zac,zad,zae,zbk,zbl,zbm,zbn,zak,zal,zbo,zaj,zam,zan,zao,zap,zaq,zar,zax,zay,zaz,zba,zat,zau,zav,zaw,Nat.reduceBEq,yo,yl,yk,yp,yq,yn,yr,ym,ya,yb,yc,yd,ye,yf,yg,yh,yi,yj,not_true_eq_false,not_false_eq_true,Classical.not_not,decide_true,decide_false,ys,yt,yu,yv,true_and,and_true,ite_true,ite_false,if_true,if_false,yw,yx,yy,yz,Nat.sub_self,Nat.reduceSub,Nat.reduceAdd,Int.reduceToNat,Int.reduceLT,Int.reduceLE,Int.reduceNeg,eq_self,zbp,zbq,zbr,zbs,zbt,zbu,zbv,zbw,zbx,zby,zbz,zca])))); exact q _ _ .refl
  (rw [wcons]; (((try dsimp only [Fn.init,wpS,wpT,wpTs,wpB,wpI,wpC,wpE,wpEs,biP,zaa,zab,zac,zad,zae,zaf,zag,zah,zai,zaj,zak,zal,zam,zan,zao,zap,zaq,zar,zas,zat,zau,zav,zaw,zax,zay,zaz,zba,zbb,zbc,zbd,zbe,isiV,kindV,kindO,tyN,srcP,ya,yb,yc,yd,List.replicate,ye,yf,yg,yh,yi,yj,Nat.reduceSub,Nat.reduceAdd,Nat.reduceBEq,yk,yl,ym,yn,yw,yx,zbf,zbg,zbh,zbi]); (try simp only [zbj,zaa,zaf,zag,zah,zai,zas,zbb,zbc,zbd,zbe,zab,zac,zad,zae,zbk,zbl,zbm,zbn,zak,zal,zbo,zaj,zam,zan,zao,zap,zaq,zar,zax,zay,zaz,zba,zat,zau,zav,zaw,Nat.reduceBEq,yo,yl,yk,yp,yq,yn,yr,ym,ya,yb,yc,yd,ye,yf,yg,yh,yi,yj,not_true_eq_false,not_false_eq_true,Classical.not_not,decide_true,decide_false,ys,yt,yu,yv,true_and,and_true,ite_true,ite_false,if_true,if_false,yw,yx,yy,yz,Nat.sub_self,Nat.reduceSub,Nat.reduceAdd,Int.reduceToNat,Int.reduceLT,Int.reduceLE,Int.reduceNeg,eq_self,zbp,zbq,zbr,zbs,zbt,zbu,zbv,zbw,zbx,zby,zbz,zca]))))
  split
  · (rw [wcons]; (((try dsimp only [Fn.init,wpS,wpT,wpTs,wpB,wpI,wpC,wpE,wpEs,biP,zaa,zab,zac,zad,zae,zaf,zag,zah,zai,zaj,zak,zal,zam,zan,zao,zap,zaq,zar,zas,zat,zau,zav,zaw,zax,zay,zaz,zba,zbb,zbc,zbd,zbe,isiV,kindV,kindO,tyN,srcP,ya,yb,yc,yd,List.replicate,ye,yf,yg,yh,yi,yj,Nat.reduceSub,Nat.reduceAdd,Nat.reduceBEq,yk,yl,ym,yn,yw,yx,zbf,zbg,zbh,zbi]); (try simp only [zbj,zaa,zaf,zag,zah,zai,zas,zbb,zbc,zbd,zbe,zab,zac,zad,zae,zbk,zbl,zbm,zbn,zak,zal,zbo,zaj,zam,zan,zao,zap,zaq,zar,zax,zay,zaz,zba,zat,zau,zav,zaw,Nat.reduceBEq,yo,yl,yk,yp,yq,yn,yr,ym,ya,yb,yc,yd,ye,yf,yg,yh,yi,yj,not_true_eq_false,not_false_eq_true,Classical.not_not,decide_true,decide_false,ys,yt,yu,yv,true_and,and_true,ite_true,ite_false,if_true,if_false,yw,yx,yy,yz,Nat.sub_self,Nat.reduceSub,Nat.reduceAdd,Int.reduceToNat,Int.reduceLT,Int.reduceLE,Int.reduceNeg,eq_self,zbp,zbq,zbr,zbs,zbt,zbu,zbv,zbw,zbx,zby,zbz,zca]))))
    exact ⟨Dn.some, _, rfl, c_name G Dn (by omega) (by omega) fun h' x => q _ _ x⟩
  (rw [wcons]; (((try dsimp only [Fn.init,wpS,wpT,wpTs,wpB,wpI,wpC,wpE,wpEs,biP,zaa,zab,zac,zad,zae,zaf,zag,zah,zai,zaj,zak,zal,zam,zan,zao,zap,zaq,zar,zas,zat,zau,zav,zaw,zax,zay,zaz,zba,zbb,zbc,zbd,zbe,isiV,kindV,kindO,tyN,srcP,ya,yb,yc,yd,List.replicate,ye,yf,yg,yh,yi,yj,Nat.reduceSub,Nat.reduceAdd,Nat.reduceBEq,yk,yl,ym,yn,yw,yx,zbf,zbg,zbh,zbi]); (try simp only [zbj,zaa,zaf,zag,zah,zai,zas,zbb,zbc,zbd,zbe,zab,zac,zad,zae,zbk,zbl,zbm,zbn,zak,zal,zbo,zaj,zam,zan,zao,zap,zaq,zar,zax,zay,zaz,zba,zat,zau,zav,zaw,Nat.reduceBEq,yo,yl,yk,yp,yq,yn,yr,ym,ya,yb,yc,yd,ye,yf,yg,yh,yi,yj,not_true_eq_false,not_false_eq_true,Classical.not_not,decide_true,decide_false,ys,yt,yu,yv,true_and,and_true,ite_true,ite_false,if_true,if_false,yw,yx,yy,yz,Nat.sub_self,Nat.reduceSub,Nat.reduceAdd,Int.reduceToNat,Int.reduceLT,Int.reduceLE,Int.reduceNeg,eq_self,zbp,zbq,zbr,zbs,zbt,zbu,zbv,zbw,zbx,zby,zbz,zca]))))
  exact ⟨Dn.some, _, rfl, c_name G Dn (by omega) (by omega) fun h' x => q _ _ x⟩
end
end Mine.L04

namespace Mine.L04
open PySem PySem.W PyProof.Rows


theorem intsV_map : ∀ l : List Int, intsV (l.map V.int) = some l
  | [] => rfl
  | x :: l => by rw [List.map_cons, intsV, intsV_map l]; rfl
theorem sorted_go {h : AH} {a : Addr} {l : List Int} {Q : V → AH → Prop} (ha : h a = some (.list (l.map .int))) (hl : l.length < 128) (q : ∀ b h', h b = none → Ext h h' → h' b = some (.list ((sortI l).map .int)) → Q (.ref b) h') : biP .sorted [.ref a] h Q := by
  unfold biP; simp only [ha, intsV_map]; exact ⟨hl, new_go q⟩
theorem sortedD_go {h : AH} {a : Addr} {m : IM} {e : Nat} {Q : V → AH → Prop} (ha : h a = some (.idict (iD m) e)) (hl : m.length < 128) (q : ∀ b h', h b = none → Ext h h' → h' b = some (.list ((sortI (m.map (·.1))).map .int)) → Q (.ref b) h') : biP .sorted [.ref a] h Q := by
  unfold biP; simp only [ha, iD_length]
  refine ⟨hl, new_go fun b h' n x e => q b h' n x ?_⟩
  rw [e]
  unfold iD
  rw [List.map_map]; rfl

/-- the keys whose value is f -/
noncomputable def kids (m : IM) (f : Int) : List Int := (m.map (·.1)).filter fun k => decide (mget m k = some f)
theorem kids_length {m : IM} {f : Int} : (kids m f).length ≤ m.length := by
  unfold kids
  exact Nat.le_trans (List.length_filter_le ..) (by simp)
noncomputable def pK (m : IM) (f : Int) : V → Bool
  | .int k => decide (mget m k = some f)
  | _ => false
theorem iD_keys (m : IM) : ((iD m).map fun kv => V.int kv.1) = (m.map (·.1)).map .int := by
  unfold iD
  rw [List.map_map, List.map_map]; rfl
theorem kids_map (m : IM) (f : Int) : (((iD m).map fun kv => V.int kv.1)).filter (pK m f) = (kids m f).map .int := by
  rw [iD_keys, List.filter_map]; rfl
theorem mem_keys {m : IM} {k : Int} (h : k ∈ m.map (·.1)) : ∃ v, mget m k = some v := by
  obtain ⟨p, hp, rfl⟩ := List.mem_map.mp h
  exact mem_mget (v := p.2) hp

theorem compF {C : V → AH → (Bool → AH → Prop) → Prop} {F : V → AH → (V → AH → Prop) → Prop} {g : Guard} {Q : List V → AH → Prop} {h : AH} (p : V → Bool) (hg : g.ok h) : ∀ {vs acc : List V}, (∀ v ∈ vs, ∀ K, K (p v) h → C v h K) → (∀ v ∈ vs, ∀ K, K v h → F v h K) → Q (acc ++ vs.filter p) h → loopC C F g vs acc h Q
  | [], acc, hC, hF, q => ⟨hg, by rwa [List.filter_nil, List.append_nil] at q⟩
  | v :: vs, acc, hC, hF, q => ⟨hg, hC v (.head _) _ (by
      have ih : ∀ acc, Q (acc ++ vs.filter p) h → loopC C F g vs acc h Q := fun acc q => compF p hg (fun u hu => hC u (.tail _ hu)) (fun u hu => hF u (.tail _ hu)) q
      cases e : p v with
      | true => rw [if_pos rfl]; exact hF v (.head _) _ (ih _ (by rw [List.filter_cons_of_pos e] at q; rwa [List.append_assoc]))
      | false => rw [if_neg Bool.false_ne_true]; exact ih _ (by rwa [List.filter_cons_of_neg (by rw [e]; exact Bool.false_ne_true)] at q))⟩
section
variable {X : Ctx}
theorem comp_kids {k : Nat} {R : RX} {fr : Fm} {Q : V → AH → Prop} {h : AH} {a j : Nat} {t : Addr} {e : Nat} {m : IM} {f : Int} {E : Ex} (hi : fr[a]? = some (some (.ref t))) (haj : j ≠ a) (hj : j < fr.length) (ht : h t = some (.idict (iD m) e))
    (hE : ∀ v h' (K : V → AH → Prop), K (.int f) h' → wpE X ⟨k, true⟩ (fun _ _ => False) E (fr.set j (some v)) K h')
    (q : ∀ b h1, h b = none → Ext h h1 → h1 b = some (.list ((kids m f).map .int)) → Q (.ref b) h1) :
    wpE X ⟨k, true⟩ R (.comp j (.var a) [(.cmp .Eq (.sub (.var a) (.var j)) E)] (.var j)) fr Q h := by
  dsimp only [wpE, wpI]
  rw [hi]
  dsimp only [srcP]
  rw [ht]
  dsimp only
  have hv : ∀ v : V, (fr.set j (some v))[j]? = some (some v) := fun v => by rw [List.getElem?_set_self hj]
  have ha : ∀ v : V, (fr.set j (some v))[a]? = some (some (.ref t)) := fun v => by rw [List.getElem?_set_ne haj, hi]
  refine ⟨rfl, compF (pK m f) (show atG t (.idict (iD m) e) |>.ok h from ht) (fun v hv' K hK => ?_) (fun v hv' K hK => ?_) (new_go fun b h1 n1 y1 hb => ?_)⟩
  · rw [iD_keys] at hv'
    obtain ⟨z, hz, rfl⟩ := List.mem_map.mp hv'
    obtain ⟨u, hu⟩ := mem_keys hz
    dsimp only [wpC, wpT, wpE]
    refine ⟨rfl, ?_⟩
    rw [ha, hv]
    dsimp only
    rw [gv_idict ht, dget_iD, hu]
    show wpE X _ _ E _ _ _
    refine hE _ _ _ ?_
    rw [zbk]
    unfold pK at hK
    simp only [hu, Option.some.injEq] at hK
    exact hK
  · rw [hv]
    exact hK
  · rw [List.nil_append, kids_map] at hb
    exact q b h1 n1 y1 hb
theorem c_children (G : X.Good) (D : X.Def "children" f_children) {k : Nat} {h : AH} {t : Addr} {e : Nat} {m : IM} {f : Int} {Q R} (ht : h t = some (.idict (iD m) e)) (hm : m.length < 128)
    (q : ∀ b h', h b = none → Ext h h' → h' b = some (.list ((sortI (kids m f)).map .int)) → Q (.ref b) h') : X.Call (k + 1) "children" [.ref t, .int f] h Q R := by
  refine D.call G rfl ?_
  unfold f_children
  rw [wcons]
  refine show wpE X ⟨k, true⟩ _ (.comp 2 (.var 0) [(.cmp .Eq (.sub (.var 0) (.var 2)) (.var 1))] (.var 2)) [some (.ref t), some (.int f), none] (fun x h1 => true = true ∧ biP .sorted [x] h1 _) h from ?_
  refine comp_kids (f := f) rfl (by decide) (by simp) ht (fun v h' K hK => hK) fun b h1 n1 y1 hb => ?_
  refine ⟨rfl, sorted_go hb (Nat.lt_of_le_of_lt kids_length hm) fun b2 h2 n2 y2 hb2 => ?_⟩
  exact q b2 h2 (y1.no n2) (y1.trans y2) hb2

/-! rows -/
noncomputable def rowV (r : Nat × Int) : V := .tup [.int r.1, .int r.2]
/-- the children told so far -/
structure Und (h0 h : AH) (m : IM) (done : List Int) (u : Addr) (us : List (Int × Addr)) : Prop where
  at_ : ∃ e, h u = some (.idict (us.map fun p => (p.1, V.ref p.2)) e)
  lists : ∀ p ∈ us, h p.2 = some (.list ((chL m done p.1).map .int)) ∧ p.2 ≠ u ∧ h0 p.2 = none
  apart : us.Pairwise fun x y => x.1 ≠ y.1 ∧ x.2 ≠ y.2
  rest : ∀ f, (∀ p ∈ us, p.1 ≠ f) → chL m done f = []
  few : us.length ≤ done.length
theorem dget_us {us : List (Int × Addr)} {f : Int} : dget (us.map fun p => (p.1, V.ref p.2)) f = (us.find? fun p => p.1 = f).map fun p => V.ref p.2 := by
  unfold dget
  induction us with
  | nil => rfl
  | cons p us ih =>
    rw [List.map_cons, List.find?_cons, List.find?_cons]
    by_cases q : p.1 = f
    · simp [q]
    · simp only [q, decide_false]; exact ih
theorem chL_snoc {m : IM} {done : List Int} {k f : Int} : chL m (done ++ [k]) f = chL m done f ++ (if mget m k = some f then [k] else []) := by
  unfold chL
  rw [List.filter_append]
  congr 1
  by_cases q : mget m k = some f
  · simp [q]
  · simp [q]
theorem Und.mono {h0 h h' : AH} {m : IM} {done : List Int} {u : Addr} {us : List (Int × Addr)} (U : Und h0 h m done u us) (x : Ext h h') : Und h0 h' m done u us :=
  ⟨let ⟨e, a⟩ := U.at_; ⟨e, x _ _ a⟩, fun p hp => let ⟨a, b⟩ := U.lists p hp; ⟨x _ _ a, b⟩, U.apart, U.rest, U.few⟩
theorem Und.upd {h0 h h' : AH} {m : IM} {done : List Int} {u w : Addr} {us : List (Int × Addr)} (U : Und h0 h m done u us) (x : Upd w h h') (nu : u ≠ w) (nw : ∀ p ∈ us, p.2 ≠ w) : Und h0 h' m done u us :=
  ⟨let ⟨e, a⟩ := U.at_; ⟨e, x.at a nu⟩, fun p hp => let ⟨a, b⟩ := U.lists p hp; ⟨x.at a (nw p hp), b⟩, U.apart, U.rest, U.few⟩
theorem Und.nil {h0 h : AH} {m : IM} {u : Addr} {e : Nat} (a : h u = some (.idict [] e)) : Und h0 h m [] u [] :=
  ⟨⟨e, a⟩, by simp, .nil, fun _ _ => rfl, Nat.le_refl _⟩

/-- a folder told under its own -/
theorem und_step {h0 h : AH} {m : IM} {done : List Int} {u : Addr} {us : List (Int × Addr)} {k f : Int} {Q : V → AH → Prop} (U : Und h0 h m done u us) (x0 : Ext h0 h) (nu : h0 u = none) (hk : mget m k = some f) (hl : done.length ≤ 1000) {c : Addr} {h1 : AH} (nc : h c = none) (y1 : Ext h h1) (hc : h1 c = some (.list []))
    (q : ∀ us' h2, Und h0 h2 m (done ++ [k]) u us' → Ext h0 h2 → (∀ b o, h b = some o → b ≠ u → (∀ p ∈ us, b ≠ p.2) → h2 b = some o) → (∀ p ∈ us', p ∈ us ∨ h p.2 = none) → Q .none h2) :
    bmP .setdefault (.ref u) [.int f, .ref c] h1 fun v h2 => bmKind .append v h2 ∧ bmP .append v [.int k] h2 Q := by
  obtain ⟨e, hu⟩ := U.at_
  have hu1 := y1 _ _ hu
  have U1 := U.mono y1
  have hcu : c ≠ u := (addr_ne hu nc).symm
  unfold bmP
  simp only [hu1, dget_us]
  cases hf : us.find? fun p => p.1 = f with
  | some p =>
    have hp := List.mem_of_find?_eq_some hf
    have pf : p.1 = f := by have := List.find?_some hf; simpa using this
    obtain ⟨ha, na, n0⟩ := U1.lists p hp
    dsimp only [Option.map_some]
    refine ⟨bk_append ha, append_go ha (by
      have : (chL m done p.1).length ≤ done.length := List.length_filter_le ..
      rw [List.length_map]; unfold small; omega) fun h2 up e2 => ?_⟩
    have hne : ∀ p' ∈ us, p' ≠ p → p'.1 ≠ p.1 ∧ p'.2 ≠ p.2 := by
      intro p' hp' ne
      rcases List.pairwise_iff_getElem.mp U.apart with pw
      obtain ⟨i, hi, rfl⟩ := List.getElem_of_mem hp
      obtain ⟨j, hj, rfl⟩ := List.getElem_of_mem hp'
      rcases Nat.lt_trichotomy i j with q | q | q
      · have := pw i j hi hj q; exact ⟨Ne.symm this.1, Ne.symm this.2⟩
      · subst q; exact absurd rfl ne
      · exact pw j i hj hi q
    refine q us h2 ⟨⟨e, up.at hu1 (Ne.symm na)⟩, fun p' hp' => ?_, U.apart, fun f' hf' => ?_, by have := U.few; simp; omega⟩ (fun b o eb => up.at (y1 _ _ (x0 _ _ eb)) (addr_ne eb n0)) (fun b o eb _ nb => up.at (y1 _ _ eb) (nb p hp)) fun _ hp => .inl hp
    · by_cases ee : p' = p
      · subst ee
        refine ⟨?_, na, n0⟩
        rw [e2, chL_snoc, if_pos (by rw [hk, pf]), List.map_append]; rfl
      · obtain ⟨g1, g2, g3⟩ := U1.lists p' hp'
        have := hne p' hp' ee
        refine ⟨?_, g2, g3⟩
        rw [up.at g1 this.2, chL_snoc, if_neg (by rw [hk, ← pf]; intro q; exact this.1 (Option.some.inj q).symm), List.append_nil]
    · rw [chL_snoc, U.rest f' hf', if_neg (by rw [hk]; intro q; exact hf' p hp (pf.trans (Option.some.inj q)))]; rfl
  | none =>
    rw [List.find?_eq_none] at hf
    have hf' : ∀ p ∈ us, p.1 ≠ f := fun p hp e => hf p hp (decide_eq_true e)
    have nch := U.rest f hf'
    dsimp only [Option.map_none]
    refine ⟨by rw [List.length_map]; have := U.few; unfold small; omega, fun e' => ?_⟩
    have hc2 : (h1.put u (.idict ((us.map fun p => (p.1, V.ref p.2)) ++ [(f, .ref c)]) e')) c = some (.list []) := by rw [put_ne _ hcu]; exact hc
    refine ⟨bk_append hc2, append_go hc2 (Nat.zero_le _) fun h2 up e2 => ?_⟩
    have h0c : h0 c = none := x0.no nc
    have old : ∀ b o, h1 b = some o → b ≠ u → b ≠ c → h2 b = some o := fun b o eb n1 n2 => up.at (by rw [put_ne _ n1]; exact eb) n2
    refine q (us ++ [(f, c)]) h2 ⟨⟨e', ?_⟩, fun p hp => ?_, ?_, fun f2 hf2 => ?_, by have := U.few; simp; omega⟩ (fun b o eb => old b o (y1 _ _ (x0 _ _ eb)) (addr_ne eb nu) (addr_ne eb h0c)) (fun b o eb n1 _ => old b o (y1 _ _ eb) n1 (addr_ne eb nc)) fun p hp => (List.mem_append.mp hp).imp id fun hp => by
      have : p = (f, c) := by simpa using hp
      rw [this]; exact nc
    · rw [up.at (put_self ..) (Ne.symm hcu), List.map_append]; rfl
    · rcases List.mem_append.mp hp with hp | hp
      · obtain ⟨g1, g2, g3⟩ := U.lists p hp
        refine ⟨?_, g2, g3⟩
        rw [old _ _ (y1 _ _ g1) g2 (addr_ne g1 nc), chL_snoc, if_neg (by rw [hk]; intro q; exact hf' p hp (Option.some.inj q).symm), List.append_nil]
      · have : p = (f, c) := by simpa using hp
        subst this
        refine ⟨?_, hcu, h0c⟩
        rw [e2, chL_snoc, nch, if_pos hk]; rfl
    · rw [List.pairwise_append]
      refine ⟨U.apart, by simp, fun p hp p' hp' => ?_⟩
      have : p' = (f, c) := by simpa using hp'
      subst this
      exact ⟨hf' p hp, addr_ne (U.lists p hp).1 nc⟩
    · rw [chL_snoc, U.rest f2 (fun p hp => hf2 p (List.mem_append_left _ hp)), if_neg (by rw [hk]; intro q; exact hf2 (f, c) (by simp) (Option.some.inj q))]; rfl
/-- the children of a folder, read -/
theorem und_get {h0 h : AH} {m : IM} {ks : List Int} {u : Addr} {us : List (Int × Addr)} {f : Int} {Q : V → AH → Prop} (U : Und h0 h m ks u us) {c : Addr} {h1 : AH} (nc : h c = none) (y1 : Ext h h1) (hc : h1 c = some (.list []))
    (q : ∀ a, h1 a = some (.list ((chL m ks f).map .int)) → (a = c ∨ ∃ p ∈ us, a = p.2) → Q (.ref a) h1) : bmP .get (.ref u) [.int f, .ref c] h1 Q := by
  obtain ⟨e, hu⟩ := U.at_
  unfold bmP
  simp only [y1 _ _ hu, dget_us]
  cases hf : us.find? fun p => p.1 = f with
  | some p =>
    have hp := List.mem_of_find?_eq_some hf
    have pf : p.1 = f := by have := List.find?_some hf; simpa using this
    dsimp only [Option.map_some, Option.getD_some]
    refine q _ ?_ (.inr ⟨p, hp, rfl⟩)
    rw [← pf]; exact y1 _ _ (U.lists p hp).1
  | none =>
    rw [List.find?_eq_none] at hf
    have nch := U.rest f fun p hp e => hf p hp (decide_eq_true e)
    dsimp only [Option.map_none, Option.getD_none]
    refine q _ ?_ (.inl rfl)
    rw [nch]; exact hc
end
end Mine.L04

namespace Mine.L04
open PySem PySem.W PyProof.Rows


noncomputable def prX (ch : Int → List Int) (x : Nat × Nat × Int) : List (Nat × Int) := pre ch x.1 x.2.1 x.2.2
noncomputable def stV (x : Nat × Nat × Int) : V := rowV (x.2.1, x.2.2)
theorem prX_pos {ch : Int → List Int} {x : Nat × Nat × Int} : 1 ≤ (prX ch x).length := by
  obtain ⟨n, d, f⟩ := x
  cases n <;> simp [prX, pre]
theorem stack_le {ch : Int → List Int} : ∀ st : List (Nat × Nat × Int), st.length ≤ (st.flatMap (prX ch)).length
  | [] => Nat.le_refl _
  | x :: st => by
    have := stack_le (ch := ch) st
    have := prX_pos (ch := ch) (x := x)
    simp only [List.flatMap_cons, List.length_append, List.length_cons]; omega
inductive RowI (h : AH) (m : IM) (ks : List Int) (t u s0 : Addr) (vs : List V) (fr : Fm) (h' : AH) : Prop
  | mk (done rest : List Int) (us : List (Int × Addr)) (ek : ks = done ++ rest) (ev : vs = rest.map .int) (xx : Ext h h') (U : Und h h' m done u us) (hs : h' s0 = some (.list (ks.map .int))) (ns : ∀ p ∈ us, p.2 ≠ s0) (o2 : Option V)
    (e : fr = [some (.ref t), some (.ref u), o2, none, none, none, none, none])
inductive PushI (l : List Int) (st : List V) (d : Nat) (f : Int) (t u F W : Addr) (h8 : AH) (vs : List V) (fr : Fm) (h' : AH) : Prop
  | mk (pr rest : List Int) (er : l.reverse = pr ++ rest) (ev : vs = rest.map .int) (hW : h' W = some (.list (st ++ pr.map fun g => rowV (d + 1, g)))) (up : Upd W h8 h') (o2 : Option V)
    (e : fr = [some (.ref t), some (.ref u), o2, some (.ref F), some (.ref W), some (.int d), some (.int f), none])
section
variable {X : Ctx}
theorem c_rows (G : X.Good) (D : X.Def "rows" f_rows) {k : Nat} {h : AH} {t : Addr} {e : Nat} {m : IM} {n : Nat} {Q R} (ht : h t = some (.idict (iD m) e)) (hm : m.length < 128) (ks : List Int) (hks : ks = sortI (m.map (·.1))) (hht : ∀ g ∈ chL m ks 0, Ht (chL m ks) n g) (hz : (rowsAll (chL m ks) n).length ≤ 1000)
    (q : ∀ b h', h b = none → Ext h h' → h' b = some (.list ((rowsAll (chL m ks) n).map rowV)) → Q (.ref b) h') : X.Call (k + 1) "rows" [.ref t] h Q R := by
  have kl : ks.length ≤ 127 := by rw [hks, (sortI_perm _).length_eq, List.length_map]; omega
  refine D.call G rfl ?_
  unfold f_rows
  (rw [wcons]; (((try dsimp only [Fn.init,wpS,wpT,wpTs,wpB,wpI,wpC,wpE,wpEs,biP,zaa,zab,zac,zad,zae,zaf,zag,zah,zai,zaj,zak,zal,zam,zan,zao,zap,zaq,zar,zas,zat,zau,zav,zaw,zax,zay,zaz,zba,zbb,zbc,zbd,zbe,isiV,kindV,kindO,tyN,srcP,ya,yb,yc,yd,List.replicate,ye,yf,yg,yh,yi,yj,Nat.reduceSub,Nat.reduceAdd,Nat.reduceBEq,yk,yl,ym,yn,yw,yx,zbf,zbg,zbh,zbi]); (try simp only [zbj,zaa,zaf,zag,zah,zai,zas,zbb,zbc,zbd,zbe,zab,zac,zad,zae,zbk,zbl,zbm,zbn,zak,zal,zbo,zaj,zam,zan,zao,zap,zaq,zar,zax,zay,zaz,zba,zat,zau,zav,zaw,Nat.reduceBEq,yo,yl,yk,yp,yq,yn,yr,ym,ya,yb,yc,yd,ye,yf,yg,yh,yi,yj,not_true_eq_false,not_false_eq_true,Classical.not_not,decide_true,decide_false,ys,yt,yu,yv,true_and,and_true,ite_true,ite_false,if_true,if_false,yw,yx,yy,yz,Nat.sub_self,Nat.reduceSub,Nat.reduceAdd,Int.reduceToNat,Int.reduceLT,Int.reduceLE,Int.reduceNeg,eq_self,zbp,zbq,zbr,zbs,zbt,zbu,zbv,zbw,zbx,zby,zbz,zca]))))
  refine fun e1 => new_go fun u h1 nu x1 hu => ?_
  (rw [wcons]; (((try dsimp only [Fn.init,wpS,wpT,wpTs,wpB,wpI,wpC,wpE,wpEs,biP,zaa,zab,zac,zad,zae,zaf,zag,zah,zai,zaj,zak,zal,zam,zan,zao,zap,zaq,zar,zas,zat,zau,zav,zaw,zax,zay,zaz,zba,zbb,zbc,zbd,zbe,isiV,kindV,kindO,tyN,srcP,ya,yb,yc,yd,List.replicate,ye,yf,yg,yh,yi,yj,Nat.reduceSub,Nat.reduceAdd,Nat.reduceBEq,yk,yl,ym,yn,yw,yx,zbf,zbg,zbh,zbi]); (try simp only [zbj,zaa,zaf,zag,zah,zai,zas,zbb,zbc,zbd,zbe,zab,zac,zad,zae,zbk,zbl,zbm,zbn,zak,zal,zbo,zaj,zam,zan,zao,zap,zaq,zar,zax,zay,zaz,zba,zat,zau,zav,zaw,Nat.reduceBEq,yo,yl,yk,yp,yq,yn,yr,ym,ya,yb,yc,yd,ye,yf,yg,yh,yi,yj,not_true_eq_false,not_false_eq_true,Classical.not_not,decide_true,decide_false,ys,yt,yu,yv,true_and,and_true,ite_true,ite_false,if_true,if_false,yw,yx,yy,yz,Nat.sub_self,Nat.reduceSub,Nat.reduceAdd,Int.reduceToNat,Int.reduceLT,Int.reduceLE,Int.reduceNeg,eq_self,zbp,zbq,zbr,zbs,zbt,zbu,zbv,zbw,zbx,zby,zbz,zca]))))
  refine sortedD_go (x1 _ _ ht) hm fun s0 h2 ns x2 hs => ?_
  rw [← hks] at hs
  simp only [hs]
  have hus0 : u ≠ s0 := addr_ne hu ns
  refine loop_inv (I := fun vs fr h' => RowI h m ks t u s0 vs fr h') ?_ ?_ ?_ ⟨[], ks, [], rfl, rfl, x1.trans x2, .nil (x2 _ _ hu), hs, by simp, none, rfl⟩
  · rintro vs fr h' ⟨done, rest, us, _, _, _, _, a, _⟩; exact a
  · rintro v vs fr h' K ⟨done, rest, us, ek, ev, xx, U, hs', ns', o2, rfl⟩ hK
    cases rest with
    | nil => cases ev
    | cons z rest =>
      obtain ⟨rfl, rfl⟩ := List.cons.inj ev
      have hzk : z ∈ m.map (·.1) := by
        have : z ∈ ks := by rw [ek]; simp
        rw [hks] at this
        exact (sortI_perm _).mem_iff.mp this
      obtain ⟨f, hf⟩ := mem_keys hzk
      have dl : done.length ≤ 1000 := by have := congrArg List.length ek; simp at this; omega
      (((try dsimp only [Fn.init,wpS,wpT,wpTs,wpB,wpI,wpC,wpE,wpEs,biP,zaa,zab,zac,zad,zae,zaf,zag,zah,zai,zaj,zak,zal,zam,zan,zao,zap,zaq,zar,zas,zat,zau,zav,zaw,zax,zay,zaz,zba,zbb,zbc,zbd,zbe,isiV,kindV,kindO,tyN,srcP,ya,yb,yc,yd,List.replicate,ye,yf,yg,yh,yi,yj,Nat.reduceSub,Nat.reduceAdd,Nat.reduceBEq,yk,yl,ym,yn,yw,yx,zbf,zbg,zbh,zbi]); (try simp only [zbj,zaa,zaf,zag,zah,zai,zas,zbb,zbc,zbd,zbe,zab,zac,zad,zae,zbk,zbl,zbm,zbn,zak,zal,zbo,zaj,zam,zan,zao,zap,zaq,zar,zax,zay,zaz,zba,zat,zau,zav,zaw,Nat.reduceBEq,yo,yl,yk,yp,yq,yn,yr,ym,ya,yb,yc,yd,ye,yf,yg,yh,yi,yj,not_true_eq_false,not_false_eq_true,Classical.not_not,decide_true,decide_false,ys,yt,yu,yv,true_and,and_true,ite_true,ite_false,if_true,if_false,yw,yx,yy,yz,Nat.sub_self,Nat.reduceSub,Nat.reduceAdd,Int.reduceToNat,Int.reduceLT,Int.reduceLE,Int.reduceNeg,eq_self,zbp,zbq,zbr,zbs,zbt,zbu,zbv,zbw,zbx,zby,zbz,zca])))
      (rw [wcons]; (((try dsimp only [Fn.init,wpS,wpT,wpTs,wpB,wpI,wpC,wpE,wpEs,biP,zaa,zab,zac,zad,zae,zaf,zag,zah,zai,zaj,zak,zal,zam,zan,zao,zap,zaq,zar,zas,zat,zau,zav,zaw,zax,zay,zaz,zba,zbb,zbc,zbd,zbe,isiV,kindV,kindO,tyN,srcP,ya,yb,yc,yd,List.replicate,ye,yf,yg,yh,yi,yj,Nat.reduceSub,Nat.reduceAdd,Nat.reduceBEq,yk,yl,ym,yn,yw,yx,zbf,zbg,zbh,zbi]); (try simp only [zbj,zaa,zaf,zag,zah,zai,zas,zbb,zbc,zbd,zbe,zab,zac,zad,zae,zbk,zbl,zbm,zbn,zak,zal,zbo,zaj,zam,zan,zao,zap,zaq,zar,zax,zay,zaz,zba,zat,zau,zav,zaw,Nat.reduceBEq,yo,yl,yk,yp,yq,yn,yr,ym,ya,yb,yc,yd,ye,yf,yg,yh,yi,yj,not_true_eq_false,not_false_eq_true,Classical.not_not,decide_true,decide_false,ys,yt,yu,yv,true_and,and_true,ite_true,ite_false,if_true,if_false,yw,yx,yy,yz,Nat.sub_self,Nat.reduceSub,Nat.reduceAdd,Int.reduceToNat,Int.reduceLT,Int.reduceLE,Int.reduceNeg,eq_self,zbp,zbq,zbr,zbs,zbt,zbu,zbv,zbw,zbx,zby,zbz,zca]))))
      obtain ⟨e', hu'⟩ := U.at_
      have bk : bmKind .setdefault (.ref u) h' := by unfold bmKind; simp only [hu']
      refine ⟨bk, ?_⟩
      simp only [getV, xx _ _ ht, dget_iD, hf, Option.map_some]
      refine ⟨by decide, new_go fun c h3 nc x3 hc => ?_⟩
      refine und_step U xx nu hf dl nc x3 hc fun us' h4 U4 xx4 kp nw => ?_
      refine hK _ _ ⟨done ++ [z], rest, us', by rw [ek, List.append_assoc]; rfl, rfl, xx4, U4, kp _ _ hs' (Ne.symm hus0) fun p hp => (ns' p hp).symm, fun p hp => ?_, _, rfl⟩
      rcases nw p hp with a | a
      · exact ns' p a
      · exact (addr_ne hs' a).symm
  rintro fr h2 ⟨done, rest, us, ek, ev, xx, U, hs2, ns2, o2, rfl⟩
  have er : rest = [] := by cases rest with | nil => rfl | cons _ _ => cases ev
  subst er
  rw [List.append_nil] at ek
  subst ek
  (((try dsimp only [Fn.init,wpS,wpT,wpTs,wpB,wpI,wpC,wpE,wpEs,biP,zaa,zab,zac,zad,zae,zaf,zag,zah,zai,zaj,zak,zal,zam,zan,zao,zap,zaq,zar,zas,zat,zau,zav,zaw,zax,zay,zaz,zba,zbb,zbc,zbd,zbe,isiV,kindV,kindO,tyN,srcP,ya,yb,yc,yd,List.replicate,ye,yf,yg,yh,yi,yj,Nat.reduceSub,Nat.reduceAdd,Nat.reduceBEq,yk,yl,ym,yn,yw,yx,zbf,zbg,zbh,zbi]); (try simp only [zbj,zaa,zaf,zag,zah,zai,zas,zbb,zbc,zbd,zbe,zab,zac,zad,zae,zbk,zbl,zbm,zbn,zak,zal,zbo,zaj,zam,zan,zao,zap,zaq,zar,zax,zay,zaz,zba,zat,zau,zav,zaw,Nat.reduceBEq,yo,yl,yk,yp,yq,yn,yr,ym,ya,yb,yc,yd,ye,yf,yg,yh,yi,yj,not_true_eq_false,not_false_eq_true,Classical.not_not,decide_true,decide_false,ys,yt,yu,yv,true_and,and_true,ite_true,ite_false,if_true,if_false,yw,yx,yy,yz,Nat.sub_self,Nat.reduceSub,Nat.reduceAdd,Int.reduceToNat,Int.reduceLT,Int.reduceLE,Int.reduceNeg,eq_self,zbp,zbq,zbr,zbs,zbt,zbu,zbv,zbw,zbx,zby,zbz,zca])))
  (rw [wcons]; (((try dsimp only [Fn.init,wpS,wpT,wpTs,wpB,wpI,wpC,wpE,wpEs,biP,zaa,zab,zac,zad,zae,zaf,zag,zah,zai,zaj,zak,zal,zam,zan,zao,zap,zaq,zar,zas,zat,zau,zav,zaw,zax,zay,zaz,zba,zbb,zbc,zbd,zbe,isiV,kindV,kindO,tyN,srcP,ya,yb,yc,yd,List.replicate,ye,yf,yg,yh,yi,yj,Nat.reduceSub,Nat.reduceAdd,Nat.reduceBEq,yk,yl,ym,yn,yw,yx,zbf,zbg,zbh,zbi]); (try simp only [zbj,zaa,zaf,zag,zah,zai,zas,zbb,zbc,zbd,zbe,zab,zac,zad,zae,zbk,zbl,zbm,zbn,zak,zal,zbo,zaj,zam,zan,zao,zap,zaq,zar,zax,zay,zaz,zba,zat,zau,zav,zaw,Nat.reduceBEq,yo,yl,yk,yp,yq,yn,yr,ym,ya,yb,yc,yd,ye,yf,yg,yh,yi,yj,not_true_eq_false,not_false_eq_true,Classical.not_not,decide_true,decide_false,ys,yt,yu,yv,true_and,and_true,ite_true,ite_false,if_true,if_false,yw,yx,yy,yz,Nat.sub_self,Nat.reduceSub,Nat.reduceAdd,Int.reduceToNat,Int.reduceLT,Int.reduceLE,Int.reduceNeg,eq_self,zbp,zbq,zbr,zbs,zbt,zbu,zbv,zbw,zbx,zby,zbz,zca]))))
  refine ⟨by decide, new_go fun F h3 nF x3 hF => ?_⟩
  have U3 := U.mono x3
  (rw [wcons]; (((try dsimp only [Fn.init,wpS,wpT,wpTs,wpB,wpI,wpC,wpE,wpEs,biP,zaa,zab,zac,zad,zae,zaf,zag,zah,zai,zaj,zak,zal,zam,zan,zao,zap,zaq,zar,zas,zat,zau,zav,zaw,zax,zay,zaz,zba,zbb,zbc,zbd,zbe,isiV,kindV,kindO,tyN,srcP,ya,yb,yc,yd,List.replicate,ye,yf,yg,yh,yi,yj,Nat.reduceSub,Nat.reduceAdd,Nat.reduceBEq,yk,yl,ym,yn,yw,yx,zbf,zbg,zbh,zbi]); (try simp only [zbj,zaa,zaf,zag,zah,zai,zas,zbb,zbc,zbd,zbe,zab,zac,zad,zae,zbk,zbl,zbm,zbn,zak,zal,zbo,zaj,zam,zan,zao,zap,zaq,zar,zax,zay,zaz,zba,zat,zau,zav,zaw,Nat.reduceBEq,yo,yl,yk,yp,yq,yn,yr,ym,ya,yb,yc,yd,ye,yf,yg,yh,yi,yj,not_true_eq_false,not_false_eq_true,Classical.not_not,decide_true,decide_false,ys,yt,yu,yv,true_and,and_true,ite_true,ite_false,if_true,if_false,yw,yx,yy,yz,Nat.sub_self,Nat.reduceSub,Nat.reduceAdd,Int.reduceToNat,Int.reduceLT,Int.reduceLE,Int.reduceNeg,eq_self,zbp,zbq,zbr,zbs,zbt,zbu,zbv,zbw,zbx,zby,zbz,zca]))))
  obtain ⟨e3, hu3⟩ := U3.at_
  have bk3 : bmKind .get (.ref u) h3 := by unfold bmKind; simp only [hu3]
  refine ⟨bk3, by decide, new_go fun c h4 nc x4 hc => ?_⟩
  refine und_get U3 nc x4 hc fun a ha hac => ?_
  simp only [ha]
  refine compL_ext (h0 := h4) (fun v => .tup [.int 1,v]) (fun h' y => y _ _ ha) (fun v h' K hK => by (((try dsimp only [Fn.init,wpS,wpT,wpTs,wpB,wpI,wpC,wpE,wpEs,biP,zaa,zab,zac,zad,zae,zaf,zag,zah,zai,zaj,zak,zal,zam,zan,zao,zap,zaq,zar,zas,zat,zau,zav,zaw,zax,zay,zaz,zba,zbb,zbc,zbd,zbe,isiV,kindV,kindO,tyN,srcP,ya,yb,yc,yd,List.replicate,ye,yf,yg,yh,yi,yj,Nat.reduceSub,Nat.reduceAdd,Nat.reduceBEq,yk,yl,ym,yn,yw,yx,zbf,zbg,zbh,zbi]); (try simp only [zbj,zaa,zaf,zag,zah,zai,zas,zbb,zbc,zbd,zbe,zab,zac,zad,zae,zbk,zbl,zbm,zbn,zak,zal,zbo,zaj,zam,zan,zao,zap,zaq,zar,zax,zay,zaz,zba,zat,zau,zav,zaw,Nat.reduceBEq,yo,yl,yk,yp,yq,yn,yr,ym,ya,yb,yc,yd,ye,yf,yg,yh,yi,yj,not_true_eq_false,not_false_eq_true,Classical.not_not,decide_true,decide_false,ys,yt,yu,yv,true_and,and_true,ite_true,ite_false,if_true,if_false,yw,yx,yy,yz,Nat.sub_self,Nat.reduceSub,Nat.reduceAdd,Int.reduceToNat,Int.reduceLT,Int.reduceLE,Int.reduceNeg,eq_self,zbp,zbq,zbr,zbs,zbt,zbu,zbv,zbw,zbx,zby,zbz,zca]))); exact hK) .refl (fun v hv h' K y hK => ?_) fun h5 x5 => ?_
  · (((try dsimp only [Fn.init,wpS,wpT,wpTs,wpB,wpI,wpC,wpE,wpEs,biP,zaa,zab,zac,zad,zae,zaf,zag,zah,zai,zaj,zak,zal,zam,zan,zao,zap,zaq,zar,zas,zat,zau,zav,zaw,zax,zay,zaz,zba,zbb,zbc,zbd,zbe,isiV,kindV,kindO,tyN,srcP,ya,yb,yc,yd,List.replicate,ye,yf,yg,yh,yi,yj,Nat.reduceSub,Nat.reduceAdd,Nat.reduceBEq,yk,yl,ym,yn,yw,yx,zbf,zbg,zbh,zbi]); (try simp only [zbj,zaa,zaf,zag,zah,zai,zas,zbb,zbc,zbd,zbe,zab,zac,zad,zae,zbk,zbl,zbm,zbn,zak,zal,zbo,zaj,zam,zan,zao,zap,zaq,zar,zax,zay,zaz,zba,zat,zau,zav,zaw,Nat.reduceBEq,yo,yl,yk,yp,yq,yn,yr,ym,ya,yb,yc,yd,ye,yf,yg,yh,yi,yj,not_true_eq_false,not_false_eq_true,Classical.not_not,decide_true,decide_false,ys,yt,yu,yv,true_and,and_true,ite_true,ite_false,if_true,if_false,yw,yx,yy,yz,Nat.sub_self,Nat.reduceSub,Nat.reduceAdd,Int.reduceToNat,Int.reduceLT,Int.reduceLE,Int.reduceNeg,eq_self,zbp,zbq,zbr,zbs,zbt,zbu,zbv,zbw,zbx,zby,zbz,zca])))
    exact ⟨by decide, hK _ y⟩
  refine new_go fun W h6 nW x6 hW => ?_
  have x36 : Ext h3 h6 := (x4.trans x5).trans x6
  have U6 := U3.mono x36
  have xx6 : Ext h h6 := (xx.trans x3).trans x36
  have hF6 := x36 _ _ hF
  have nWu : u ≠ W := by obtain ⟨e', a'⟩ := U3.at_; exact addr_ne ((x4.trans x5) _ _ a') nW
  have nWF : F ≠ W := addr_ne ((x4.trans x5) _ _ hF) nW
  have nWus : ∀ p ∈ us, p.2 ≠ W := fun p hp => addr_ne ((x4.trans x5) _ _ (U3.lists p hp).1) nW
  have nFu : u ≠ F := by obtain ⟨e', a'⟩ := U.at_; exact addr_ne a' nF
  have nFus : ∀ p ∈ us, p.2 ≠ F := fun p hp => addr_ne (U.lists p hp).1 nF
  have h0F : h F = none := xx.no nF
  have h0W : h W = none := (((xx.trans x3).trans x4).trans x5).no nW
  rw [List.nil_append] at hW
  (((try dsimp only [Fn.init,wpS,wpT,wpTs,wpB,wpI,wpC,wpE,wpEs,biP,zaa,zab,zac,zad,zae,zaf,zag,zah,zai,zaj,zak,zal,zam,zan,zao,zap,zaq,zar,zas,zat,zau,zav,zaw,zax,zay,zaz,zba,zbb,zbc,zbd,zbe,isiV,kindV,kindO,tyN,srcP,ya,yb,yc,yd,List.replicate,ye,yf,yg,yh,yi,yj,Nat.reduceSub,Nat.reduceAdd,Nat.reduceBEq,yk,yl,ym,yn,yw,yx,zbf,zbg,zbh,zbi]); (try simp only [zbj,zaa,zaf,zag,zah,zai,zas,zbb,zbc,zbd,zbe,zab,zac,zad,zae,zbk,zbl,zbm,zbn,zak,zal,zbo,zaj,zam,zan,zao,zap,zaq,zar,zax,zay,zaz,zba,zat,zau,zav,zaw,Nat.reduceBEq,yo,yl,yk,yp,yq,yn,yr,ym,ya,yb,yc,yd,ye,yf,yg,yh,yi,yj,not_true_eq_false,not_false_eq_true,Classical.not_not,decide_true,decide_false,ys,yt,yu,yv,true_and,and_true,ite_true,ite_false,if_true,if_false,yw,yx,yy,yz,Nat.sub_self,Nat.reduceSub,Nat.reduceAdd,Int.reduceToNat,Int.reduceLT,Int.reduceLE,Int.reduceNeg,eq_self,zbp,zbq,zbr,zbs,zbt,zbu,zbv,zbw,zbx,zby,zbz,zca])))
  (rw [wcons]; (((try dsimp only [Fn.init,wpS,wpT,wpTs,wpB,wpI,wpC,wpE,wpEs,biP,zaa,zab,zac,zad,zae,zaf,zag,zah,zai,zaj,zak,zal,zam,zan,zao,zap,zaq,zar,zas,zat,zau,zav,zaw,zax,zay,zaz,zba,zbb,zbc,zbd,zbe,isiV,kindV,kindO,tyN,srcP,ya,yb,yc,yd,List.replicate,ye,yf,yg,yh,yi,yj,Nat.reduceSub,Nat.reduceAdd,Nat.reduceBEq,yk,yl,ym,yn,yw,yx,zbf,zbg,zbh,zbi]); (try simp only [zbj,zaa,zaf,zag,zah,zai,zas,zbb,zbc,zbd,zbe,zab,zac,zad,zae,zbk,zbl,zbm,zbn,zak,zal,zbo,zaj,zam,zan,zao,zap,zaq,zar,zax,zay,zaz,zba,zat,zau,zav,zaw,Nat.reduceBEq,yo,yl,yk,yp,yq,yn,yr,ym,ya,yb,yc,yd,ye,yf,yg,yh,yi,yj,not_true_eq_false,not_false_eq_true,Classical.not_not,decide_true,decide_false,ys,yt,yu,yv,true_and,and_true,ite_true,ite_false,if_true,if_false,yw,yx,yy,yz,Nat.sub_self,Nat.reduceSub,Nat.reduceAdd,Int.reduceToNat,Int.reduceLT,Int.reduceLE,Int.reduceNeg,eq_self,zbp,zbq,zbr,zbs,zbt,zbu,zbv,zbw,zbx,zby,zbz,zca]))))
  intro P hP
  have main : ∀ (N : Nat) (st : List (Nat × Nat × Int)) (dn : List (Nat × Int)) (h' : AH) (o2 o5 o6 : Option V), (st.flatMap (prX (chL m ks))).length ≤ N → (∀ x ∈ st, Ht (chL m ks) x.1 x.2.2) → dn ++ st.flatMap (prX (chL m ks)) = rowsAll (chL m ks) n →
      Ext h h' → Und h h' m ks u us → h' F = some (.list (dn.map rowV)) → h' W = some (.list (st.reverse.map stV)) → P [some (.ref t), some (.ref u), o2, some (.ref F), some (.ref W), o5, o6, none] h' := by
    intro N
    induction N with
    | zero =>
      intro st dn h' o2 o5 o6 hN hH ht_ x U hF' hW'
      have : st = [] := by have := stack_le (ch := chL m ks) st; exact List.eq_nil_of_length_eq_zero (by omega)
      subst this
      refine hP _ _ ?_
      (((try dsimp only [Fn.init,wpS,wpT,wpTs,wpB,wpI,wpC,wpE,wpEs,biP,zaa,zab,zac,zad,zae,zaf,zag,zah,zai,zaj,zak,zal,zam,zan,zao,zap,zaq,zar,zas,zat,zau,zav,zaw,zax,zay,zaz,zba,zbb,zbc,zbd,zbe,isiV,kindV,kindO,tyN,srcP,ya,yb,yc,yd,List.replicate,ye,yf,yg,yh,yi,yj,Nat.reduceSub,Nat.reduceAdd,Nat.reduceBEq,yk,yl,ym,yn,yw,yx,zbf,zbg,zbh,zbi]); (try simp only [zbj,zaa,zaf,zag,zah,zai,zas,zbb,zbc,zbd,zbe,zab,zac,zad,zae,zbk,zbl,zbm,zbn,zak,zal,zbo,zaj,zam,zan,zao,zap,zaq,zar,zax,zay,zaz,zba,zat,zau,zav,zaw,Nat.reduceBEq,yo,yl,yk,yp,yq,yn,yr,ym,ya,yb,yc,yd,ye,yf,yg,yh,yi,yj,not_true_eq_false,not_false_eq_true,Classical.not_not,decide_true,decide_false,ys,yt,yu,yv,true_and,and_true,ite_true,ite_false,if_true,if_false,yw,yx,yy,yz,Nat.sub_self,Nat.reduceSub,Nat.reduceAdd,Int.reduceToNat,Int.reduceLT,Int.reduceLE,Int.reduceNeg,eq_self,zbp,zbq,zbr,zbs,zbt,zbu,zbv,zbw,zbx,zby,zbz,zca])))
      simp only [tr_list hW']
      (((try dsimp only [Fn.init,wpS,wpT,wpTs,wpB,wpI,wpC,wpE,wpEs,biP,zaa,zab,zac,zad,zae,zaf,zag,zah,zai,zaj,zak,zal,zam,zan,zao,zap,zaq,zar,zas,zat,zau,zav,zaw,zax,zay,zaz,zba,zbb,zbc,zbd,zbe,isiV,kindV,kindO,tyN,srcP,ya,yb,yc,yd,List.replicate,ye,yf,yg,yh,yi,yj,Nat.reduceSub,Nat.reduceAdd,Nat.reduceBEq,yk,yl,ym,yn,yw,yx,zbf,zbg,zbh,zbi]); (try simp only [zbj,zaa,zaf,zag,zah,zai,zas,zbb,zbc,zbd,zbe,zab,zac,zad,zae,zbk,zbl,zbm,zbn,zak,zal,zbo,zaj,zam,zan,zao,zap,zaq,zar,zax,zay,zaz,zba,zat,zau,zav,zaw,Nat.reduceBEq,yo,yl,yk,yp,yq,yn,yr,ym,ya,yb,yc,yd,ye,yf,yg,yh,yi,yj,not_true_eq_false,not_false_eq_true,Classical.not_not,decide_true,decide_false,ys,yt,yu,yv,true_and,and_true,ite_true,ite_false,if_true,if_false,yw,yx,yy,yz,Nat.sub_self,Nat.reduceSub,Nat.reduceAdd,Int.reduceToNat,Int.reduceLT,Int.reduceLE,Int.reduceNeg,eq_self,zbp,zbq,zbr,zbs,zbt,zbu,zbv,zbw,zbx,zby,zbz,zca])))
      (rw [wcons]; (((try dsimp only [Fn.init,wpS,wpT,wpTs,wpB,wpI,wpC,wpE,wpEs,biP,zaa,zab,zac,zad,zae,zaf,zag,zah,zai,zaj,zak,zal,zam,zan,zao,zap,zaq,zar,zas,zat,zau,zav,zaw,zax,zay,zaz,zba,zbb,zbc,zbd,zbe,isiV,kindV,kindO,tyN,srcP,ya,yb,yc,yd,List.replicate,ye,yf,yg,yh,yi,yj,Nat.reduceSub,Nat.reduceAdd,Nat.reduceBEq,yk,yl,ym,yn,yw,yx,zbf,zbg,zbh,zbi]); (try simp only [zbj,zaa,zaf,zag,zah,zai,zas,zbb,zbc,zbd,zbe,zab,zac,zad,zae,zbk,zbl,zbm,zbn,zak,zal,zbo,zaj,zam,zan,zao,zap,zaq,zar,zax,zay,zaz,zba,zat,zau,zav,zaw,Nat.reduceBEq,yo,yl,yk,yp,yq,yn,yr,ym,ya,yb,yc,yd,ye,yf,yg,yh,yi,yj,not_true_eq_false,not_false_eq_true,Classical.not_not,decide_true,decide_false,ys,yt,yu,yv,true_and,and_true,ite_true,ite_false,if_true,if_false,yw,yx,yy,yz,Nat.sub_self,Nat.reduceSub,Nat.reduceAdd,Int.reduceToNat,Int.reduceLT,Int.reduceLE,Int.reduceNeg,eq_self,zbp,zbq,zbr,zbs,zbt,zbu,zbv,zbw,zbx,zby,zbz,zca]))))
      refine q F h' h0F x ?_
      rw [hF', ← ht_]; simp
    | succ N ih =>
      intro st dn h' o2 o5 o6 hN hH ht_ x U hF' hW'
      refine hP _ _ ?_
      (((try dsimp only [Fn.init,wpS,wpT,wpTs,wpB,wpI,wpC,wpE,wpEs,biP,zaa,zab,zac,zad,zae,zaf,zag,zah,zai,zaj,zak,zal,zam,zan,zao,zap,zaq,zar,zas,zat,zau,zav,zaw,zax,zay,zaz,zba,zbb,zbc,zbd,zbe,isiV,kindV,kindO,tyN,srcP,ya,yb,yc,yd,List.replicate,ye,yf,yg,yh,yi,yj,Nat.reduceSub,Nat.reduceAdd,Nat.reduceBEq,yk,yl,ym,yn,yw,yx,zbf,zbg,zbh,zbi]); (try simp only [zbj,zaa,zaf,zag,zah,zai,zas,zbb,zbc,zbd,zbe,zab,zac,zad,zae,zbk,zbl,zbm,zbn,zak,zal,zbo,zaj,zam,zan,zao,zap,zaq,zar,zax,zay,zaz,zba,zat,zau,zav,zaw,Nat.reduceBEq,yo,yl,yk,yp,yq,yn,yr,ym,ya,yb,yc,yd,ye,yf,yg,yh,yi,yj,not_true_eq_false,not_false_eq_true,Classical.not_not,decide_true,decide_false,ys,yt,yu,yv,true_and,and_true,ite_true,ite_false,if_true,if_false,yw,yx,yy,yz,Nat.sub_self,Nat.reduceSub,Nat.reduceAdd,Int.reduceToNat,Int.reduceLT,Int.reduceLE,Int.reduceNeg,eq_self,zbp,zbq,zbr,zbs,zbt,zbu,zbv,zbw,zbx,zby,zbz,zca])))
      simp only [tr_list hW']
      cases st with
      | nil =>
        (((try dsimp only [Fn.init,wpS,wpT,wpTs,wpB,wpI,wpC,wpE,wpEs,biP,zaa,zab,zac,zad,zae,zaf,zag,zah,zai,zaj,zak,zal,zam,zan,zao,zap,zaq,zar,zas,zat,zau,zav,zaw,zax,zay,zaz,zba,zbb,zbc,zbd,zbe,isiV,kindV,kindO,tyN,srcP,ya,yb,yc,yd,List.replicate,ye,yf,yg,yh,yi,yj,Nat.reduceSub,Nat.reduceAdd,Nat.reduceBEq,yk,yl,ym,yn,yw,yx,zbf,zbg,zbh,zbi]); (try simp only [zbj,zaa,zaf,zag,zah,zai,zas,zbb,zbc,zbd,zbe,zab,zac,zad,zae,zbk,zbl,zbm,zbn,zak,zal,zbo,zaj,zam,zan,zao,zap,zaq,zar,zax,zay,zaz,zba,zat,zau,zav,zaw,Nat.reduceBEq,yo,yl,yk,yp,yq,yn,yr,ym,ya,yb,yc,yd,ye,yf,yg,yh,yi,yj,not_true_eq_false,not_false_eq_true,Classical.not_not,decide_true,decide_false,ys,yt,yu,yv,true_and,and_true,ite_true,ite_false,if_true,if_false,yw,yx,yy,yz,Nat.sub_self,Nat.reduceSub,Nat.reduceAdd,Int.reduceToNat,Int.reduceLT,Int.reduceLE,Int.reduceNeg,eq_self,zbp,zbq,zbr,zbs,zbt,zbu,zbv,zbw,zbx,zby,zbz,zca])))
        (rw [wcons]; (((try dsimp only [Fn.init,wpS,wpT,wpTs,wpB,wpI,wpC,wpE,wpEs,biP,zaa,zab,zac,zad,zae,zaf,zag,zah,zai,zaj,zak,zal,zam,zan,zao,zap,zaq,zar,zas,zat,zau,zav,zaw,zax,zay,zaz,zba,zbb,zbc,zbd,zbe,isiV,kindV,kindO,tyN,srcP,ya,yb,yc,yd,List.replicate,ye,yf,yg,yh,yi,yj,Nat.reduceSub,Nat.reduceAdd,Nat.reduceBEq,yk,yl,ym,yn,yw,yx,zbf,zbg,zbh,zbi]); (try simp only [zbj,zaa,zaf,zag,zah,zai,zas,zbb,zbc,zbd,zbe,zab,zac,zad,zae,zbk,zbl,zbm,zbn,zak,zal,zbo,zaj,zam,zan,zao,zap,zaq,zar,zax,zay,zaz,zba,zat,zau,zav,zaw,Nat.reduceBEq,yo,yl,yk,yp,yq,yn,yr,ym,ya,yb,yc,yd,ye,yf,yg,yh,yi,yj,not_true_eq_false,not_false_eq_true,Classical.not_not,decide_true,decide_false,ys,yt,yu,yv,true_and,and_true,ite_true,ite_false,if_true,if_false,yw,yx,yy,yz,Nat.sub_self,Nat.reduceSub,Nat.reduceAdd,Int.reduceToNat,Int.reduceLT,Int.reduceLE,Int.reduceNeg,eq_self,zbp,zbq,zbr,zbs,zbt,zbu,zbv,zbw,zbx,zby,zbz,zca]))))
        refine q F h' h0F x ?_
        rw [hF', ← ht_]; simp
      | cons y st =>
        obtain ⟨fu, d, f⟩ := y
        obtain ⟨k', hk', ep⟩ := pre_step (d := d) (hH _ (.head _))
        have tl := congrArg List.length ht_
        have sl := stack_le (ch := chL m ks) st
        simp only [List.flatMap_cons, List.length_append, prX, ep, List.length_cons] at tl hN
        have cl : (chL m ks f).length ≤ ((chL m ks f).flatMap (pre (chL m ks) k' (d + 1))).length := by
          have := stack_le (ch := chL m ks) ((chL m ks f).map fun g => (k', d + 1, g))
          rw [List.length_map, List.flatMap_map] at this
          exact this
        have ne : (List.map stV ((fu, d, f) :: st).reverse).isEmpty = false := by simp
        simp only [ne]
        (((try dsimp only [Fn.init,wpS,wpT,wpTs,wpB,wpI,wpC,wpE,wpEs,biP,zaa,zab,zac,zad,zae,zaf,zag,zah,zai,zaj,zak,zal,zam,zan,zao,zap,zaq,zar,zas,zat,zau,zav,zaw,zax,zay,zaz,zba,zbb,zbc,zbd,zbe,isiV,kindV,kindO,tyN,srcP,ya,yb,yc,yd,List.replicate,ye,yf,yg,yh,yi,yj,Nat.reduceSub,Nat.reduceAdd,Nat.reduceBEq,yk,yl,ym,yn,yw,yx,zbf,zbg,zbh,zbi]); (try simp only [zbj,zaa,zaf,zag,zah,zai,zas,zbb,zbc,zbd,zbe,zab,zac,zad,zae,zbk,zbl,zbm,zbn,zak,zal,zbo,zaj,zam,zan,zao,zap,zaq,zar,zax,zay,zaz,zba,zat,zau,zav,zaw,Nat.reduceBEq,yo,yl,yk,yp,yq,yn,yr,ym,ya,yb,yc,yd,ye,yf,yg,yh,yi,yj,not_true_eq_false,not_false_eq_true,Classical.not_not,decide_true,decide_false,ys,yt,yu,yv,true_and,and_true,ite_true,ite_false,if_true,if_false,yw,yx,yy,yz,Nat.sub_self,Nat.reduceSub,Nat.reduceAdd,Int.reduceToNat,Int.reduceLT,Int.reduceLE,Int.reduceNeg,eq_self,zbp,zbq,zbr,zbs,zbt,zbu,zbv,zbw,zbx,zby,zbz,zca])))
        (rw [wcons]; (((try dsimp only [Fn.init,wpS,wpT,wpTs,wpB,wpI,wpC,wpE,wpEs,biP,zaa,zab,zac,zad,zae,zaf,zag,zah,zai,zaj,zak,zal,zam,zan,zao,zap,zaq,zar,zas,zat,zau,zav,zaw,zax,zay,zaz,zba,zbb,zbc,zbd,zbe,isiV,kindV,kindO,tyN,srcP,ya,yb,yc,yd,List.replicate,ye,yf,yg,yh,yi,yj,Nat.reduceSub,Nat.reduceAdd,Nat.reduceBEq,yk,yl,ym,yn,yw,yx,zbf,zbg,zbh,zbi]); (try simp only [zbj,zaa,zaf,zag,zah,zai,zas,zbb,zbc,zbd,zbe,zab,zac,zad,zae,zbk,zbl,zbm,zbn,zak,zal,zbo,zaj,zam,zan,zao,zap,zaq,zar,zax,zay,zaz,zba,zat,zau,zav,zaw,Nat.reduceBEq,yo,yl,yk,yp,yq,yn,yr,ym,ya,yb,yc,yd,ye,yf,yg,yh,yi,yj,not_true_eq_false,not_false_eq_true,Classical.not_not,decide_true,decide_false,ys,yt,yu,yv,true_and,and_true,ite_true,ite_false,if_true,if_false,yw,yx,yy,yz,Nat.sub_self,Nat.reduceSub,Nat.reduceAdd,Int.reduceToNat,Int.reduceLT,Int.reduceLE,Int.reduceNeg,eq_self,zbp,zbq,zbr,zbs,zbt,zbu,zbv,zbw,zbx,zby,zbz,zca]))))
        have bkp : bmKind .pop (.ref W) h' := by unfold bmKind; simp only [hW']
        have epop : (List.map stV ((fu, d, f) :: st).reverse) = st.reverse.map stV ++ [rowV (d, f)] := by simp [stV]
        rw [epop] at hW'
        refine ⟨bkp, ?_⟩
        simp only [bmP, hW', List.getLast?_concat, List.dropLast_concat, rowV]
        (((try dsimp only [Fn.init,wpS,wpT,wpTs,wpB,wpI,wpC,wpE,wpEs,biP,zaa,zab,zac,zad,zae,zaf,zag,zah,zai,zaj,zak,zal,zam,zan,zao,zap,zaq,zar,zas,zat,zau,zav,zaw,zax,zay,zaz,zba,zbb,zbc,zbd,zbe,isiV,kindV,kindO,tyN,srcP,ya,yb,yc,yd,List.replicate,ye,yf,yg,yh,yi,yj,Nat.reduceSub,Nat.reduceAdd,Nat.reduceBEq,yk,yl,ym,yn,yw,yx,zbf,zbg,zbh,zbi]); (try simp only [zbj,zaa,zaf,zag,zah,zai,zas,zbb,zbc,zbd,zbe,zab,zac,zad,zae,zbk,zbl,zbm,zbn,zak,zal,zbo,zaj,zam,zan,zao,zap,zaq,zar,zax,zay,zaz,zba,zat,zau,zav,zaw,Nat.reduceBEq,yo,yl,yk,yp,yq,yn,yr,ym,ya,yb,yc,yd,ye,yf,yg,yh,yi,yj,not_true_eq_false,not_false_eq_true,Classical.not_not,decide_true,decide_false,ys,yt,yu,yv,true_and,and_true,ite_true,ite_false,if_true,if_false,yw,yx,yy,yz,Nat.sub_self,Nat.reduceSub,Nat.reduceAdd,Int.reduceToNat,Int.reduceLT,Int.reduceLE,Int.reduceNeg,eq_self,zbp,zbq,zbr,zbs,zbt,zbu,zbv,zbw,zbx,zby,zbz,zca])))
        (rw [wcons]; (((try dsimp only [Fn.init,wpS,wpT,wpTs,wpB,wpI,wpC,wpE,wpEs,biP,zaa,zab,zac,zad,zae,zaf,zag,zah,zai,zaj,zak,zal,zam,zan,zao,zap,zaq,zar,zas,zat,zau,zav,zaw,zax,zay,zaz,zba,zbb,zbc,zbd,zbe,isiV,kindV,kindO,tyN,srcP,ya,yb,yc,yd,List.replicate,ye,yf,yg,yh,yi,yj,Nat.reduceSub,Nat.reduceAdd,Nat.reduceBEq,yk,yl,ym,yn,yw,yx,zbf,zbg,zbh,zbi]); (try simp only [zbj,zaa,zaf,zag,zah,zai,zas,zbb,zbc,zbd,zbe,zab,zac,zad,zae,zbk,zbl,zbm,zbn,zak,zal,zbo,zaj,zam,zan,zao,zap,zaq,zar,zax,zay,zaz,zba,zat,zau,zav,zaw,Nat.reduceBEq,yo,yl,yk,yp,yq,yn,yr,ym,ya,yb,yc,yd,ye,yf,yg,yh,yi,yj,not_true_eq_false,not_false_eq_true,Classical.not_not,decide_true,decide_false,ys,yt,yu,yv,true_and,and_true,ite_true,ite_false,if_true,if_false,yw,yx,yy,yz,Nat.sub_self,Nat.reduceSub,Nat.reduceAdd,Int.reduceToNat,Int.reduceLT,Int.reduceLE,Int.reduceNeg,eq_self,zbp,zbq,zbr,zbs,zbt,zbu,zbv,zbw,zbx,zby,zbz,zca]))))
        have hF2 : (h'.put W (.list (st.reverse.map stV))) F = some (.list (dn.map rowV)) := by rw [put_ne _ nWF]; exact hF'
        refine ⟨bk_append hF2, by decide, append_go hF2 (by rw [List.length_map]; unfold small; omega) fun h7 up7 hF7 => ?_⟩
        have hW7 : h7 W = some (.list (st.reverse.map stV)) := up7.at (put_self ..) (Ne.symm nWF)
        have U7 : Und h h7 m ks u us := (U.upd upd_put nWu nWus).upd up7 nFu nFus
        have x7 : Ext h h7 := fun b o eb => up7.at (by rw [put_ne _ (addr_ne eb h0W)]; exact x _ _ eb) (addr_ne eb h0F)
        (((try dsimp only [Fn.init,wpS,wpT,wpTs,wpB,wpI,wpC,wpE,wpEs,biP,zaa,zab,zac,zad,zae,zaf,zag,zah,zai,zaj,zak,zal,zam,zan,zao,zap,zaq,zar,zas,zat,zau,zav,zaw,zax,zay,zaz,zba,zbb,zbc,zbd,zbe,isiV,kindV,kindO,tyN,srcP,ya,yb,yc,yd,List.replicate,ye,yf,yg,yh,yi,yj,Nat.reduceSub,Nat.reduceAdd,Nat.reduceBEq,yk,yl,ym,yn,yw,yx,zbf,zbg,zbh,zbi]); (try simp only [zbj,zaa,zaf,zag,zah,zai,zas,zbb,zbc,zbd,zbe,zab,zac,zad,zae,zbk,zbl,zbm,zbn,zak,zal,zbo,zaj,zam,zan,zao,zap,zaq,zar,zax,zay,zaz,zba,zat,zau,zav,zaw,Nat.reduceBEq,yo,yl,yk,yp,yq,yn,yr,ym,ya,yb,yc,yd,ye,yf,yg,yh,yi,yj,not_true_eq_false,not_false_eq_true,Classical.not_not,decide_true,decide_false,ys,yt,yu,yv,true_and,and_true,ite_true,ite_false,if_true,if_false,yw,yx,yy,yz,Nat.sub_self,Nat.reduceSub,Nat.reduceAdd,Int.reduceToNat,Int.reduceLT,Int.reduceLE,Int.reduceNeg,eq_self,zbp,zbq,zbr,zbs,zbt,zbu,zbv,zbw,zbx,zby,zbz,zca])))
        (rw [wcons]; (((try dsimp only [Fn.init,wpS,wpT,wpTs,wpB,wpI,wpC,wpE,wpEs,biP,zaa,zab,zac,zad,zae,zaf,zag,zah,zai,zaj,zak,zal,zam,zan,zao,zap,zaq,zar,zas,zat,zau,zav,zaw,zax,zay,zaz,zba,zbb,zbc,zbd,zbe,isiV,kindV,kindO,tyN,srcP,ya,yb,yc,yd,List.replicate,ye,yf,yg,yh,yi,yj,Nat.reduceSub,Nat.reduceAdd,Nat.reduceBEq,yk,yl,ym,yn,yw,yx,zbf,zbg,zbh,zbi]); (try simp only [zbj,zaa,zaf,zag,zah,zai,zas,zbb,zbc,zbd,zbe,zab,zac,zad,zae,zbk,zbl,zbm,zbn,zak,zal,zbo,zaj,zam,zan,zao,zap,zaq,zar,zax,zay,zaz,zba,zat,zau,zav,zaw,Nat.reduceBEq,yo,yl,yk,yp,yq,yn,yr,ym,ya,yb,yc,yd,ye,yf,yg,yh,yi,yj,not_true_eq_false,not_false_eq_true,Classical.not_not,decide_true,decide_false,ys,yt,yu,yv,true_and,and_true,ite_true,ite_false,if_true,if_false,yw,yx,yy,yz,Nat.sub_self,Nat.reduceSub,Nat.reduceAdd,Int.reduceToNat,Int.reduceLT,Int.reduceLE,Int.reduceNeg,eq_self,zbp,zbq,zbr,zbs,zbt,zbu,zbv,zbw,zbx,zby,zbz,zca]))))
        obtain ⟨e7, hu7⟩ := U7.at_
        have bk7 : bmKind .get (.ref u) h7 := by unfold bmKind; simp only [hu7]
        refine ⟨bk7, by decide, new_go fun c h8 nc x8 hc => ?_⟩
        refine und_get U7 nc x8 hc fun a ha hac => ?_
        simp only [ha]
        have naW : a ≠ W := by
          rcases hac with rfl | ⟨p, hp, rfl⟩
          · exact (addr_ne hW7 nc).symm
          · exact nWus p hp
        refine loop_inv (I := fun vs fr h'' => PushI (chL m ks f) (st.reverse.map stV) d f t u F W h8 vs fr h'') ?_ ?_ ?_
          ⟨[], (chL m ks f).reverse, rfl, by rw [List.map_reverse], by rw [x8 _ _ hW7]; simp, fun b _ => rfl, _, rfl⟩
        · rintro vs fr h'' ⟨pr, rest, _, _, _, up, _⟩; exact up.at ha naW
        · rintro v vs fr h'' K ⟨pr, rest, er, ev, hW8, up, o2, rfl⟩ hK
          cases rest with
          | nil => cases ev
          | cons g rest =>
            obtain ⟨rfl, rfl⟩ := List.cons.inj ev
            have pl := congrArg List.length er
            simp only [List.length_reverse, List.length_append, List.length_cons] at pl
            (((try dsimp only [Fn.init,wpS,wpT,wpTs,wpB,wpI,wpC,wpE,wpEs,biP,zaa,zab,zac,zad,zae,zaf,zag,zah,zai,zaj,zak,zal,zam,zan,zao,zap,zaq,zar,zas,zat,zau,zav,zaw,zax,zay,zaz,zba,zbb,zbc,zbd,zbe,isiV,kindV,kindO,tyN,srcP,ya,yb,yc,yd,List.replicate,ye,yf,yg,yh,yi,yj,Nat.reduceSub,Nat.reduceAdd,Nat.reduceBEq,yk,yl,ym,yn,yw,yx,zbf,zbg,zbh,zbi]); (try simp only [zbj,zaa,zaf,zag,zah,zai,zas,zbb,zbc,zbd,zbe,zab,zac,zad,zae,zbk,zbl,zbm,zbn,zak,zal,zbo,zaj,zam,zan,zao,zap,zaq,zar,zax,zay,zaz,zba,zat,zau,zav,zaw,Nat.reduceBEq,yo,yl,yk,yp,yq,yn,yr,ym,ya,yb,yc,yd,ye,yf,yg,yh,yi,yj,not_true_eq_false,not_false_eq_true,Classical.not_not,decide_true,decide_false,ys,yt,yu,yv,true_and,and_true,ite_true,ite_false,if_true,if_false,yw,yx,yy,yz,Nat.sub_self,Nat.reduceSub,Nat.reduceAdd,Int.reduceToNat,Int.reduceLT,Int.reduceLE,Int.reduceNeg,eq_self,zbp,zbq,zbr,zbs,zbt,zbu,zbv,zbw,zbx,zby,zbz,zca])))
            (rw [wcons]; (((try dsimp only [Fn.init,wpS,wpT,wpTs,wpB,wpI,wpC,wpE,wpEs,biP,zaa,zab,zac,zad,zae,zaf,zag,zah,zai,zaj,zak,zal,zam,zan,zao,zap,zaq,zar,zas,zat,zau,zav,zaw,zax,zay,zaz,zba,zbb,zbc,zbd,zbe,isiV,kindV,kindO,tyN,srcP,ya,yb,yc,yd,List.replicate,ye,yf,yg,yh,yi,yj,Nat.reduceSub,Nat.reduceAdd,Nat.reduceBEq,yk,yl,ym,yn,yw,yx,zbf,zbg,zbh,zbi]); (try simp only [zbj,zaa,zaf,zag,zah,zai,zas,zbb,zbc,zbd,zbe,zab,zac,zad,zae,zbk,zbl,zbm,zbn,zak,zal,zbo,zaj,zam,zan,zao,zap,zaq,zar,zax,zay,zaz,zba,zat,zau,zav,zaw,Nat.reduceBEq,yo,yl,yk,yp,yq,yn,yr,ym,ya,yb,yc,yd,ye,yf,yg,yh,yi,yj,not_true_eq_false,not_false_eq_true,Classical.not_not,decide_true,decide_false,ys,yt,yu,yv,true_and,and_true,ite_true,ite_false,if_true,if_false,yw,yx,yy,yz,Nat.sub_self,Nat.reduceSub,Nat.reduceAdd,Int.reduceToNat,Int.reduceLT,Int.reduceLE,Int.reduceNeg,eq_self,zbp,zbq,zbr,zbs,zbt,zbu,zbv,zbw,zbx,zby,zbz,zca]))))
            refine ⟨bk_append hW8, by decide, append_go hW8 (by simp only [List.length_append, List.length_map, List.length_reverse]; unfold small; omega) fun h9 up9 hW9 => ?_⟩
            (((try dsimp only [Fn.init,wpS,wpT,wpTs,wpB,wpI,wpC,wpE,wpEs,biP,zaa,zab,zac,zad,zae,zaf,zag,zah,zai,zaj,zak,zal,zam,zan,zao,zap,zaq,zar,zas,zat,zau,zav,zaw,zax,zay,zaz,zba,zbb,zbc,zbd,zbe,isiV,kindV,kindO,tyN,srcP,ya,yb,yc,yd,List.replicate,ye,yf,yg,yh,yi,yj,Nat.reduceSub,Nat.reduceAdd,Nat.reduceBEq,yk,yl,ym,yn,yw,yx,zbf,zbg,zbh,zbi]); (try simp only [zbj,zaa,zaf,zag,zah,zai,zas,zbb,zbc,zbd,zbe,zab,zac,zad,zae,zbk,zbl,zbm,zbn,zak,zal,zbo,zaj,zam,zan,zao,zap,zaq,zar,zax,zay,zaz,zba,zat,zau,zav,zaw,Nat.reduceBEq,yo,yl,yk,yp,yq,yn,yr,ym,ya,yb,yc,yd,ye,yf,yg,yh,yi,yj,not_true_eq_false,not_false_eq_true,Classical.not_not,decide_true,decide_false,ys,yt,yu,yv,true_and,and_true,ite_true,ite_false,if_true,if_false,yw,yx,yy,yz,Nat.sub_self,Nat.reduceSub,Nat.reduceAdd,Int.reduceToNat,Int.reduceLT,Int.reduceLE,Int.reduceNeg,eq_self,zbp,zbq,zbr,zbs,zbt,zbu,zbv,zbw,zbx,zby,zbz,zca])))
            refine hK _ _ ⟨pr ++ [g], rest, by rw [er, List.append_assoc]; rfl, rfl, ?_, fun b nb => (up9 b nb).trans (up b nb), _, rfl⟩
            rw [hW9, List.append_assoc, List.map_append]; rfl
        rintro fr h'' ⟨pr, rest, er, ev, hW8, up, o2', rfl⟩
        have : rest = [] := by cases rest with | nil => rfl | cons _ _ => cases ev
        subst this
        rw [List.append_nil] at er
        subst er
        (((try dsimp only [Fn.init,wpS,wpT,wpTs,wpB,wpI,wpC,wpE,wpEs,biP,zaa,zab,zac,zad,zae,zaf,zag,zah,zai,zaj,zak,zal,zam,zan,zao,zap,zaq,zar,zas,zat,zau,zav,zaw,zax,zay,zaz,zba,zbb,zbc,zbd,zbe,isiV,kindV,kindO,tyN,srcP,ya,yb,yc,yd,List.replicate,ye,yf,yg,yh,yi,yj,Nat.reduceSub,Nat.reduceAdd,Nat.reduceBEq,yk,yl,ym,yn,yw,yx,zbf,zbg,zbh,zbi]); (try simp only [zbj,zaa,zaf,zag,zah,zai,zas,zbb,zbc,zbd,zbe,zab,zac,zad,zae,zbk,zbl,zbm,zbn,zak,zal,zbo,zaj,zam,zan,zao,zap,zaq,zar,zax,zay,zaz,zba,zat,zau,zav,zaw,Nat.reduceBEq,yo,yl,yk,yp,yq,yn,yr,ym,ya,yb,yc,yd,ye,yf,yg,yh,yi,yj,not_true_eq_false,not_false_eq_true,Classical.not_not,decide_true,decide_false,ys,yt,yu,yv,true_and,and_true,ite_true,ite_false,if_true,if_false,yw,yx,yy,yz,Nat.sub_self,Nat.reduceSub,Nat.reduceAdd,Int.reduceToNat,Int.reduceLT,Int.reduceLE,Int.reduceNeg,eq_self,zbp,zbq,zbr,zbs,zbt,zbu,zbv,zbw,zbx,zby,zbz,zca])))
        refine ih ((chL m ks f).map (fun g => (k', d + 1, g)) ++ st) (dn ++ [(d, f)]) h'' _ _ _ ?_ ?_ ?_ (fun b o eb => up.at (x8 _ _ (x7 _ _ eb)) (addr_ne eb h0W)) ((U7.mono x8).upd up nWu nWus) ?_ ?_
        · rw [List.flatMap_append, List.flatMap_map, List.length_append]
          have e0 : (List.flatMap (fun a => prX (chL m ks) (k', d + 1, a)) (chL m ks f)).length = ((chL m ks f).flatMap (pre (chL m ks) k' (d + 1))).length := rfl
          rw [e0]
          omega
        · intro z hz'
          rcases List.mem_append.mp hz' with hz' | hz'
          · obtain ⟨g, hg, rfl⟩ := List.mem_map.mp hz'; exact hk' g hg
          · exact hH z (.tail _ hz')
        · rw [← ht_, List.flatMap_append, List.flatMap_map, List.flatMap_cons]
          simp only [prX, ep, List.append_assoc, List.cons_append, List.nil_append]
        · rw [up.at (x8 _ _ hF7) nWF, List.map_append]; rfl
        · rw [hW8]
          simp [stV]
  refine main _ ((chL m ks 0).map fun g => (n, 1, g)) [] h6 _ _ _ (Nat.le_refl _) (fun x hx => ?_) ?_ xx6 U6 (by rw [hF6]; rfl) ?_
  · obtain ⟨g, hg, rfl⟩ := List.mem_map.mp hx; exact hht g hg
  · rw [List.nil_append, List.flatMap_map]; rfl
  · rw [hW]
    simp [stV, rowV]
end
end Mine.L04

namespace Mine.L04
open PySem PySem.W PyProof.Rows


theorem slice_d {α : Type} (l : List α) (d : Nat) : pySlice l .none (.int d) = some (l.take d) := by
  unfold pySlice loV hiV clampI
  simp only [Int.toNat_natCast]
  rw [if_neg (by omega)]
  rw [List.drop_zero, Nat.min_comm, List.take_eq_take_min (i := d), Nat.min_comm]
/-- the row of last folders with a place for depth d -/
theorem last_row {l : List Int} {d : Nat} (h : d ≤ l.length) : (l.take (d + 1) ++ if l.length = d then [0] else []).length = d + 1 ∧ (l.take (d + 1) ++ if l.length = d then [0] else [])[d]? = some (l[d]?.getD 0) ∧
    ∀ f, (l.take (d + 1) ++ if l.length = d then [0] else []).set d f = l.take d ++ [f] := by
  by_cases e : l.length = d
  · rw [if_pos e, List.take_of_length_le (l := l) (i := d + 1) (by omega)]
    refine ⟨by simp [e], ?_, fun f => ?_⟩
    · rw [List.getElem?_append_right (by omega), List.getElem?_eq_none (l := l) (by omega)]; simp [e]
    · rw [List.take_of_length_le (l := l) (i := d) (by omega), List.set_append_right _ _ (by omega)]; simp [e]
  · rw [if_neg e, List.append_nil]
    have lt : d < l.length := by omega
    refine ⟨by rw [List.length_take]; omega, ?_, fun f => ?_⟩
    · rw [List.getElem?_take_of_lt (by omega), List.getElem?_eq_getElem lt]; rfl
    · rw [List.take_add_one, List.getElem?_eq_getElem lt, List.set_append_right _ _ (by rw [List.length_take]; omega), List.length_take, Nat.min_eq_left h]
      simp
inductive HangI (h : AH) (m : IM) (t F : Addr) (vs : List V) (fr : Fm) (h' : AH) : Prop
  | mk (rest : List (Nat × Int)) (p l : List Int) (pa la : Addr) (o : Option V) (ev : vs = rest.map rowV) (ok : hOk m p l rest) (hp : h' pa = some (.list (p.map .int))) (hl : h' la = some (.list (l.map .int))) (hz : p.length + rest.length ≤ 1001) (xx : Ext h h')
    (e : fr = [some (.ref t), some (.ref F), some (.ref pa), some (.ref la), o])
section
variable {X : Ctx}
theorem c_hangs (G : X.Good) (Dw : X.Def "_law_whole" fWhole) (D : X.Def "_law_hangs" f_law_hangs) {k : Nat} {h : AH} {t F : Addr} {e : Nat} {m : IM} {rows : List (Nat × Int)} {Q R} (ht : h t = some (.idict (iD m) e)) (hF : h F = some (.list (rows.map rowV))) (ok : hOk m [0] [0] rows) (hz : rows.length ≤ 1000)
    (q : ∀ h', Ext h h' → Q (.bool true) h') : X.Call (k + 3) "_law_hangs" [.ref t, .ref F] h Q R := by
  refine D.call G rfl ?_
  unfold f_law_hangs
  (rw [wcons]; (((try dsimp only [Fn.init,wpS,wpT,wpTs,wpB,wpI,wpC,wpE,wpEs,biP,zaa,zab,zac,zad,zae,zaf,zag,zah,zai,zaj,zak,zal,zam,zan,zao,zap,zaq,zar,zas,zat,zau,zav,zaw,zax,zay,zaz,zba,zbb,zbc,zbd,zbe,isiV,kindV,kindO,tyN,srcP,ya,yb,yc,yd,List.replicate,ye,yf,yg,yh,yi,yj,Nat.reduceSub,Nat.reduceAdd,Nat.reduceBEq,yk,yl,ym,yn,yw,yx,zbf,zbg,zbh,zbi]); (try simp only [zbj,zaa,zaf,zag,zah,zai,zas,zbb,zbc,zbd,zbe,zab,zac,zad,zae,zbk,zbl,zbm,zbn,zak,zal,zbo,zaj,zam,zan,zao,zap,zaq,zar,zax,zay,zaz,zba,zat,zau,zav,zaw,Nat.reduceBEq,yo,yl,yk,yp,yq,yn,yr,ym,ya,yb,yc,yd,ye,yf,yg,yh,yi,yj,not_true_eq_false,not_false_eq_true,Classical.not_not,decide_true,decide_false,ys,yt,yu,yv,true_and,and_true,ite_true,ite_false,if_true,if_false,yw,yx,yy,yz,Nat.sub_self,Nat.reduceSub,Nat.reduceAdd,Int.reduceToNat,Int.reduceLT,Int.reduceLE,Int.reduceNeg,eq_self,zbp,zbq,zbr,zbs,zbt,zbu,zbv,zbw,zbx,zby,zbz,zca]))))
  refine ⟨by decide, new_go fun pa h1 n1 x1 hp => ?_⟩
  (rw [wcons]; (((try dsimp only [Fn.init,wpS,wpT,wpTs,wpB,wpI,wpC,wpE,wpEs,biP,zaa,zab,zac,zad,zae,zaf,zag,zah,zai,zaj,zak,zal,zam,zan,zao,zap,zaq,zar,zas,zat,zau,zav,zaw,zax,zay,zaz,zba,zbb,zbc,zbd,zbe,isiV,kindV,kindO,tyN,srcP,ya,yb,yc,yd,List.replicate,ye,yf,yg,yh,yi,yj,Nat.reduceSub,Nat.reduceAdd,Nat.reduceBEq,yk,yl,ym,yn,yw,yx,zbf,zbg,zbh,zbi]); (try simp only [zbj,zaa,zaf,zag,zah,zai,zas,zbb,zbc,zbd,zbe,zab,zac,zad,zae,zbk,zbl,zbm,zbn,zak,zal,zbo,zaj,zam,zan,zao,zap,zaq,zar,zax,zay,zaz,zba,zat,zau,zav,zaw,Nat.reduceBEq,yo,yl,yk,yp,yq,yn,yr,ym,ya,yb,yc,yd,ye,yf,yg,yh,yi,yj,not_true_eq_false,not_false_eq_true,Classical.not_not,decide_true,decide_false,ys,yt,yu,yv,true_and,and_true,ite_true,ite_false,if_true,if_false,yw,yx,yy,yz,Nat.sub_self,Nat.reduceSub,Nat.reduceAdd,Int.reduceToNat,Int.reduceLT,Int.reduceLE,Int.reduceNeg,eq_self,zbp,zbq,zbr,zbs,zbt,zbu,zbv,zbw,zbx,zby,zbz,zca]))))
  refine ⟨by decide, new_go fun la h2 n2 x2 hl => ?_⟩
  (rw [wcons]; (((try dsimp only [Fn.init,wpS,wpT,wpTs,wpB,wpI,wpC,wpE,wpEs,biP,zaa,zab,zac,zad,zae,zaf,zag,zah,zai,zaj,zak,zal,zam,zan,zao,zap,zaq,zar,zas,zat,zau,zav,zaw,zax,zay,zaz,zba,zbb,zbc,zbd,zbe,isiV,kindV,kindO,tyN,srcP,ya,yb,yc,yd,List.replicate,ye,yf,yg,yh,yi,yj,Nat.reduceSub,Nat.reduceAdd,Nat.reduceBEq,yk,yl,ym,yn,yw,yx,zbf,zbg,zbh,zbi]); (try simp only [zbj,zaa,zaf,zag,zah,zai,zas,zbb,zbc,zbd,zbe,zab,zac,zad,zae,zbk,zbl,zbm,zbn,zak,zal,zbo,zaj,zam,zan,zao,zap,zaq,zar,zax,zay,zaz,zba,zat,zau,zav,zaw,Nat.reduceBEq,yo,yl,yk,yp,yq,yn,yr,ym,ya,yb,yc,yd,ye,yf,yg,yh,yi,yj,not_true_eq_false,not_false_eq_true,Classical.not_not,decide_true,decide_false,ys,yt,yu,yv,true_and,and_true,ite_true,ite_false,if_true,if_false,yw,yx,yy,yz,Nat.sub_self,Nat.reduceSub,Nat.reduceAdd,Int.reduceToNat,Int.reduceLT,Int.reduceLE,Int.reduceNeg,eq_self,zbp,zbq,zbr,zbs,zbt,zbu,zbv,zbw,zbx,zby,zbz,zca]))))
  simp only [x2 _ _ (x1 _ _ hF)]
  refine loop_inv (I := fun vs fr h' => HangI h m t F vs fr h') ?_ ?_ ?_ ⟨rows, [0], [0], pa, la, none, rfl, ok, x2 _ _ hp, hl, by simp; omega, x1.trans x2, rfl⟩
  · rintro vs fr h' ⟨_, _, _, _, _, _, _, _, _, _, _, xx, _⟩; exact xx _ _ hF
  · rintro v vs fr h' K ⟨rest, p, l, pa, la, o, ev, ok, hp, hl, hz, xx, rfl⟩ hK
    cases rest with
    | nil => cases ev
    | cons r rest =>
      obtain ⟨d, f⟩ := r
      obtain ⟨rfl, rfl⟩ := List.cons.inj ev
      obtain ⟨⟨d1, d2, d3, d4, d5⟩, ok⟩ := ok
      obtain ⟨v, hv⟩ : ∃ v, p[d - 1]? = some v := ⟨_, List.getElem?_eq_getElem (by omega)⟩
      rw [hv] at d4
      simp only [List.length_cons] at hz
      unfold rowV
      (((try dsimp only [Fn.init,wpS,wpT,wpTs,wpB,wpI,wpC,wpE,wpEs,biP,zaa,zab,zac,zad,zae,zaf,zag,zah,zai,zaj,zak,zal,zam,zan,zao,zap,zaq,zar,zas,zat,zau,zav,zaw,zax,zay,zaz,zba,zbb,zbc,zbd,zbe,isiV,kindV,kindO,tyN,srcP,ya,yb,yc,yd,List.replicate,ye,yf,yg,yh,yi,yj,Nat.reduceSub,Nat.reduceAdd,Nat.reduceBEq,yk,yl,ym,yn,yw,yx,zbf,zbg,zbh,zbi]); (try simp only [zbj,zaa,zaf,zag,zah,zai,zas,zbb,zbc,zbd,zbe,zab,zac,zad,zae,zbk,zbl,zbm,zbn,zak,zal,zbo,zaj,zam,zan,zao,zap,zaq,zar,zax,zay,zaz,zba,zat,zau,zav,zaw,Nat.reduceBEq,yo,yl,yk,yp,yq,yn,yr,ym,ya,yb,yc,yd,ye,yf,yg,yh,yi,yj,not_true_eq_false,not_false_eq_true,Classical.not_not,decide_true,decide_false,ys,yt,yu,yv,true_and,and_true,ite_true,ite_false,if_true,if_false,yw,yx,yy,yz,Nat.sub_self,Nat.reduceSub,Nat.reduceAdd,Int.reduceToNat,Int.reduceLT,Int.reduceLE,Int.reduceNeg,eq_self,zbp,zbq,zbr,zbs,zbt,zbu,zbv,zbw,zbx,zby,zbz,zca])))
      (rw [wcons]; (((try dsimp only [Fn.init,wpS,wpT,wpTs,wpB,wpI,wpC,wpE,wpEs,biP,zaa,zab,zac,zad,zae,zaf,zag,zah,zai,zaj,zak,zal,zam,zan,zao,zap,zaq,zar,zas,zat,zau,zav,zaw,zax,zay,zaz,zba,zbb,zbc,zbd,zbe,isiV,kindV,kindO,tyN,srcP,ya,yb,yc,yd,List.replicate,ye,yf,yg,yh,yi,yj,Nat.reduceSub,Nat.reduceAdd,Nat.reduceBEq,yk,yl,ym,yn,yw,yx,zbf,zbg,zbh,zbi]); (try simp only [zbj,zaa,zaf,zag,zah,zai,zas,zbb,zbc,zbd,zbe,zab,zac,zad,zae,zbk,zbl,zbm,zbn,zak,zal,zbo,zaj,zam,zan,zao,zap,zaq,zar,zax,zay,zaz,zba,zat,zau,zav,zaw,Nat.reduceBEq,yo,yl,yk,yp,yq,yn,yr,ym,ya,yb,yc,yd,ye,yf,yg,yh,yi,yj,not_true_eq_false,not_false_eq_true,Classical.not_not,decide_true,decide_false,ys,yt,yu,yv,true_and,and_true,ite_true,ite_false,if_true,if_false,yw,yx,yy,yz,Nat.sub_self,Nat.reduceSub,Nat.reduceAdd,Int.reduceToNat,Int.reduceLT,Int.reduceLE,Int.reduceNeg,eq_self,zbp,zbq,zbr,zbs,zbt,zbu,zbv,zbw,zbx,zby,zbz,zca]))))
      refine ⟨Dw.some, _, rfl, c_whole G Dw ?_⟩
      (((try dsimp only [Fn.init,wpS,wpT,wpTs,wpB,wpI,wpC,wpE,wpEs,biP,zaa,zab,zac,zad,zae,zaf,zag,zah,zai,zaj,zak,zal,zam,zan,zao,zap,zaq,zar,zas,zat,zau,zav,zaw,zax,zay,zaz,zba,zbb,zbc,zbd,zbe,isiV,kindV,kindO,tyN,srcP,ya,yb,yc,yd,List.replicate,ye,yf,yg,yh,yi,yj,Nat.reduceSub,Nat.reduceAdd,Nat.reduceBEq,yk,yl,ym,yn,yw,yx,zbf,zbg,zbh,zbi]); (try simp only [zbj,zaa,zaf,zag,zah,zai,zas,zbb,zbc,zbd,zbe,zab,zac,zad,zae,zbk,zbl,zbm,zbn,zak,zal,zbo,zaj,zam,zan,zao,zap,zaq,zar,zax,zay,zaz,zba,zat,zau,zav,zaw,Nat.reduceBEq,yo,yl,yk,yp,yq,yn,yr,ym,ya,yb,yc,yd,ye,yf,yg,yh,yi,yj,not_true_eq_false,not_false_eq_true,Classical.not_not,decide_true,decide_false,ys,yt,yu,yv,true_and,and_true,ite_true,ite_false,if_true,if_false,yw,yx,yy,yz,Nat.sub_self,Nat.reduceSub,Nat.reduceAdd,Int.reduceToNat,Int.reduceLT,Int.reduceLE,Int.reduceNeg,eq_self,zbp,zbq,zbr,zbs,zbt,zbu,zbv,zbw,zbx,zby,zbz,zca])))
      refine ⟨Dw.some, _, rfl, c_whole G Dw ?_⟩
      (((try dsimp only [Fn.init,wpS,wpT,wpTs,wpB,wpI,wpC,wpE,wpEs,biP,zaa,zab,zac,zad,zae,zaf,zag,zah,zai,zaj,zak,zal,zam,zan,zao,zap,zaq,zar,zas,zat,zau,zav,zaw,zax,zay,zaz,zba,zbb,zbc,zbd,zbe,isiV,kindV,kindO,tyN,srcP,ya,yb,yc,yd,List.replicate,ye,yf,yg,yh,yi,yj,Nat.reduceSub,Nat.reduceAdd,Nat.reduceBEq,yk,yl,ym,yn,yw,yx,zbf,zbg,zbh,zbi]); (try simp only [zbj,zaa,zaf,zag,zah,zai,zas,zbb,zbc,zbd,zbe,zab,zac,zad,zae,zbk,zbl,zbm,zbn,zak,zal,zbo,zaj,zam,zan,zao,zap,zaq,zar,zax,zay,zaz,zba,zat,zau,zav,zaw,Nat.reduceBEq,yo,yl,yk,yp,yq,yn,yr,ym,ya,yb,yc,yd,ye,yf,yg,yh,yi,yj,not_true_eq_false,not_false_eq_true,Classical.not_not,decide_true,decide_false,ys,yt,yu,yv,true_and,and_true,ite_true,ite_false,if_true,if_false,yw,yx,yy,yz,Nat.sub_self,Nat.reduceSub,Nat.reduceAdd,Int.reduceToNat,Int.reduceLT,Int.reduceLE,Int.reduceNeg,eq_self,zbp,zbq,zbr,zbs,zbt,zbu,zbv,zbw,zbx,zby,zbz,zca])))
      (rw [wcons]; (((try dsimp only [Fn.init,wpS,wpT,wpTs,wpB,wpI,wpC,wpE,wpEs,biP,zaa,zab,zac,zad,zae,zaf,zag,zah,zai,zaj,zak,zal,zam,zan,zao,zap,zaq,zar,zas,zat,zau,zav,zaw,zax,zay,zaz,zba,zbb,zbc,zbd,zbe,isiV,kindV,kindO,tyN,srcP,ya,yb,yc,yd,List.replicate,ye,yf,yg,yh,yi,yj,Nat.reduceSub,Nat.reduceAdd,Nat.reduceBEq,yk,yl,ym,yn,yw,yx,zbf,zbg,zbh,zbi]); (try simp only [zbj,zaa,zaf,zag,zah,zai,zas,zbb,zbc,zbd,zbe,zab,zac,zad,zae,zbk,zbl,zbm,zbn,zak,zal,zbo,zaj,zam,zan,zao,zap,zaq,zar,zax,zay,zaz,zba,zat,zau,zav,zaw,Nat.reduceBEq,yo,yl,yk,yp,yq,yn,yr,ym,ya,yb,yc,yd,ye,yf,yg,yh,yi,yj,not_true_eq_false,not_false_eq_true,Classical.not_not,decide_true,decide_false,ys,yt,yu,yv,true_and,and_true,ite_true,ite_false,if_true,if_false,yw,yx,yy,yz,Nat.sub_self,Nat.reduceSub,Nat.reduceAdd,Int.reduceToNat,Int.reduceLT,Int.reduceLE,Int.reduceNeg,eq_self,zbp,zbq,zbr,zbs,zbt,zbu,zbv,zbw,zbx,zby,zbz,zca]))))
      rw [if_neg (by omega)]
      simp only [lv_list hp, List.length_map]
      (((try dsimp only [Fn.init,wpS,wpT,wpTs,wpB,wpI,wpC,wpE,wpEs,biP,zaa,zab,zac,zad,zae,zaf,zag,zah,zai,zaj,zak,zal,zam,zan,zao,zap,zaq,zar,zas,zat,zau,zav,zaw,zax,zay,zaz,zba,zbb,zbc,zbd,zbe,isiV,kindV,kindO,tyN,srcP,ya,yb,yc,yd,List.replicate,ye,yf,yg,yh,yi,yj,Nat.reduceSub,Nat.reduceAdd,Nat.reduceBEq,yk,yl,ym,yn,yw,yx,zbf,zbg,zbh,zbi]); (try simp only [zbj,zaa,zaf,zag,zah,zai,zas,zbb,zbc,zbd,zbe,zab,zac,zad,zae,zbk,zbl,zbm,zbn,zak,zal,zbo,zaj,zam,zan,zao,zap,zaq,zar,zax,zay,zaz,zba,zat,zau,zav,zaw,Nat.reduceBEq,yo,yl,yk,yp,yq,yn,yr,ym,ya,yb,yc,yd,ye,yf,yg,yh,yi,yj,not_true_eq_false,not_false_eq_true,Classical.not_not,decide_true,decide_false,ys,yt,yu,yv,true_and,and_true,ite_true,ite_false,if_true,if_false,yw,yx,yy,yz,Nat.sub_self,Nat.reduceSub,Nat.reduceAdd,Int.reduceToNat,Int.reduceLT,Int.reduceLE,Int.reduceNeg,eq_self,zbp,zbq,zbr,zbs,zbt,zbu,zbv,zbw,zbx,zby,zbz,zca])))
      rw [if_neg (by omega)]
      simp only [inV_idict (xx _ _ ht), d4, Option.isSome_some, Option.map_some]
      (((try dsimp only [Fn.init,wpS,wpT,wpTs,wpB,wpI,wpC,wpE,wpEs,biP,zaa,zab,zac,zad,zae,zaf,zag,zah,zai,zaj,zak,zal,zam,zan,zao,zap,zaq,zar,zas,zat,zau,zav,zaw,zax,zay,zaz,zba,zbb,zbc,zbd,zbe,isiV,kindV,kindO,tyN,srcP,ya,yb,yc,yd,List.replicate,ye,yf,yg,yh,yi,yj,Nat.reduceSub,Nat.reduceAdd,Nat.reduceBEq,yk,yl,ym,yn,yw,yx,zbf,zbg,zbh,zbi]); (try simp only [zbj,zaa,zaf,zag,zah,zai,zas,zbb,zbc,zbd,zbe,zab,zac,zad,zae,zbk,zbl,zbm,zbn,zak,zal,zbo,zaj,zam,zan,zao,zap,zaq,zar,zax,zay,zaz,zba,zat,zau,zav,zaw,Nat.reduceBEq,yo,yl,yk,yp,yq,yn,yr,ym,ya,yb,yc,yd,ye,yf,yg,yh,yi,yj,not_true_eq_false,not_false_eq_true,Classical.not_not,decide_true,decide_false,ys,yt,yu,yv,true_and,and_true,ite_true,ite_false,if_true,if_false,yw,yx,yy,yz,Nat.sub_self,Nat.reduceSub,Nat.reduceAdd,Int.reduceToNat,Int.reduceLT,Int.reduceLE,Int.reduceNeg,eq_self,zbp,zbq,zbr,zbs,zbt,zbu,zbv,zbw,zbx,zby,zbz,zca])))
      (rw [wcons]; (((try dsimp only [Fn.init,wpS,wpT,wpTs,wpB,wpI,wpC,wpE,wpEs,biP,zaa,zab,zac,zad,zae,zaf,zag,zah,zai,zaj,zak,zal,zam,zan,zao,zap,zaq,zar,zas,zat,zau,zav,zaw,zax,zay,zaz,zba,zbb,zbc,zbd,zbe,isiV,kindV,kindO,tyN,srcP,ya,yb,yc,yd,List.replicate,ye,yf,yg,yh,yi,yj,Nat.reduceSub,Nat.reduceAdd,Nat.reduceBEq,yk,yl,ym,yn,yw,yx,zbf,zbg,zbh,zbi]); (try simp only [zbj,zaa,zaf,zag,zah,zai,zas,zbb,zbc,zbd,zbe,zab,zac,zad,zae,zbk,zbl,zbm,zbn,zak,zal,zbo,zaj,zam,zan,zao,zap,zaq,zar,zax,zay,zaz,zba,zat,zau,zav,zaw,Nat.reduceBEq,yo,yl,yk,yp,yq,yn,yr,ym,ya,yb,yc,yd,ye,yf,yg,yh,yi,yj,not_true_eq_false,not_false_eq_true,Classical.not_not,decide_true,decide_false,ys,yt,yu,yv,true_and,and_true,ite_true,ite_false,if_true,if_false,yw,yx,yy,yz,Nat.sub_self,Nat.reduceSub,Nat.reduceAdd,Int.reduceToNat,Int.reduceLT,Int.reduceLE,Int.reduceNeg,eq_self,zbp,zbq,zbr,zbs,zbt,zbu,zbv,zbw,zbx,zby,zbz,zca]))))
      refine slice_go hp (slice_d _ d) fun pb h3 n3 x3 hp3 => ?_
      (((try dsimp only [Fn.init,wpS,wpT,wpTs,wpB,wpI,wpC,wpE,wpEs,biP,zaa,zab,zac,zad,zae,zaf,zag,zah,zai,zaj,zak,zal,zam,zan,zao,zap,zaq,zar,zas,zat,zau,zav,zaw,zax,zay,zaz,zba,zbb,zbc,zbd,zbe,isiV,kindV,kindO,tyN,srcP,ya,yb,yc,yd,List.replicate,ye,yf,yg,yh,yi,yj,Nat.reduceSub,Nat.reduceAdd,Nat.reduceBEq,yk,yl,ym,yn,yw,yx,zbf,zbg,zbh,zbi]); (try simp only [zbj,zaa,zaf,zag,zah,zai,zas,zbb,zbc,zbd,zbe,zab,zac,zad,zae,zbk,zbl,zbm,zbn,zak,zal,zbo,zaj,zam,zan,zao,zap,zaq,zar,zax,zay,zaz,zba,zat,zau,zav,zaw,Nat.reduceBEq,yo,yl,yk,yp,yq,yn,yr,ym,ya,yb,yc,yd,ye,yf,yg,yh,yi,yj,not_true_eq_false,not_false_eq_true,Classical.not_not,decide_true,decide_false,ys,yt,yu,yv,true_and,and_true,ite_true,ite_false,if_true,if_false,yw,yx,yy,yz,Nat.sub_self,Nat.reduceSub,Nat.reduceAdd,Int.reduceToNat,Int.reduceLT,Int.reduceLE,Int.reduceNeg,eq_self,zbp,zbq,zbr,zbs,zbt,zbu,zbv,zbw,zbx,zby,zbz,zca])))
      (rw [wcons]; (((try dsimp only [Fn.init,wpS,wpT,wpTs,wpB,wpI,wpC,wpE,wpEs,biP,zaa,zab,zac,zad,zae,zaf,zag,zah,zai,zaj,zak,zal,zam,zan,zao,zap,zaq,zar,zas,zat,zau,zav,zaw,zax,zay,zaz,zba,zbb,zbc,zbd,zbe,isiV,kindV,kindO,tyN,srcP,ya,yb,yc,yd,List.replicate,ye,yf,yg,yh,yi,yj,Nat.reduceSub,Nat.reduceAdd,Nat.reduceBEq,yk,yl,ym,yn,yw,yx,zbf,zbg,zbh,zbi]); (try simp only [zbj,zaa,zaf,zag,zah,zai,zas,zbb,zbc,zbd,zbe,zab,zac,zad,zae,zbk,zbl,zbm,zbn,zak,zal,zbo,zaj,zam,zan,zao,zap,zaq,zar,zax,zay,zaz,zba,zat,zau,zav,zaw,Nat.reduceBEq,yo,yl,yk,yp,yq,yn,yr,ym,ya,yb,yc,yd,ye,yf,yg,yh,yi,yj,not_true_eq_false,not_false_eq_true,Classical.not_not,decide_true,decide_false,ys,yt,yu,yv,true_and,and_true,ite_true,ite_false,if_true,if_false,yw,yx,yy,yz,Nat.sub_self,Nat.reduceSub,Nat.reduceAdd,Int.reduceToNat,Int.reduceLT,Int.reduceLE,Int.reduceNeg,eq_self,zbp,zbq,zbr,zbs,zbt,zbu,zbv,zbw,zbx,zby,zbz,zca]))))
      refine slice_go (x3 _ _ hl) (slice_d _ (d + 1)) fun lb h4 n4 x4 hl4 => ?_
      (((try dsimp only [Fn.init,wpS,wpT,wpTs,wpB,wpI,wpC,wpE,wpEs,biP,zaa,zab,zac,zad,zae,zaf,zag,zah,zai,zaj,zak,zal,zam,zan,zao,zap,zaq,zar,zas,zat,zau,zav,zaw,zax,zay,zaz,zba,zbb,zbc,zbd,zbe,isiV,kindV,kindO,tyN,srcP,ya,yb,yc,yd,List.replicate,ye,yf,yg,yh,yi,yj,Nat.reduceSub,Nat.reduceAdd,Nat.reduceBEq,yk,yl,ym,yn,yw,yx,zbf,zbg,zbh,zbi]); (try simp only [zbj,zaa,zaf,zag,zah,zai,zas,zbb,zbc,zbd,zbe,zab,zac,zad,zae,zbk,zbl,zbm,zbn,zak,zal,zbo,zaj,zam,zan,zao,zap,zaq,zar,zax,zay,zaz,zba,zat,zau,zav,zaw,Nat.reduceBEq,yo,yl,yk,yp,yq,yn,yr,ym,ya,yb,yc,yd,ye,yf,yg,yh,yi,yj,not_true_eq_false,not_false_eq_true,Classical.not_not,decide_true,decide_false,ys,yt,yu,yv,true_and,and_true,ite_true,ite_false,if_true,if_false,yw,yx,yy,yz,Nat.sub_self,Nat.reduceSub,Nat.reduceAdd,Int.reduceToNat,Int.reduceLT,Int.reduceLE,Int.reduceNeg,eq_self,zbp,zbq,zbr,zbs,zbt,zbu,zbv,zbw,zbx,zby,zbz,zca])))
      (rw [wcons]; (((try dsimp only [Fn.init,wpS,wpT,wpTs,wpB,wpI,wpC,wpE,wpEs,biP,zaa,zab,zac,zad,zae,zaf,zag,zah,zai,zaj,zak,zal,zam,zan,zao,zap,zaq,zar,zas,zat,zau,zav,zaw,zax,zay,zaz,zba,zbb,zbc,zbd,zbe,isiV,kindV,kindO,tyN,srcP,ya,yb,yc,yd,List.replicate,ye,yf,yg,yh,yi,yj,Nat.reduceSub,Nat.reduceAdd,Nat.reduceBEq,yk,yl,ym,yn,yw,yx,zbf,zbg,zbh,zbi]); (try simp only [zbj,zaa,zaf,zag,zah,zai,zas,zbb,zbc,zbd,zbe,zab,zac,zad,zae,zbk,zbl,zbm,zbn,zak,zal,zbo,zaj,zam,zan,zao,zap,zaq,zar,zax,zay,zaz,zba,zat,zau,zav,zaw,Nat.reduceBEq,yo,yl,yk,yp,yq,yn,yr,ym,ya,yb,yc,yd,ye,yf,yg,yh,yi,yj,not_true_eq_false,not_false_eq_true,Classical.not_not,decide_true,decide_false,ys,yt,yu,yv,true_and,and_true,ite_true,ite_false,if_true,if_false,yw,yx,yy,yz,Nat.sub_self,Nat.reduceSub,Nat.reduceAdd,Int.reduceToNat,Int.reduceLT,Int.reduceLE,Int.reduceNeg,eq_self,zbp,zbq,zbr,zbs,zbt,zbu,zbv,zbw,zbx,zby,zbz,zca]))))
      obtain ⟨r1, r2, r3⟩ := last_row (l := l) (d := d) (by omega)
      have hp4 := x4 _ _ hp3
      have npl : pb ≠ lb := addr_ne hp3 n4
      have h0lb : h' lb = none := x3.no n4
      have key : ∀ h5, Upd lb h4 h5 → h5 lb = some (.list ((l.take (d + 1) ++ if l.length = d then [0] else []).map .int)) → wpSs X ⟨k + 2, true⟩ ((match f_law_hangs.body with | [_, _, .forr _ _ b, _] => b | _ => []).drop 5) K (fun C x h' => R C h') [some (.ref t), some (.ref F), some (.ref pb), some (.ref lb), some (.tup [.int d, .int f])] h5 := by
        intro h5 up hl5
        simp only [f_law_hangs, List.drop_succ_cons, List.drop_zero]
        have hp5 := up.at hp4 npl
        have x5 : Ext h h5 := fun b o eb => up.at (x4 _ _ (x3 _ _ (xx _ _ eb))) (addr_ne (xx _ _ eb) h0lb)
        have plast : pyIdx ((p.take d).map V.int) (-1) = some (.int v) := by
          rw [pyIdxL, List.getLast?_map, List.getLast?_take]
          rw [if_neg (by omega), hv]; rfl
        have llast : pyIdx ((l.take (d + 1) ++ if l.length = d then [0] else []).map V.int) (d : Int) = some (.int (l[d]?.getD 0)) := by
          rw [pyIdx_nat, List.getElem?_map, r2]; rfl
        (rw [wcons]; (((try dsimp only [Fn.init,wpS,wpT,wpTs,wpB,wpI,wpC,wpE,wpEs,biP,zaa,zab,zac,zad,zae,zaf,zag,zah,zai,zaj,zak,zal,zam,zan,zao,zap,zaq,zar,zas,zat,zau,zav,zaw,zax,zay,zaz,zba,zbb,zbc,zbd,zbe,isiV,kindV,kindO,tyN,srcP,ya,yb,yc,yd,List.replicate,ye,yf,yg,yh,yi,yj,Nat.reduceSub,Nat.reduceAdd,Nat.reduceBEq,yk,yl,ym,yn,yw,yx,zbf,zbg,zbh,zbi]); (try simp only [zbj,zaa,zaf,zag,zah,zai,zas,zbb,zbc,zbd,zbe,zab,zac,zad,zae,zbk,zbl,zbm,zbn,zak,zal,zbo,zaj,zam,zan,zao,zap,zaq,zar,zax,zay,zaz,zba,zat,zau,zav,zaw,Nat.reduceBEq,yo,yl,yk,yp,yq,yn,yr,ym,ya,yb,yc,yd,ye,yf,yg,yh,yi,yj,not_true_eq_false,not_false_eq_true,Classical.not_not,decide_true,decide_false,ys,yt,yu,yv,true_and,and_true,ite_true,ite_false,if_true,if_false,yw,yx,yy,yz,Nat.sub_self,Nat.reduceSub,Nat.reduceAdd,Int.reduceToNat,Int.reduceLT,Int.reduceLE,Int.reduceNeg,eq_self,zbp,zbq,zbr,zbs,zbt,zbu,zbv,zbw,zbx,zby,zbz,zca]))))
        simp only [getV, x5 _ _ ht, dget_iD, d4, Option.map_some, hp5, hl5, List.map_take] at plast ⊢
        simp only [plast, llast]
        (((try dsimp only [Fn.init,wpS,wpT,wpTs,wpB,wpI,wpC,wpE,wpEs,biP,zaa,zab,zac,zad,zae,zaf,zag,zah,zai,zaj,zak,zal,zam,zan,zao,zap,zaq,zar,zas,zat,zau,zav,zaw,zax,zay,zaz,zba,zbb,zbc,zbd,zbe,isiV,kindV,kindO,tyN,srcP,ya,yb,yc,yd,List.replicate,ye,yf,yg,yh,yi,yj,Nat.reduceSub,Nat.reduceAdd,Nat.reduceBEq,yk,yl,ym,yn,yw,yx,zbf,zbg,zbh,zbi]); (try simp only [zbj,zaa,zaf,zag,zah,zai,zas,zbb,zbc,zbd,zbe,zab,zac,zad,zae,zbk,zbl,zbm,zbn,zak,zal,zbo,zaj,zam,zan,zao,zap,zaq,zar,zax,zay,zaz,zba,zat,zau,zav,zaw,Nat.reduceBEq,yo,yl,yk,yp,yq,yn,yr,ym,ya,yb,yc,yd,ye,yf,yg,yh,yi,yj,not_true_eq_false,not_false_eq_true,Classical.not_not,decide_true,decide_false,ys,yt,yu,yv,true_and,and_true,ite_true,ite_false,if_true,if_false,yw,yx,yy,yz,Nat.sub_self,Nat.reduceSub,Nat.reduceAdd,Int.reduceToNat,Int.reduceLT,Int.reduceLE,Int.reduceNeg,eq_self,zbp,zbq,zbr,zbs,zbt,zbu,zbv,zbw,zbx,zby,zbz,zca])))
        rw [if_neg (by omega)]
        (((try dsimp only [Fn.init,wpS,wpT,wpTs,wpB,wpI,wpC,wpE,wpEs,biP,zaa,zab,zac,zad,zae,zaf,zag,zah,zai,zaj,zak,zal,zam,zan,zao,zap,zaq,zar,zas,zat,zau,zav,zaw,zax,zay,zaz,zba,zbb,zbc,zbd,zbe,isiV,kindV,kindO,tyN,srcP,ya,yb,yc,yd,List.replicate,ye,yf,yg,yh,yi,yj,Nat.reduceSub,Nat.reduceAdd,Nat.reduceBEq,yk,yl,ym,yn,yw,yx,zbf,zbg,zbh,zbi]); (try simp only [zbj,zaa,zaf,zag,zah,zai,zas,zbb,zbc,zbd,zbe,zab,zac,zad,zae,zbk,zbl,zbm,zbn,zak,zal,zbo,zaj,zam,zan,zao,zap,zaq,zar,zax,zay,zaz,zba,zat,zau,zav,zaw,Nat.reduceBEq,yo,yl,yk,yp,yq,yn,yr,ym,ya,yb,yc,yd,ye,yf,yg,yh,yi,yj,not_true_eq_false,not_false_eq_true,Classical.not_not,decide_true,decide_false,ys,yt,yu,yv,true_and,and_true,ite_true,ite_false,if_true,if_false,yw,yx,yy,yz,Nat.sub_self,Nat.reduceSub,Nat.reduceAdd,Int.reduceToNat,Int.reduceLT,Int.reduceLE,Int.reduceNeg,eq_self,zbp,zbq,zbr,zbs,zbt,zbu,zbv,zbw,zbx,zby,zbz,zca])))
        (rw [wcons]; (((try dsimp only [Fn.init,wpS,wpT,wpTs,wpB,wpI,wpC,wpE,wpEs,biP,zaa,zab,zac,zad,zae,zaf,zag,zah,zai,zaj,zak,zal,zam,zan,zao,zap,zaq,zar,zas,zat,zau,zav,zaw,zax,zay,zaz,zba,zbb,zbc,zbd,zbe,isiV,kindV,kindO,tyN,srcP,ya,yb,yc,yd,List.replicate,ye,yf,yg,yh,yi,yj,Nat.reduceSub,Nat.reduceAdd,Nat.reduceBEq,yk,yl,ym,yn,yw,yx,zbf,zbg,zbh,zbi]); (try simp only [zbj,zaa,zaf,zag,zah,zai,zas,zbb,zbc,zbd,zbe,zab,zac,zad,zae,zbk,zbl,zbm,zbn,zak,zal,zbo,zaj,zam,zan,zao,zap,zaq,zar,zax,zay,zaz,zba,zat,zau,zav,zaw,Nat.reduceBEq,yo,yl,yk,yp,yq,yn,yr,ym,ya,yb,yc,yd,ye,yf,yg,yh,yi,yj,not_true_eq_false,not_false_eq_true,Classical.not_not,decide_true,decide_false,ys,yt,yu,yv,true_and,and_true,ite_true,ite_false,if_true,if_false,yw,yx,yy,yz,Nat.sub_self,Nat.reduceSub,Nat.reduceAdd,Int.reduceToNat,Int.reduceLT,Int.reduceLE,Int.reduceNeg,eq_self,zbp,zbq,zbr,zbs,zbt,zbu,zbv,zbw,zbx,zby,zbz,zca]))))
        simp only [setP, hl5]
        refine ⟨⟨by omega, by rw [List.length_map, r1]; omega⟩, ?_⟩
        rw [Int.toNat_natCast, ← List.map_set, r3]
        (((try dsimp only [Fn.init,wpS,wpT,wpTs,wpB,wpI,wpC,wpE,wpEs,biP,zaa,zab,zac,zad,zae,zaf,zag,zah,zai,zaj,zak,zal,zam,zan,zao,zap,zaq,zar,zas,zat,zau,zav,zaw,zax,zay,zaz,zba,zbb,zbc,zbd,zbe,isiV,kindV,kindO,tyN,srcP,ya,yb,yc,yd,List.replicate,ye,yf,yg,yh,yi,yj,Nat.reduceSub,Nat.reduceAdd,Nat.reduceBEq,yk,yl,ym,yn,yw,yx,zbf,zbg,zbh,zbi]); (try simp only [zbj,zaa,zaf,zag,zah,zai,zas,zbb,zbc,zbd,zbe,zab,zac,zad,zae,zbk,zbl,zbm,zbn,zak,zal,zbo,zaj,zam,zan,zao,zap,zaq,zar,zax,zay,zaz,zba,zat,zau,zav,zaw,Nat.reduceBEq,yo,yl,yk,yp,yq,yn,yr,ym,ya,yb,yc,yd,ye,yf,yg,yh,yi,yj,not_true_eq_false,not_false_eq_true,Classical.not_not,decide_true,decide_false,ys,yt,yu,yv,true_and,and_true,ite_true,ite_false,if_true,if_false,yw,yx,yy,yz,Nat.sub_self,Nat.reduceSub,Nat.reduceAdd,Int.reduceToNat,Int.reduceLT,Int.reduceLE,Int.reduceNeg,eq_self,zbp,zbq,zbr,zbs,zbt,zbu,zbv,zbw,zbx,zby,zbz,zca])))
        (rw [wcons]; (((try dsimp only [Fn.init,wpS,wpT,wpTs,wpB,wpI,wpC,wpE,wpEs,biP,zaa,zab,zac,zad,zae,zaf,zag,zah,zai,zaj,zak,zal,zam,zan,zao,zap,zaq,zar,zas,zat,zau,zav,zaw,zax,zay,zaz,zba,zbb,zbc,zbd,zbe,isiV,kindV,kindO,tyN,srcP,ya,yb,yc,yd,List.replicate,ye,yf,yg,yh,yi,yj,Nat.reduceSub,Nat.reduceAdd,Nat.reduceBEq,yk,yl,ym,yn,yw,yx,zbf,zbg,zbh,zbi]); (try simp only [zbj,zaa,zaf,zag,zah,zai,zas,zbb,zbc,zbd,zbe,zab,zac,zad,zae,zbk,zbl,zbm,zbn,zak,zal,zbo,zaj,zam,zan,zao,zap,zaq,zar,zax,zay,zaz,zba,zat,zau,zav,zaw,Nat.reduceBEq,yo,yl,yk,yp,yq,yn,yr,ym,ya,yb,yc,yd,ye,yf,yg,yh,yi,yj,not_true_eq_false,not_false_eq_true,Classical.not_not,decide_true,decide_false,ys,yt,yu,yv,true_and,and_true,ite_true,ite_false,if_true,if_false,yw,yx,yy,yz,Nat.sub_self,Nat.reduceSub,Nat.reduceAdd,Int.reduceToNat,Int.reduceLT,Int.reduceLE,Int.reduceNeg,eq_self,zbp,zbq,zbr,zbs,zbt,zbu,zbv,zbw,zbx,zby,zbz,zca]))))
        have hp6 : (h5.put lb (.list ((l.take d ++ [f]).map .int))) pb = some (.list ((p.take d).map .int)) := by rw [put_ne _ npl, hp5, List.map_take]
        refine ⟨bk_append hp6, append_go hp6 (by rw [List.length_map, List.length_take]; unfold small; omega) fun h6 up6 hp7 => ?_⟩
        (((try dsimp only [Fn.init,wpS,wpT,wpTs,wpB,wpI,wpC,wpE,wpEs,biP,zaa,zab,zac,zad,zae,zaf,zag,zah,zai,zaj,zak,zal,zam,zan,zao,zap,zaq,zar,zas,zat,zau,zav,zaw,zax,zay,zaz,zba,zbb,zbc,zbd,zbe,isiV,kindV,kindO,tyN,srcP,ya,yb,yc,yd,List.replicate,ye,yf,yg,yh,yi,yj,Nat.reduceSub,Nat.reduceAdd,Nat.reduceBEq,yk,yl,ym,yn,yw,yx,zbf,zbg,zbh,zbi]); (try simp only [zbj,zaa,zaf,zag,zah,zai,zas,zbb,zbc,zbd,zbe,zab,zac,zad,zae,zbk,zbl,zbm,zbn,zak,zal,zbo,zaj,zam,zan,zao,zap,zaq,zar,zax,zay,zaz,zba,zat,zau,zav,zaw,Nat.reduceBEq,yo,yl,yk,yp,yq,yn,yr,ym,ya,yb,yc,yd,ye,yf,yg,yh,yi,yj,not_true_eq_false,not_false_eq_true,Classical.not_not,decide_true,decide_false,ys,yt,yu,yv,true_and,and_true,ite_true,ite_false,if_true,if_false,yw,yx,yy,yz,Nat.sub_self,Nat.reduceSub,Nat.reduceAdd,Int.reduceToNat,Int.reduceLT,Int.reduceLE,Int.reduceNeg,eq_self,zbp,zbq,zbr,zbs,zbt,zbu,zbv,zbw,zbx,zby,zbz,zca])))
        refine hK _ _ ⟨rest, p.take d ++ [f], l.take d ++ [f], pb, lb, _, rfl, ok, ?_, up6.at (put_self ..) (Ne.symm npl), ?_, fun b o eb => up6.at (by rw [put_ne _ (addr_ne (xx _ _ eb) h0lb)]; exact x5 _ _ eb) (addr_ne (xx _ _ eb) n3), rfl⟩
        · rw [hp7, List.map_append]; rfl
        · simp only [List.length_append, List.length_take, List.length_cons, List.length_nil]; omega
      simp only [f_law_hangs, List.drop_succ_cons, List.drop_zero] at key
      simp only [lv_list hl4, List.length_take, List.length_map]
      (((try dsimp only [Fn.init,wpS,wpT,wpTs,wpB,wpI,wpC,wpE,wpEs,biP,zaa,zab,zac,zad,zae,zaf,zag,zah,zai,zaj,zak,zal,zam,zan,zao,zap,zaq,zar,zas,zat,zau,zav,zaw,zax,zay,zaz,zba,zbb,zbc,zbd,zbe,isiV,kindV,kindO,tyN,srcP,ya,yb,yc,yd,List.replicate,ye,yf,yg,yh,yi,yj,Nat.reduceSub,Nat.reduceAdd,Nat.reduceBEq,yk,yl,ym,yn,yw,yx,zbf,zbg,zbh,zbi]); (try simp only [zbj,zaa,zaf,zag,zah,zai,zas,zbb,zbc,zbd,zbe,zab,zac,zad,zae,zbk,zbl,zbm,zbn,zak,zal,zbo,zaj,zam,zan,zao,zap,zaq,zar,zax,zay,zaz,zba,zat,zau,zav,zaw,Nat.reduceBEq,yo,yl,yk,yp,yq,yn,yr,ym,ya,yb,yc,yd,ye,yf,yg,yh,yi,yj,not_true_eq_false,not_false_eq_true,Classical.not_not,decide_true,decide_false,ys,yt,yu,yv,true_and,and_true,ite_true,ite_false,if_true,if_false,yw,yx,yy,yz,Nat.sub_self,Nat.reduceSub,Nat.reduceAdd,Int.reduceToNat,Int.reduceLT,Int.reduceLE,Int.reduceNeg,eq_self,zbp,zbq,zbr,zbs,zbt,zbu,zbv,zbw,zbx,zby,zbz,zca])))
      by_cases ed : l.length = d
      · rw [if_pos (by omega)]
        (rw [wcons]; (((try dsimp only [Fn.init,wpS,wpT,wpTs,wpB,wpI,wpC,wpE,wpEs,biP,zaa,zab,zac,zad,zae,zaf,zag,zah,zai,zaj,zak,zal,zam,zan,zao,zap,zaq,zar,zas,zat,zau,zav,zaw,zax,zay,zaz,zba,zbb,zbc,zbd,zbe,isiV,kindV,kindO,tyN,srcP,ya,yb,yc,yd,List.replicate,ye,yf,yg,yh,yi,yj,Nat.reduceSub,Nat.reduceAdd,Nat.reduceBEq,yk,yl,ym,yn,yw,yx,zbf,zbg,zbh,zbi]); (try simp only [zbj,zaa,zaf,zag,zah,zai,zas,zbb,zbc,zbd,zbe,zab,zac,zad,zae,zbk,zbl,zbm,zbn,zak,zal,zbo,zaj,zam,zan,zao,zap,zaq,zar,zax,zay,zaz,zba,zat,zau,zav,zaw,Nat.reduceBEq,yo,yl,yk,yp,yq,yn,yr,ym,ya,yb,yc,yd,ye,yf,yg,yh,yi,yj,not_true_eq_false,not_false_eq_true,Classical.not_not,decide_true,decide_false,ys,yt,yu,yv,true_and,and_true,ite_true,ite_false,if_true,if_false,yw,yx,yy,yz,Nat.sub_self,Nat.reduceSub,Nat.reduceAdd,Int.reduceToNat,Int.reduceLT,Int.reduceLE,Int.reduceNeg,eq_self,zbp,zbq,zbr,zbs,zbt,zbu,zbv,zbw,zbx,zby,zbz,zca]))))
        refine ⟨bk_append hl4, append_go hl4 (by rw [List.length_take, List.length_map]; unfold small; omega) fun h5 up hl5 => ?_⟩
        (((try dsimp only [Fn.init,wpS,wpT,wpTs,wpB,wpI,wpC,wpE,wpEs,biP,zaa,zab,zac,zad,zae,zaf,zag,zah,zai,zaj,zak,zal,zam,zan,zao,zap,zaq,zar,zas,zat,zau,zav,zaw,zax,zay,zaz,zba,zbb,zbc,zbd,zbe,isiV,kindV,kindO,tyN,srcP,ya,yb,yc,yd,List.replicate,ye,yf,yg,yh,yi,yj,Nat.reduceSub,Nat.reduceAdd,Nat.reduceBEq,yk,yl,ym,yn,yw,yx,zbf,zbg,zbh,zbi]); (try simp only [zbj,zaa,zaf,zag,zah,zai,zas,zbb,zbc,zbd,zbe,zab,zac,zad,zae,zbk,zbl,zbm,zbn,zak,zal,zbo,zaj,zam,zan,zao,zap,zaq,zar,zax,zay,zaz,zba,zat,zau,zav,zaw,Nat.reduceBEq,yo,yl,yk,yp,yq,yn,yr,ym,ya,yb,yc,yd,ye,yf,yg,yh,yi,yj,not_true_eq_false,not_false_eq_true,Classical.not_not,decide_true,decide_false,ys,yt,yu,yv,true_and,and_true,ite_true,ite_false,if_true,if_false,yw,yx,yy,yz,Nat.sub_self,Nat.reduceSub,Nat.reduceAdd,Int.reduceToNat,Int.reduceLT,Int.reduceLE,Int.reduceNeg,eq_self,zbp,zbq,zbr,zbs,zbt,zbu,zbv,zbw,zbx,zby,zbz,zca])))
        refine key h5 up ?_
        rw [hl5, if_pos ed, List.map_append, List.map_take]; rfl
      · rw [if_neg (by omega)]
        (((try dsimp only [Fn.init,wpS,wpT,wpTs,wpB,wpI,wpC,wpE,wpEs,biP,zaa,zab,zac,zad,zae,zaf,zag,zah,zai,zaj,zak,zal,zam,zan,zao,zap,zaq,zar,zas,zat,zau,zav,zaw,zax,zay,zaz,zba,zbb,zbc,zbd,zbe,isiV,kindV,kindO,tyN,srcP,ya,yb,yc,yd,List.replicate,ye,yf,yg,yh,yi,yj,Nat.reduceSub,Nat.reduceAdd,Nat.reduceBEq,yk,yl,ym,yn,yw,yx,zbf,zbg,zbh,zbi]); (try simp only [zbj,zaa,zaf,zag,zah,zai,zas,zbb,zbc,zbd,zbe,zab,zac,zad,zae,zbk,zbl,zbm,zbn,zak,zal,zbo,zaj,zam,zan,zao,zap,zaq,zar,zax,zay,zaz,zba,zat,zau,zav,zaw,Nat.reduceBEq,yo,yl,yk,yp,yq,yn,yr,ym,ya,yb,yc,yd,ye,yf,yg,yh,yi,yj,not_true_eq_false,not_false_eq_true,Classical.not_not,decide_true,decide_false,ys,yt,yu,yv,true_and,and_true,ite_true,ite_false,if_true,if_false,yw,yx,yy,yz,Nat.sub_self,Nat.reduceSub,Nat.reduceAdd,Int.reduceToNat,Int.reduceLT,Int.reduceLE,Int.reduceNeg,eq_self,zbp,zbq,zbr,zbs,zbt,zbu,zbv,zbw,zbx,zby,zbz,zca])))
        refine key h4 (fun _ _ => rfl) ?_
        rw [hl4, if_neg ed, List.append_nil, List.map_take]
  · rintro fr h' ⟨rest, p, l, pa, la, o, ev, ok, hp, hl, hz, xx, rfl⟩
    (((try dsimp only [Fn.init,wpS,wpT,wpTs,wpB,wpI,wpC,wpE,wpEs,biP,zaa,zab,zac,zad,zae,zaf,zag,zah,zai,zaj,zak,zal,zam,zan,zao,zap,zaq,zar,zas,zat,zau,zav,zaw,zax,zay,zaz,zba,zbb,zbc,zbd,zbe,isiV,kindV,kindO,tyN,srcP,ya,yb,yc,yd,List.replicate,ye,yf,yg,yh,yi,yj,Nat.reduceSub,Nat.reduceAdd,Nat.reduceBEq,yk,yl,ym,yn,yw,yx,zbf,zbg,zbh,zbi]); (try simp only [zbj,zaa,zaf,zag,zah,zai,zas,zbb,zbc,zbd,zbe,zab,zac,zad,zae,zbk,zbl,zbm,zbn,zak,zal,zbo,zaj,zam,zan,zao,zap,zaq,zar,zax,zay,zaz,zba,zat,zau,zav,zaw,Nat.reduceBEq,yo,yl,yk,yp,yq,yn,yr,ym,ya,yb,yc,yd,ye,yf,yg,yh,yi,yj,not_true_eq_false,not_false_eq_true,Classical.not_not,decide_true,decide_false,ys,yt,yu,yv,true_and,and_true,ite_true,ite_false,if_true,if_false,yw,yx,yy,yz,Nat.sub_self,Nat.reduceSub,Nat.reduceAdd,Int.reduceToNat,Int.reduceLT,Int.reduceLE,Int.reduceNeg,eq_self,zbp,zbq,zbr,zbs,zbt,zbu,zbv,zbw,zbx,zby,zbz,zca])))
    (rw [wcons]; (((try dsimp only [Fn.init,wpS,wpT,wpTs,wpB,wpI,wpC,wpE,wpEs,biP,zaa,zab,zac,zad,zae,zaf,zag,zah,zai,zaj,zak,zal,zam,zan,zao,zap,zaq,zar,zas,zat,zau,zav,zaw,zax,zay,zaz,zba,zbb,zbc,zbd,zbe,isiV,kindV,kindO,tyN,srcP,ya,yb,yc,yd,List.replicate,ye,yf,yg,yh,yi,yj,Nat.reduceSub,Nat.reduceAdd,Nat.reduceBEq,yk,yl,ym,yn,yw,yx,zbf,zbg,zbh,zbi]); (try simp only [zbj,zaa,zaf,zag,zah,zai,zas,zbb,zbc,zbd,zbe,zab,zac,zad,zae,zbk,zbl,zbm,zbn,zak,zal,zbo,zaj,zam,zan,zao,zap,zaq,zar,zax,zay,zaz,zba,zat,zau,zav,zaw,Nat.reduceBEq,yo,yl,yk,yp,yq,yn,yr,ym,ya,yb,yc,yd,ye,yf,yg,yh,yi,yj,not_true_eq_false,not_false_eq_true,Classical.not_not,decide_true,decide_false,ys,yt,yu,yv,true_and,and_true,ite_true,ite_false,if_true,if_false,yw,yx,yy,yz,Nat.sub_self,Nat.reduceSub,Nat.reduceAdd,Int.reduceToNat,Int.reduceLT,Int.reduceLE,Int.reduceNeg,eq_self,zbp,zbq,zbr,zbs,zbt,zbu,zbv,zbw,zbx,zby,zbz,zca]))))
    exact q h' xx
end
end Mine.L04

namespace Mine.L04
open PySem PySem.W PyProof.Rows


theorem compFX {C : V → AH → (Bool → AH → Prop) → Prop} {F : V → AH → (V → AH → Prop) → Prop} {g : Guard} {Q : List V → AH → Prop} {h0 : AH} (p : V → Bool) (hg : ∀ h', Ext h0 h' → g.ok h') : ∀ {vs acc : List V} {h : AH}, Ext h0 h → (∀ v ∈ vs, ∀ h' K, Ext h0 h' → (∀ h'', Ext h0 h'' → K (p v) h'') → C v h' K) → (∀ v ∈ vs, ∀ h' K, K v h' → F v h' K) → (∀ h', Ext h0 h' → Q (acc ++ vs.filter p) h') → loopC C F g vs acc h Q
  | [], acc, h, x, hC, hF, q => ⟨hg _ x, by have := q h x; rwa [List.filter_nil, List.append_nil] at this⟩
  | v :: vs, acc, h, x, hC, hF, q => ⟨hg _ x, hC v (.head _) _ _ x fun h2 x2 => by
      have ih : ∀ acc, (∀ h', Ext h0 h' → Q (acc ++ vs.filter p) h') → loopC C F g vs acc h2 Q := fun acc q => compFX p hg x2 (fun u hu => hC u (.tail _ hu)) (fun u hu => hF u (.tail _ hu)) q
      cases e : p v with
      | true => rw [if_pos rfl]; exact hF v (.head _) _ _ (ih _ fun h' x' => by have := q h' x'; rw [List.filter_cons_of_pos e] at this; rwa [List.append_assoc])
      | false => rw [if_neg Bool.false_ne_true]; exact ih _ fun h' x' => by have := q h' x'; rwa [List.filter_cons_of_neg (by rw [e]; exact Bool.false_ne_true)] at this⟩
theorem eqv_rowsV {h : AH} {n : Nat} {a b : Addr} {rows : List (Nat × Int)} (ha : h a = some (.list (rows.map rowV))) (hb : h b = some (.list (rows.map rowV))) : eqv h (n + 3) (.ref a) (.ref b) = some true := by
  unfold eqv
  simp only [ha, hb, if_true]
  refine eqL_refl fun x hx => ?_
  obtain ⟨r, _, rfl⟩ := List.mem_map.mp hx
  unfold rowV eqv
  simp only [eqL, eqv_int, decide_true, Bool.and_true]

/-- the folders that hang on the top -/
noncomputable def hang (m : IM) : List Int := (m.map (·.1)).filter fun k => decide (top m k = 0)
noncomputable def pH (m : IM) : V → Bool
  | .int k => decide (top m k = 0)
  | _ => false
theorem hang_map (m : IM) : (((iD m).map fun kv => V.int kv.1)).filter (pH m) = (hang m).map .int := by
  rw [iD_keys, List.filter_map]; rfl
theorem sortI_eq {a b : List Int} (h : a.Perm b) : sortI a = sortI b :=
  (((sortI_perm a).trans h).trans (sortI_perm b).symm).eq_of_pairwise (fun x y _ _ p q => Int.le_antisymm p q) (sortI_sorted a) (sortI_sorted b)
theorem sortI_lt {l : List Int} (h : l.Nodup) : (sortI l).Pairwise (· < ·) := by
  have h1 := sortI_sorted l
  have h2 : (sortI l).Nodup := (sortI_perm l).nodup_iff.mpr h
  exact (h1.and h2).imp fun {a b} q => by omega
section
variable {c : Int} {n : Nat} {m : IM}
theorem ks_ch (hn : n ≤ 390) (t : TreeOk c n m) : ChOk m (chL m (sortI (m.map (·.1)))) :=
  t.chOk (by omega) (sortI_lt t.2.2) fun k => (sortI_perm _).mem_iff
theorem rows_hang (hn : n ≤ 390) (t : TreeOk c n m) : ((rowsAll (chL m (sortI (m.map (·.1)))) n).map (·.2)).Perm (hang m) := by
  have C := ks_ch hn t
  have E := t.ends hn
  unfold hang
  rw [List.perm_ext_iff_of_nodup (rows_nodup C E) (List.Pairwise.filter _ t.2.2)]
  intro x
  rw [rows_ids C E (t.zero (by omega)) (t.ht0 (by omega)), List.mem_filter]
  constructor
  · rintro ⟨⟨y, hy⟩, h0⟩
    exact ⟨List.mem_map.mpr ⟨_, mget_mem hy, rfl⟩, decide_eq_true h0⟩
  · rintro ⟨hx, h0⟩
    exact ⟨mem_keys hx, of_decide_eq_true h0⟩
theorem rows_len (hn : n ≤ 390) (t : TreeOk c n m) : (rowsAll (chL m (sortI (m.map (·.1)))) n).length = (hang m).length := by
  have := (rows_hang hn t).length_eq
  rwa [List.length_map] at this
theorem hang_le : (hang m).length ≤ m.length := by
  unfold hang
  exact Nat.le_trans (List.length_filter_le ..) (by simp)
end
structure Defs (X : Ctx) : Prop where
  G : X.Good
  children : X.Def "children" f_children
  rows : X.Def "rows" f_rows
  whole : X.Def "_law_whole" fWhole
  cell : X.Def "_law_cell_at" fCell
  name : X.Def "_law_name" fName
  tree : X.Def "_law_tree" f_law_tree
  pick : X.Def "_law_pick" f_law_pick
  way : X.Def "_law_way" (fWay "_law_tree_here" "_law_folder" "_law_way_here")
  nums : X.Def "_law_numbers" fNumbers
  same : X.Def "_law_same_tree" fSame
  hangs : X.Def "_law_hangs" f_law_hangs
  law : X.Def "law" f_law
section
variable {X : Ctx}
theorem ss_kids {k : Nat} {K : QS} {R : RS} {fr : Fm} {h : AH} {i a j : Nat} {t : Addr} {e : Nat} {m : IM} {f : Int} {E : Ex} (hi : fr[a]? = some (some (.ref t))) (haj : j ≠ a) (hj : j < fr.length) (ht : h t = some (.idict (iD m) e)) (hm : m.length < 128)
    (hE : ∀ v h' (K : V → AH → Prop), K (.int f) h' → wpE X ⟨k, true⟩ (fun _ _ => False) E (fr.set j (some v)) K h')
    (q : ∀ b h1, h b = none → Ext h h1 → h1 b = some (.list ((sortI (kids m f)).map .int)) → K .next (fr.set i (some (.ref b))) h1) :
    wpS X ⟨k, true⟩ (.assign i (.bi .sorted [.comp j (.var a) [(.cmp .Eq (.sub (.var a) (.var j)) E)] (.var j)])) K R fr h := by
  refine show wpE X ⟨k, true⟩ _ (.comp j (.var a) [(.cmp .Eq (.sub (.var a) (.var j)) E)] (.var j)) fr (fun x h1 => true = true ∧ biP .sorted [x] h1 fun v h2 => K .next (fr.set i (some v)) h2) h from ?_
  refine comp_kids hi haj hj ht hE fun b h1 n1 y1 hb => ?_
  refine ⟨rfl, sorted_go hb (Nat.lt_of_le_of_lt kids_length hm) fun b2 h2 n2 y2 hb2 => ?_⟩
  exact q b2 h2 (y1.no n2) (y1.trans y2) hb2
theorem ss_hang (D : Defs X) {K : QS} {R : RS} {fr : Fm} {h : AH} {i a j : Nat} {t : Addr} {e : Nat} {m : IM} {c : Int} {n : Nat} (hi : fr[a]? = some (some (.ref t))) (haj : j ≠ a) (hj : j < fr.length) (ht : h t = some (.idict (iD m) e)) (hn : n ≤ 390) (T : TreeOk c n m)
    (q : ∀ b h1, h b = none → Ext h h1 → h1 b = some (.list ((hang m).map .int)) → K .next (fr.set i (some (.ref b))) h1) :
    wpS X ⟨4, true⟩ (.assign i (.comp j (.var a) [(.cmp .Eq (.sub (.callf "_law_way" [.var a, .var j]) (.neg (.lit (.int 1)))) (.lit (.int 0)))] (.var j))) K R fr h := by
  dsimp only [wpS, wpE, wpI]
  rw [hi]
  dsimp only [srcP]
  rw [ht]
  dsimp only
  have hv : ∀ v : V, (fr.set j (some v))[j]? = some (some v) := fun v => by rw [List.getElem?_set_self hj]
  have ha : ∀ v : V, (fr.set j (some v))[a]? = some (some (.ref t)) := fun v => by rw [List.getElem?_set_ne haj, hi]
  refine ⟨rfl, compFX (h0 := h) (pH m) (fun h' x => x _ _ ht) .refl (fun v hv' h' K x hK => ?_) (fun v hv' h' K hK => ?_) fun h1 x1 => new_go fun b h2 n2 y2 hb => ?_⟩
  · rw [iD_keys] at hv'
    obtain ⟨z, hz, rfl⟩ := List.mem_map.mp hv'
    obtain ⟨u, hu⟩ := mem_keys hz
    dsimp only [wpC, wpT, wpE, wpEs]
    refine ⟨rfl, D.way.some, ?_⟩
    rw [ha, hv]
    have he : ends m 401 z := by
      unfold ends; rw [hu]; exact T.ends hn z u hu
    refine ⟨rfl, 3, rfl, c_way D.G D.way (x _ _ ht) he (by omega) fun w h2 nw x2 hw => ?_⟩
    have lst : pyIdx ((wayL m 401 z).map V.int) (-1) = some (.int (top m z)) := by
      rw [pyIdxL, List.getLast?_map, List.getLast?_eq_some_getLast wayL_ne]; rfl
    show (match getV h2 (.ref w) (.int (-1)) with | some v => _ | none => False)
    rw [gv_list hw, lst]
    show (match cmpV h2 .Eq (.int (top m z)) (.int 0) with | some r => _ | none => False)
    rw [zbk]
    exact hK _ (x.trans x2)
  · rw [hv]
    exact hK
  · rw [List.nil_append, hang_map] at hb
    exact q b h2 (x1.no n2) (x1.trans y2) hb
theorem tree_one {c : Int} : TreeOk c 1 [(nm c 0, 0)] := by
  refine ⟨fun p hp => ⟨0, by omega, ?_⟩, by simp, by simp⟩
  have : p = (nm c 0, 0) := by simpa using hp
  subst this
  exact ⟨rfl, .inl rfl⟩
noncomputable def sndV : V → V
  | .tup [_, y] => y
  | v => v
theorem rows_one {c : Int} : rowsAll (chL [(nm c 0, 0)] (sortI (([(nm c 0, (0 : Int))] : IM).map (·.1)))) 1 = [(1, nm c 0)] := by
  have p := nm_pos (c := c) (k := 0) (by omega) (by omega)
  have e1 : mget [(nm c 0, 0)] (nm c 0) = some 0 := by simp [mget]
  have e2 : sortI (([(nm c 0, (0 : Int))] : IM).map (·.1)) = [nm c 0] := rfl
  have e3 : chL [(nm c 0, 0)] [nm c 0] 0 = [nm c 0] := by simp [chL, e1]
  have e4 : chL [(nm c 0, 0)] [nm c 0] (nm c 0) = [] := by
    simp [chL, e1]; omega
  unfold rowsAll
  rw [e2, e3]
  simp [pre, e4]
theorem law_rest (D : Defs X) {h : AH} {L : Addr} {ns : List Int} {n : Nat} {w : Bool} {K : QS} {Rs : RS} (hL : h L = some (.flist (ns.map .int))) (hn : n ≤ 68) (q : ∀ fr h', K (.ret (.bool true)) fr h') :
    wpSs X ⟨4, true⟩ (f_law.body.drop 3) K Rs [some (.ref L), some (.int n), some (.bool w), none, none, none, none, none, none, none, none, none, none, none, none, none, none] h := by
  simp only [f_law, List.drop_succ_cons, List.drop_zero]
  (rw [wcons]; (((try dsimp only [Fn.init,wpS,wpT,wpTs,wpB,wpI,wpC,wpE,wpEs,biP,zaa,zab,zac,zad,zae,zaf,zag,zah,zai,zaj,zak,zal,zam,zan,zao,zap,zaq,zar,zas,zat,zau,zav,zaw,zax,zay,zaz,zba,zbb,zbc,zbd,zbe,isiV,kindV,kindO,tyN,srcP,ya,yb,yc,yd,List.replicate,ye,yf,yg,yh,yi,yj,Nat.reduceSub,Nat.reduceAdd,Nat.reduceBEq,yk,yl,ym,yn,yw,yx,zbf,zbg,zbh,zbi]); (try simp only [zbj,zaa,zaf,zag,zah,zai,zas,zbb,zbc,zbd,zbe,zab,zac,zad,zae,zbk,zbl,zbm,zbn,zak,zal,zbo,zaj,zam,zan,zao,zap,zaq,zar,zax,zay,zaz,zba,zat,zau,zav,zaw,Nat.reduceBEq,yo,yl,yk,yp,yq,yn,yr,ym,ya,yb,yc,yd,ye,yf,yg,yh,yi,yj,not_true_eq_false,not_false_eq_true,Classical.not_not,decide_true,decide_false,ys,yt,yu,yv,true_and,and_true,ite_true,ite_false,if_true,if_false,yw,yx,yy,yz,Nat.sub_self,Nat.reduceSub,Nat.reduceAdd,Int.reduceToNat,Int.reduceLT,Int.reduceLE,Int.reduceNeg,eq_self,zbp,zbq,zbr,zbs,zbt,zbu,zbv,zbw,zbx,zby,zbz,zca]))))
  refine ⟨D.cell.some, _, rfl, c_cell D.G D.cell hL (by decide) ?_⟩
  generalize cellAt ns (Int.toNat 1) = c
  (((try dsimp only [Fn.init,wpS,wpT,wpTs,wpB,wpI,wpC,wpE,wpEs,biP,zaa,zab,zac,zad,zae,zaf,zag,zah,zai,zaj,zak,zal,zam,zan,zao,zap,zaq,zar,zas,zat,zau,zav,zaw,zax,zay,zaz,zba,zbb,zbc,zbd,zbe,isiV,kindV,kindO,tyN,srcP,ya,yb,yc,yd,List.replicate,ye,yf,yg,yh,yi,yj,Nat.reduceSub,Nat.reduceAdd,Nat.reduceBEq,yk,yl,ym,yn,yw,yx,zbf,zbg,zbh,zbi]); (try simp only [zbj,zaa,zaf,zag,zah,zai,zas,zbb,zbc,zbd,zbe,zab,zac,zad,zae,zbk,zbl,zbm,zbn,zak,zal,zbo,zaj,zam,zan,zao,zap,zaq,zar,zax,zay,zaz,zba,zat,zau,zav,zaw,Nat.reduceBEq,yo,yl,yk,yp,yq,yn,yr,ym,ya,yb,yc,yd,ye,yf,yg,yh,yi,yj,not_true_eq_false,not_false_eq_true,Classical.not_not,decide_true,decide_false,ys,yt,yu,yv,true_and,and_true,ite_true,ite_false,if_true,if_false,yw,yx,yy,yz,Nat.sub_self,Nat.reduceSub,Nat.reduceAdd,Int.reduceToNat,Int.reduceLT,Int.reduceLE,Int.reduceNeg,eq_self,zbp,zbq,zbr,zbs,zbt,zbu,zbv,zbw,zbx,zby,zbz,zca])))
  (rw [wcons]; (((try dsimp only [Fn.init,wpS,wpT,wpTs,wpB,wpI,wpC,wpE,wpEs,biP,zaa,zab,zac,zad,zae,zaf,zag,zah,zai,zaj,zak,zal,zam,zan,zao,zap,zaq,zar,zas,zat,zau,zav,zaw,zax,zay,zaz,zba,zbb,zbc,zbd,zbe,isiV,kindV,kindO,tyN,srcP,ya,yb,yc,yd,List.replicate,ye,yf,yg,yh,yi,yj,Nat.reduceSub,Nat.reduceAdd,Nat.reduceBEq,yk,yl,ym,yn,yw,yx,zbf,zbg,zbh,zbi]); (try simp only [zbj,zaa,zaf,zag,zah,zai,zas,zbb,zbc,zbd,zbe,zab,zac,zad,zae,zbk,zbl,zbm,zbn,zak,zal,zbo,zaj,zam,zan,zao,zap,zaq,zar,zax,zay,zaz,zba,zat,zau,zav,zaw,Nat.reduceBEq,yo,yl,yk,yp,yq,yn,yr,ym,ya,yb,yc,yd,ye,yf,yg,yh,yi,yj,not_true_eq_false,not_false_eq_true,Classical.not_not,decide_true,decide_false,ys,yt,yu,yv,true_and,and_true,ite_true,ite_false,if_true,if_false,yw,yx,yy,yz,Nat.sub_self,Nat.reduceSub,Nat.reduceAdd,Int.reduceToNat,Int.reduceLT,Int.reduceLE,Int.reduceNeg,eq_self,zbp,zbq,zbr,zbs,zbt,zbu,zbv,zbw,zbx,zby,zbz,zca]))))
  refine ⟨D.tree.some, _, rfl, c_tree D.G D.cell D.name D.tree hL hn fun t e1 h1 n1 x1 ht => ?_⟩
  have T := treeOk (ns := ns) (w := w) (c := c) n
  generalize treeM ns w c n = m at ht T
  have ml : m.length ≤ 68 := by have := T.2.1; omega
  (((try dsimp only [Fn.init,wpS,wpT,wpTs,wpB,wpI,wpC,wpE,wpEs,biP,zaa,zab,zac,zad,zae,zaf,zag,zah,zai,zaj,zak,zal,zam,zan,zao,zap,zaq,zar,zas,zat,zau,zav,zaw,zax,zay,zaz,zba,zbb,zbc,zbd,zbe,isiV,kindV,kindO,tyN,srcP,ya,yb,yc,yd,List.replicate,ye,yf,yg,yh,yi,yj,Nat.reduceSub,Nat.reduceAdd,Nat.reduceBEq,yk,yl,ym,yn,yw,yx,zbf,zbg,zbh,zbi]); (try simp only [zbj,zaa,zaf,zag,zah,zai,zas,zbb,zbc,zbd,zbe,zab,zac,zad,zae,zbk,zbl,zbm,zbn,zak,zal,zbo,zaj,zam,zan,zao,zap,zaq,zar,zax,zay,zaz,zba,zat,zau,zav,zaw,Nat.reduceBEq,yo,yl,yk,yp,yq,yn,yr,ym,ya,yb,yc,yd,ye,yf,yg,yh,yi,yj,not_true_eq_false,not_false_eq_true,Classical.not_not,decide_true,decide_false,ys,yt,yu,yv,true_and,and_true,ite_true,ite_false,if_true,if_false,yw,yx,yy,yz,Nat.sub_self,Nat.reduceSub,Nat.reduceAdd,Int.reduceToNat,Int.reduceLT,Int.reduceLE,Int.reduceNeg,eq_self,zbp,zbq,zbr,zbs,zbt,zbu,zbv,zbw,zbx,zby,zbz,zca])))
  (rw [wcons]; (((try dsimp only [Fn.init,wpS,wpT,wpTs,wpB,wpI,wpC,wpE,wpEs,biP,zaa,zab,zac,zad,zae,zaf,zag,zah,zai,zaj,zak,zal,zam,zan,zao,zap,zaq,zar,zas,zat,zau,zav,zaw,zax,zay,zaz,zba,zbb,zbc,zbd,zbe,isiV,kindV,kindO,tyN,srcP,ya,yb,yc,yd,List.replicate,ye,yf,yg,yh,yi,yj,Nat.reduceSub,Nat.reduceAdd,Nat.reduceBEq,yk,yl,ym,yn,yw,yx,zbf,zbg,zbh,zbi]); (try simp only [zbj,zaa,zaf,zag,zah,zai,zas,zbb,zbc,zbd,zbe,zab,zac,zad,zae,zbk,zbl,zbm,zbn,zak,zal,zbo,zaj,zam,zan,zao,zap,zaq,zar,zax,zay,zaz,zba,zat,zau,zav,zaw,Nat.reduceBEq,yo,yl,yk,yp,yq,yn,yr,ym,ya,yb,yc,yd,ye,yf,yg,yh,yi,yj,not_true_eq_false,not_false_eq_true,Classical.not_not,decide_true,decide_false,ys,yt,yu,yv,true_and,and_true,ite_true,ite_false,if_true,if_false,yw,yx,yy,yz,Nat.sub_self,Nat.reduceSub,Nat.reduceAdd,Int.reduceToNat,Int.reduceLT,Int.reduceLE,Int.reduceNeg,eq_self,zbp,zbq,zbr,zbs,zbt,zbu,zbv,zbw,zbx,zby,zbz,zca]))))
  refine ⟨D.pick.some, D.cell.some, _, rfl, c_cell D.G D.cell (x1 _ _ hL) (by decide) ?_⟩
  (((try dsimp only [Fn.init,wpS,wpT,wpTs,wpB,wpI,wpC,wpE,wpEs,biP,zaa,zab,zac,zad,zae,zaf,zag,zah,zai,zaj,zak,zal,zam,zan,zao,zap,zaq,zar,zas,zat,zau,zav,zaw,zax,zay,zaz,zba,zbb,zbc,zbd,zbe,isiV,kindV,kindO,tyN,srcP,ya,yb,yc,yd,List.replicate,ye,yf,yg,yh,yi,yj,Nat.reduceSub,Nat.reduceAdd,Nat.reduceBEq,yk,yl,ym,yn,yw,yx,zbf,zbg,zbh,zbi]); (try simp only [zbj,zaa,zaf,zag,zah,zai,zas,zbb,zbc,zbd,zbe,zab,zac,zad,zae,zbk,zbl,zbm,zbn,zak,zal,zbo,zaj,zam,zan,zao,zap,zaq,zar,zax,zay,zaz,zba,zat,zau,zav,zaw,Nat.reduceBEq,yo,yl,yk,yp,yq,yn,yr,ym,ya,yb,yc,yd,ye,yf,yg,yh,yi,yj,not_true_eq_false,not_false_eq_true,Classical.not_not,decide_true,decide_false,ys,yt,yu,yv,true_and,and_true,ite_true,ite_false,if_true,if_false,yw,yx,yy,yz,Nat.sub_self,Nat.reduceSub,Nat.reduceAdd,Int.reduceToNat,Int.reduceLT,Int.reduceLE,Int.reduceNeg,eq_self,zbp,zbq,zbr,zbs,zbt,zbu,zbv,zbw,zbx,zby,zbz,zca])))
  have p0 := Int.emod_nonneg (cellAt ns 2) (b := (n : Int) + 2) (by omega)
  have p1 := Int.emod_lt_of_pos (cellAt ns 2) (b := (n : Int) + 2) (by omega)
  refine ⟨by omega, _, rfl, c_pick D.G D.name D.pick ⟨by omega, by omega⟩ ⟨by omega, by omega⟩ fun f h2 x2 => ?_⟩
  clear p0 p1
  (((try dsimp only [Fn.init,wpS,wpT,wpTs,wpB,wpI,wpC,wpE,wpEs,biP,zaa,zab,zac,zad,zae,zaf,zag,zah,zai,zaj,zak,zal,zam,zan,zao,zap,zaq,zar,zas,zat,zau,zav,zaw,zax,zay,zaz,zba,zbb,zbc,zbd,zbe,isiV,kindV,kindO,tyN,srcP,ya,yb,yc,yd,List.replicate,ye,yf,yg,yh,yi,yj,Nat.reduceSub,Nat.reduceAdd,Nat.reduceBEq,yk,yl,ym,yn,yw,yx,zbf,zbg,zbh,zbi]); (try simp only [zbj,zaa,zaf,zag,zah,zai,zas,zbb,zbc,zbd,zbe,zab,zac,zad,zae,zbk,zbl,zbm,zbn,zak,zal,zbo,zaj,zam,zan,zao,zap,zaq,zar,zax,zay,zaz,zba,zat,zau,zav,zaw,Nat.reduceBEq,yo,yl,yk,yp,yq,yn,yr,ym,ya,yb,yc,yd,ye,yf,yg,yh,yi,yj,not_true_eq_false,not_false_eq_true,Classical.not_not,decide_true,decide_false,ys,yt,yu,yv,true_and,and_true,ite_true,ite_false,if_true,if_false,yw,yx,yy,yz,Nat.sub_self,Nat.reduceSub,Nat.reduceAdd,Int.reduceToNat,Int.reduceLT,Int.reduceLE,Int.reduceNeg,eq_self,zbp,zbq,zbr,zbs,zbt,zbu,zbv,zbw,zbx,zby,zbz,zca])))
  (rw [wcons]; (((try dsimp only [Fn.init,wpS,wpT,wpTs,wpB,wpI,wpC,wpE,wpEs,biP,zaa,zab,zac,zad,zae,zaf,zag,zah,zai,zaj,zak,zal,zam,zan,zao,zap,zaq,zar,zas,zat,zau,zav,zaw,zax,zay,zaz,zba,zbb,zbc,zbd,zbe,isiV,kindV,kindO,tyN,srcP,ya,yb,yc,yd,List.replicate,ye,yf,yg,yh,yi,yj,Nat.reduceSub,Nat.reduceAdd,Nat.reduceBEq,yk,yl,ym,yn,yw,yx,zbf,zbg,zbh,zbi]); (try simp only [zbj,zaa,zaf,zag,zah,zai,zas,zbb,zbc,zbd,zbe,zab,zac,zad,zae,zbk,zbl,zbm,zbn,zak,zal,zbo,zaj,zam,zan,zao,zap,zaq,zar,zax,zay,zaz,zba,zat,zau,zav,zaw,Nat.reduceBEq,yo,yl,yk,yp,yq,yn,yr,ym,ya,yb,yc,yd,ye,yf,yg,yh,yi,yj,not_true_eq_false,not_false_eq_true,Classical.not_not,decide_true,decide_false,ys,yt,yu,yv,true_and,and_true,ite_true,ite_false,if_true,if_false,yw,yx,yy,yz,Nat.sub_self,Nat.reduceSub,Nat.reduceAdd,Int.reduceToNat,Int.reduceLT,Int.reduceLE,Int.reduceNeg,eq_self,zbp,zbq,zbr,zbs,zbt,zbu,zbv,zbw,zbx,zby,zbz,zca]))))
  have ht2 := x2 _ _ ht
  refine dict_go ht2 fun H e3 h3 n3 x3 hH => ?_
  (((try dsimp only [Fn.init,wpS,wpT,wpTs,wpB,wpI,wpC,wpE,wpEs,biP,zaa,zab,zac,zad,zae,zaf,zag,zah,zai,zaj,zak,zal,zam,zan,zao,zap,zaq,zar,zas,zat,zau,zav,zaw,zax,zay,zaz,zba,zbb,zbc,zbd,zbe,isiV,kindV,kindO,tyN,srcP,ya,yb,yc,yd,List.replicate,ye,yf,yg,yh,yi,yj,Nat.reduceSub,Nat.reduceAdd,Nat.reduceBEq,yk,yl,ym,yn,yw,yx,zbf,zbg,zbh,zbi]); (try simp only [zbj,zaa,zaf,zag,zah,zai,zas,zbb,zbc,zbd,zbe,zab,zac,zad,zae,zbk,zbl,zbm,zbn,zak,zal,zbo,zaj,zam,zan,zao,zap,zaq,zar,zax,zay,zaz,zba,zat,zau,zav,zaw,Nat.reduceBEq,yo,yl,yk,yp,yq,yn,yr,ym,ya,yb,yc,yd,ye,yf,yg,yh,yi,yj,not_true_eq_false,not_false_eq_true,Classical.not_not,decide_true,decide_false,ys,yt,yu,yv,true_and,and_true,ite_true,ite_false,if_true,if_false,yw,yx,yy,yz,Nat.sub_self,Nat.reduceSub,Nat.reduceAdd,Int.reduceToNat,Int.reduceLT,Int.reduceLE,Int.reduceNeg,eq_self,zbp,zbq,zbr,zbs,zbt,zbu,zbv,zbw,zbx,zby,zbz,zca])))
  rw [wcons]
  refine ss_kids (f := f) rfl (by decide) (by simp) (x3 _ _ ht2) (by omega) (fun v h' K hK => hK) fun du h4 n4 x4 hdu => ?_
  (((try dsimp only [Fn.init,wpS,wpT,wpTs,wpB,wpI,wpC,wpE,wpEs,biP,zaa,zab,zac,zad,zae,zaf,zag,zah,zai,zaj,zak,zal,zam,zan,zao,zap,zaq,zar,zas,zat,zau,zav,zaw,zax,zay,zaz,zba,zbb,zbc,zbd,zbe,isiV,kindV,kindO,tyN,srcP,ya,yb,yc,yd,List.replicate,ye,yf,yg,yh,yi,yj,Nat.reduceSub,Nat.reduceAdd,Nat.reduceBEq,yk,yl,ym,yn,yw,yx,zbf,zbg,zbh,zbi]); (try simp only [zbj,zaa,zaf,zag,zah,zai,zas,zbb,zbc,zbd,zbe,zab,zac,zad,zae,zbk,zbl,zbm,zbn,zak,zal,zbo,zaj,zam,zan,zao,zap,zaq,zar,zax,zay,zaz,zba,zat,zau,zav,zaw,Nat.reduceBEq,yo,yl,yk,yp,yq,yn,yr,ym,ya,yb,yc,yd,ye,yf,yg,yh,yi,yj,not_true_eq_false,not_false_eq_true,Classical.not_not,decide_true,decide_false,ys,yt,yu,yv,true_and,and_true,ite_true,ite_false,if_true,if_false,yw,yx,yy,yz,Nat.sub_self,Nat.reduceSub,Nat.reduceAdd,Int.reduceToNat,Int.reduceLT,Int.reduceLE,Int.reduceNeg,eq_self,zbp,zbq,zbr,zbs,zbt,zbu,zbv,zbw,zbx,zby,zbz,zca])))
  (rw [wcons]; (((try dsimp only [Fn.init,wpS,wpT,wpTs,wpB,wpI,wpC,wpE,wpEs,biP,zaa,zab,zac,zad,zae,zaf,zag,zah,zai,zaj,zak,zal,zam,zan,zao,zap,zaq,zar,zas,zat,zau,zav,zaw,zax,zay,zaz,zba,zbb,zbc,zbd,zbe,isiV,kindV,kindO,tyN,srcP,ya,yb,yc,yd,List.replicate,ye,yf,yg,yh,yi,yj,Nat.reduceSub,Nat.reduceAdd,Nat.reduceBEq,yk,yl,ym,yn,yw,yx,zbf,zbg,zbh,zbi]); (try simp only [zbj,zaa,zaf,zag,zah,zai,zas,zbb,zbc,zbd,zbe,zab,zac,zad,zae,zbk,zbl,zbm,zbn,zak,zal,zbo,zaj,zam,zan,zao,zap,zaq,zar,zax,zay,zaz,zba,zat,zau,zav,zaw,Nat.reduceBEq,yo,yl,yk,yp,yq,yn,yr,ym,ya,yb,yc,yd,ye,yf,yg,yh,yi,yj,not_true_eq_false,not_false_eq_true,Classical.not_not,decide_true,decide_false,ys,yt,yu,yv,true_and,and_true,ite_true,ite_false,if_true,if_false,yw,yx,yy,yz,Nat.sub_self,Nat.reduceSub,Nat.reduceAdd,Int.reduceToNat,Int.reduceLT,Int.reduceLE,Int.reduceNeg,eq_self,zbp,zbq,zbr,zbs,zbt,zbu,zbv,zbw,zbx,zby,zbz,zca]))))
  refine ⟨D.children.some, _, rfl, c_children D.G D.children (x4 _ _ hH) (by omega) fun fi h5 n5 x5 hfi => ?_⟩
  (((try dsimp only [Fn.init,wpS,wpT,wpTs,wpB,wpI,wpC,wpE,wpEs,biP,zaa,zab,zac,zad,zae,zaf,zag,zah,zai,zaj,zak,zal,zam,zan,zao,zap,zaq,zar,zas,zat,zau,zav,zaw,zax,zay,zaz,zba,zbb,zbc,zbd,zbe,isiV,kindV,kindO,tyN,srcP,ya,yb,yc,yd,List.replicate,ye,yf,yg,yh,yi,yj,Nat.reduceSub,Nat.reduceAdd,Nat.reduceBEq,yk,yl,ym,yn,yw,yx,zbf,zbg,zbh,zbi]); (try simp only [zbj,zaa,zaf,zag,zah,zai,zas,zbb,zbc,zbd,zbe,zab,zac,zad,zae,zbk,zbl,zbm,zbn,zak,zal,zbo,zaj,zam,zan,zao,zap,zaq,zar,zax,zay,zaz,zba,zat,zau,zav,zaw,Nat.reduceBEq,yo,yl,yk,yp,yq,yn,yr,ym,ya,yb,yc,yd,ye,yf,yg,yh,yi,yj,not_true_eq_false,not_false_eq_true,Classical.not_not,decide_true,decide_false,ys,yt,yu,yv,true_and,and_true,ite_true,ite_false,if_true,if_false,yw,yx,yy,yz,Nat.sub_self,Nat.reduceSub,Nat.reduceAdd,Int.reduceToNat,Int.reduceLT,Int.reduceLE,Int.reduceNeg,eq_self,zbp,zbq,zbr,zbs,zbt,zbu,zbv,zbw,zbx,zby,zbz,zca])))
  rw [wcons]
  refine ss_kids (f := 0) rfl (by decide) (by simp) (x5 _ _ (x4 _ _ (x3 _ _ ht2))) (by omega) (fun v h' K hK => hK) fun tp h6 n6 x6 htp => ?_
  (((try dsimp only [Fn.init,wpS,wpT,wpTs,wpB,wpI,wpC,wpE,wpEs,biP,zaa,zab,zac,zad,zae,zaf,zag,zah,zai,zaj,zak,zal,zam,zan,zao,zap,zaq,zar,zas,zat,zau,zav,zaw,zax,zay,zaz,zba,zbb,zbc,zbd,zbe,isiV,kindV,kindO,tyN,srcP,ya,yb,yc,yd,List.replicate,ye,yf,yg,yh,yi,yj,Nat.reduceSub,Nat.reduceAdd,Nat.reduceBEq,yk,yl,ym,yn,yw,yx,zbf,zbg,zbh,zbi]); (try simp only [zbj,zaa,zaf,zag,zah,zai,zas,zbb,zbc,zbd,zbe,zab,zac,zad,zae,zbk,zbl,zbm,zbn,zak,zal,zbo,zaj,zam,zan,zao,zap,zaq,zar,zax,zay,zaz,zba,zat,zau,zav,zaw,Nat.reduceBEq,yo,yl,yk,yp,yq,yn,yr,ym,ya,yb,yc,yd,ye,yf,yg,yh,yi,yj,not_true_eq_false,not_false_eq_true,Classical.not_not,decide_true,decide_false,ys,yt,yu,yv,true_and,and_true,ite_true,ite_false,if_true,if_false,yw,yx,yy,yz,Nat.sub_self,Nat.reduceSub,Nat.reduceAdd,Int.reduceToNat,Int.reduceLT,Int.reduceLE,Int.reduceNeg,eq_self,zbp,zbq,zbr,zbs,zbt,zbu,zbv,zbw,zbx,zby,zbz,zca])))
  (rw [wcons]; (((try dsimp only [Fn.init,wpS,wpT,wpTs,wpB,wpI,wpC,wpE,wpEs,biP,zaa,zab,zac,zad,zae,zaf,zag,zah,zai,zaj,zak,zal,zam,zan,zao,zap,zaq,zar,zas,zat,zau,zav,zaw,zax,zay,zaz,zba,zbb,zbc,zbd,zbe,isiV,kindV,kindO,tyN,srcP,ya,yb,yc,yd,List.replicate,ye,yf,yg,yh,yi,yj,Nat.reduceSub,Nat.reduceAdd,Nat.reduceBEq,yk,yl,ym,yn,yw,yx,zbf,zbg,zbh,zbi]); (try simp only [zbj,zaa,zaf,zag,zah,zai,zas,zbb,zbc,zbd,zbe,zab,zac,zad,zae,zbk,zbl,zbm,zbn,zak,zal,zbo,zaj,zam,zan,zao,zap,zaq,zar,zax,zay,zaz,zba,zat,zau,zav,zaw,Nat.reduceBEq,yo,yl,yk,yp,yq,yn,yr,ym,ya,yb,yc,yd,ye,yf,yg,yh,yi,yj,not_true_eq_false,not_false_eq_true,Classical.not_not,decide_true,decide_false,ys,yt,yu,yv,true_and,and_true,ite_true,ite_false,if_true,if_false,yw,yx,yy,yz,Nat.sub_self,Nat.reduceSub,Nat.reduceAdd,Int.reduceToNat,Int.reduceLT,Int.reduceLE,Int.reduceNeg,eq_self,zbp,zbq,zbr,zbs,zbt,zbu,zbv,zbw,zbx,zby,zbz,zca]))))
  have kl : ∀ f, (sortI (kids m f)).length ≤ 10001 := fun f => by rw [(sortI_perm _).length_eq]; have := kids_length (m := m) (f := f); omega
  refine ⟨D.nums.some, _, rfl, c_numbers D.G D.whole D.nums (x6 _ _ hfi) (x6 _ _ (x5 _ _ hdu)) (kl f) ?_⟩
  (((try dsimp only [Fn.init,wpS,wpT,wpTs,wpB,wpI,wpC,wpE,wpEs,biP,zaa,zab,zac,zad,zae,zaf,zag,zah,zai,zaj,zak,zal,zam,zan,zao,zap,zaq,zar,zas,zat,zau,zav,zaw,zax,zay,zaz,zba,zbb,zbc,zbd,zbe,isiV,kindV,kindO,tyN,srcP,ya,yb,yc,yd,List.replicate,ye,yf,yg,yh,yi,yj,Nat.reduceSub,Nat.reduceAdd,Nat.reduceBEq,yk,yl,ym,yn,yw,yx,zbf,zbg,zbh,zbi]); (try simp only [zbj,zaa,zaf,zag,zah,zai,zas,zbb,zbc,zbd,zbe,zab,zac,zad,zae,zbk,zbl,zbm,zbn,zak,zal,zbo,zaj,zam,zan,zao,zap,zaq,zar,zax,zay,zaz,zba,zat,zau,zav,zaw,Nat.reduceBEq,yo,yl,yk,yp,yq,yn,yr,ym,ya,yb,yc,yd,ye,yf,yg,yh,yi,yj,not_true_eq_false,not_false_eq_true,Classical.not_not,decide_true,decide_false,ys,yt,yu,yv,true_and,and_true,ite_true,ite_false,if_true,if_false,yw,yx,yy,yz,Nat.sub_self,Nat.reduceSub,Nat.reduceAdd,Int.reduceToNat,Int.reduceLT,Int.reduceLE,Int.reduceNeg,eq_self,zbp,zbq,zbr,zbs,zbt,zbu,zbv,zbw,zbx,zby,zbz,zca])))
  refine ⟨D.nums.some, D.children.some, _, rfl, c_children D.G D.children (x6 _ _ (x5 _ _ (x4 _ _ hH))) (by omega) fun f0 h7 n7 x7 hf0 => ?_⟩
  (((try dsimp only [Fn.init,wpS,wpT,wpTs,wpB,wpI,wpC,wpE,wpEs,biP,zaa,zab,zac,zad,zae,zaf,zag,zah,zai,zaj,zak,zal,zam,zan,zao,zap,zaq,zar,zas,zat,zau,zav,zaw,zax,zay,zaz,zba,zbb,zbc,zbd,zbe,isiV,kindV,kindO,tyN,srcP,ya,yb,yc,yd,List.replicate,ye,yf,yg,yh,yi,yj,Nat.reduceSub,Nat.reduceAdd,Nat.reduceBEq,yk,yl,ym,yn,yw,yx,zbf,zbg,zbh,zbi]); (try simp only [zbj,zaa,zaf,zag,zah,zai,zas,zbb,zbc,zbd,zbe,zab,zac,zad,zae,zbk,zbl,zbm,zbn,zak,zal,zbo,zaj,zam,zan,zao,zap,zaq,zar,zax,zay,zaz,zba,zat,zau,zav,zaw,Nat.reduceBEq,yo,yl,yk,yp,yq,yn,yr,ym,ya,yb,yc,yd,ye,yf,yg,yh,yi,yj,not_true_eq_false,not_false_eq_true,Classical.not_not,decide_true,decide_false,ys,yt,yu,yv,true_and,and_true,ite_true,ite_false,if_true,if_false,yw,yx,yy,yz,Nat.sub_self,Nat.reduceSub,Nat.reduceAdd,Int.reduceToNat,Int.reduceLT,Int.reduceLE,Int.reduceNeg,eq_self,zbp,zbq,zbr,zbs,zbt,zbu,zbv,zbw,zbx,zby,zbz,zca])))
  refine ⟨_, rfl, c_numbers D.G D.whole D.nums hf0 (x7 _ _ htp) (kl 0) ?_⟩
  (((try dsimp only [Fn.init,wpS,wpT,wpTs,wpB,wpI,wpC,wpE,wpEs,biP,zaa,zab,zac,zad,zae,zaf,zag,zah,zai,zaj,zak,zal,zam,zan,zao,zap,zaq,zar,zas,zat,zau,zav,zaw,zax,zay,zaz,zba,zbb,zbc,zbd,zbe,isiV,kindV,kindO,tyN,srcP,ya,yb,yc,yd,List.replicate,ye,yf,yg,yh,yi,yj,Nat.reduceSub,Nat.reduceAdd,Nat.reduceBEq,yk,yl,ym,yn,yw,yx,zbf,zbg,zbh,zbi]); (try simp only [zbj,zaa,zaf,zag,zah,zai,zas,zbb,zbc,zbd,zbe,zab,zac,zad,zae,zbk,zbl,zbm,zbn,zak,zal,zbo,zaj,zam,zan,zao,zap,zaq,zar,zax,zay,zaz,zba,zat,zau,zav,zaw,Nat.reduceBEq,yo,yl,yk,yp,yq,yn,yr,ym,ya,yb,yc,yd,ye,yf,yg,yh,yi,yj,not_true_eq_false,not_false_eq_true,Classical.not_not,decide_true,decide_false,ys,yt,yu,yv,true_and,and_true,ite_true,ite_false,if_true,if_false,yw,yx,yy,yz,Nat.sub_self,Nat.reduceSub,Nat.reduceAdd,Int.reduceToNat,Int.reduceLT,Int.reduceLE,Int.reduceNeg,eq_self,zbp,zbq,zbr,zbs,zbt,zbu,zbv,zbw,zbx,zby,zbz,zca])))
  (rw [wcons]; (((try dsimp only [Fn.init,wpS,wpT,wpTs,wpB,wpI,wpC,wpE,wpEs,biP,zaa,zab,zac,zad,zae,zaf,zag,zah,zai,zaj,zak,zal,zam,zan,zao,zap,zaq,zar,zas,zat,zau,zav,zaw,zax,zay,zaz,zba,zbb,zbc,zbd,zbe,isiV,kindV,kindO,tyN,srcP,ya,yb,yc,yd,List.replicate,ye,yf,yg,yh,yi,yj,Nat.reduceSub,Nat.reduceAdd,Nat.reduceBEq,yk,yl,ym,yn,yw,yx,zbf,zbg,zbh,zbi]); (try simp only [zbj,zaa,zaf,zag,zah,zai,zas,zbb,zbc,zbd,zbe,zab,zac,zad,zae,zbk,zbl,zbm,zbn,zak,zal,zbo,zaj,zam,zan,zao,zap,zaq,zar,zax,zay,zaz,zba,zat,zau,zav,zaw,Nat.reduceBEq,yo,yl,yk,yp,yq,yn,yr,ym,ya,yb,yc,yd,ye,yf,yg,yh,yi,yj,not_true_eq_false,not_false_eq_true,Classical.not_not,decide_true,decide_false,ys,yt,yu,yv,true_and,and_true,ite_true,ite_false,if_true,if_false,yw,yx,yy,yz,Nat.sub_self,Nat.reduceSub,Nat.reduceAdd,Int.reduceToNat,Int.reduceLT,Int.reduceLE,Int.reduceNeg,eq_self,zbp,zbq,zbr,zbs,zbt,zbu,zbv,zbw,zbx,zby,zbz,zca]))))
  refine ⟨D.nums.some, _, rfl, c_numbers D.G D.whole D.nums (x7 _ _ (x6 _ _ hfi)) (x7 _ _ (x6 _ _ (x5 _ _ hdu))) (kl f) ?_⟩
  (((try dsimp only [Fn.init,wpS,wpT,wpTs,wpB,wpI,wpC,wpE,wpEs,biP,zaa,zab,zac,zad,zae,zaf,zag,zah,zai,zaj,zak,zal,zam,zan,zao,zap,zaq,zar,zas,zat,zau,zav,zaw,zax,zay,zaz,zba,zbb,zbc,zbd,zbe,isiV,kindV,kindO,tyN,srcP,ya,yb,yc,yd,List.replicate,ye,yf,yg,yh,yi,yj,Nat.reduceSub,Nat.reduceAdd,Nat.reduceBEq,yk,yl,ym,yn,yw,yx,zbf,zbg,zbh,zbi]); (try simp only [zbj,zaa,zaf,zag,zah,zai,zas,zbb,zbc,zbd,zbe,zab,zac,zad,zae,zbk,zbl,zbm,zbn,zak,zal,zbo,zaj,zam,zan,zao,zap,zaq,zar,zax,zay,zaz,zba,zat,zau,zav,zaw,Nat.reduceBEq,yo,yl,yk,yp,yq,yn,yr,ym,ya,yb,yc,yd,ye,yf,yg,yh,yi,yj,not_true_eq_false,not_false_eq_true,Classical.not_not,decide_true,decide_false,ys,yt,yu,yv,true_and,and_true,ite_true,ite_false,if_true,if_false,yw,yx,yy,yz,Nat.sub_self,Nat.reduceSub,Nat.reduceAdd,Int.reduceToNat,Int.reduceLT,Int.reduceLE,Int.reduceNeg,eq_self,zbp,zbq,zbr,zbs,zbt,zbu,zbv,zbw,zbx,zby,zbz,zca])))
  (rw [wcons]; (((try dsimp only [Fn.init,wpS,wpT,wpTs,wpB,wpI,wpC,wpE,wpEs,biP,zaa,zab,zac,zad,zae,zaf,zag,zah,zai,zaj,zak,zal,zam,zan,zao,zap,zaq,zar,zas,zat,zau,zav,zaw,zax,zay,zaz,zba,zbb,zbc,zbd,zbe,isiV,kindV,kindO,tyN,srcP,ya,yb,yc,yd,List.replicate,ye,yf,yg,yh,yi,yj,Nat.reduceSub,Nat.reduceAdd,Nat.reduceBEq,yk,yl,ym,yn,yw,yx,zbf,zbg,zbh,zbi]); (try simp only [zbj,zaa,zaf,zag,zah,zai,zas,zbb,zbc,zbd,zbe,zab,zac,zad,zae,zbk,zbl,zbm,zbn,zak,zal,zbo,zaj,zam,zan,zao,zap,zaq,zar,zax,zay,zaz,zba,zat,zau,zav,zaw,Nat.reduceBEq,yo,yl,yk,yp,yq,yn,yr,ym,ya,yb,yc,yd,ye,yf,yg,yh,yi,yj,not_true_eq_false,not_false_eq_true,Classical.not_not,decide_true,decide_false,ys,yt,yu,yv,true_and,and_true,ite_true,ite_false,if_true,if_false,yw,yx,yy,yz,Nat.sub_self,Nat.reduceSub,Nat.reduceAdd,Int.reduceToNat,Int.reduceLT,Int.reduceLE,Int.reduceNeg,eq_self,zbp,zbq,zbr,zbs,zbt,zbu,zbv,zbw,zbx,zby,zbz,zca]))))
  have xa : Ext h2 h7 := (((x3.trans x4).trans x5).trans x6).trans x7
  have xb : Ext h3 h7 := ((x4.trans x5).trans x6).trans x7
  have rl := rows_len (by omega) T
  have hg := hang_le (m := m)
  refine ⟨D.rows.some, _, rfl, c_rows D.G D.rows (xb _ _ hH) (by omega) _ rfl (T.ht0 (by omega)) (by rw [rl]; omega) fun F h8 n8 x8 hF => ?_⟩
  have C := ks_ch (by omega) T
  have ok := hOk_all C (T.ht0 (ks := sortI (m.map (·.1))) (by omega))
  have pm := rows_hang (by omega) T
  generalize rowsAll (chL m (sortI (m.map (·.1)))) n = rs at hF ok pm rl
  (((try dsimp only [Fn.init,wpS,wpT,wpTs,wpB,wpI,wpC,wpE,wpEs,biP,zaa,zab,zac,zad,zae,zaf,zag,zah,zai,zaj,zak,zal,zam,zan,zao,zap,zaq,zar,zas,zat,zau,zav,zaw,zax,zay,zaz,zba,zbb,zbc,zbd,zbe,isiV,kindV,kindO,tyN,srcP,ya,yb,yc,yd,List.replicate,ye,yf,yg,yh,yi,yj,Nat.reduceSub,Nat.reduceAdd,Nat.reduceBEq,yk,yl,ym,yn,yw,yx,zbf,zbg,zbh,zbi]); (try simp only [zbj,zaa,zaf,zag,zah,zai,zas,zbb,zbc,zbd,zbe,zab,zac,zad,zae,zbk,zbl,zbm,zbn,zak,zal,zbo,zaj,zam,zan,zao,zap,zaq,zar,zax,zay,zaz,zba,zat,zau,zav,zaw,Nat.reduceBEq,yo,yl,yk,yp,yq,yn,yr,ym,ya,yb,yc,yd,ye,yf,yg,yh,yi,yj,not_true_eq_false,not_false_eq_true,Classical.not_not,decide_true,decide_false,ys,yt,yu,yv,true_and,and_true,ite_true,ite_false,if_true,if_false,yw,yx,yy,yz,Nat.sub_self,Nat.reduceSub,Nat.reduceAdd,Int.reduceToNat,Int.reduceLT,Int.reduceLE,Int.reduceNeg,eq_self,zbp,zbq,zbr,zbs,zbt,zbu,zbv,zbw,zbx,zby,zbz,zca])))
  (rw [wcons]; (((try dsimp only [Fn.init,wpS,wpT,wpTs,wpB,wpI,wpC,wpE,wpEs,biP,zaa,zab,zac,zad,zae,zaf,zag,zah,zai,zaj,zak,zal,zam,zan,zao,zap,zaq,zar,zas,zat,zau,zav,zaw,zax,zay,zaz,zba,zbb,zbc,zbd,zbe,isiV,kindV,kindO,tyN,srcP,ya,yb,yc,yd,List.replicate,ye,yf,yg,yh,yi,yj,Nat.reduceSub,Nat.reduceAdd,Nat.reduceBEq,yk,yl,ym,yn,yw,yx,zbf,zbg,zbh,zbi]); (try simp only [zbj,zaa,zaf,zag,zah,zai,zas,zbb,zbc,zbd,zbe,zab,zac,zad,zae,zbk,zbl,zbm,zbn,zak,zal,zbo,zaj,zam,zan,zao,zap,zaq,zar,zax,zay,zaz,zba,zat,zau,zav,zaw,Nat.reduceBEq,yo,yl,yk,yp,yq,yn,yr,ym,ya,yb,yc,yd,ye,yf,yg,yh,yi,yj,not_true_eq_false,not_false_eq_true,Classical.not_not,decide_true,decide_false,ys,yt,yu,yv,true_and,and_true,ite_true,ite_false,if_true,if_false,yw,yx,yy,yz,Nat.sub_self,Nat.reduceSub,Nat.reduceAdd,Int.reduceToNat,Int.reduceLT,Int.reduceLE,Int.reduceNeg,eq_self,zbp,zbq,zbr,zbs,zbt,zbu,zbv,zbw,zbx,zby,zbz,zca]))))
  simp only [hF]
  (((try dsimp only [Fn.init,wpS,wpT,wpTs,wpB,wpI,wpC,wpE,wpEs,biP,zaa,zab,zac,zad,zae,zaf,zag,zah,zai,zaj,zak,zal,zam,zan,zao,zap,zaq,zar,zas,zat,zau,zav,zaw,zax,zay,zaz,zba,zbb,zbc,zbd,zbe,isiV,kindV,kindO,tyN,srcP,ya,yb,yc,yd,List.replicate,ye,yf,yg,yh,yi,yj,Nat.reduceSub,Nat.reduceAdd,Nat.reduceBEq,yk,yl,ym,yn,yw,yx,zbf,zbg,zbh,zbi]); (try simp only [zbj,zaa,zaf,zag,zah,zai,zas,zbb,zbc,zbd,zbe,zab,zac,zad,zae,zbk,zbl,zbm,zbn,zak,zal,zbo,zaj,zam,zan,zao,zap,zaq,zar,zax,zay,zaz,zba,zat,zau,zav,zaw,Nat.reduceBEq,yo,yl,yk,yp,yq,yn,yr,ym,ya,yb,yc,yd,ye,yf,yg,yh,yi,yj,not_true_eq_false,not_false_eq_true,Classical.not_not,decide_true,decide_false,ys,yt,yu,yv,true_and,and_true,ite_true,ite_false,if_true,if_false,yw,yx,yy,yz,Nat.sub_self,Nat.reduceSub,Nat.reduceAdd,Int.reduceToNat,Int.reduceLT,Int.reduceLE,Int.reduceNeg,eq_self,zbp,zbq,zbr,zbs,zbt,zbu,zbv,zbw,zbx,zby,zbz,zca])))
  have ht8 := x8 _ _ (xa _ _ ht2)
  refine ⟨D.hangs.some, _, rfl, c_hangs D.G D.whole D.hangs ht8 hF ok (by omega) fun h9 x9 => ?_⟩
  (((try dsimp only [Fn.init,wpS,wpT,wpTs,wpB,wpI,wpC,wpE,wpEs,biP,zaa,zab,zac,zad,zae,zaf,zag,zah,zai,zaj,zak,zal,zam,zan,zao,zap,zaq,zar,zas,zat,zau,zav,zaw,zax,zay,zaz,zba,zbb,zbc,zbd,zbe,isiV,kindV,kindO,tyN,srcP,ya,yb,yc,yd,List.replicate,ye,yf,yg,yh,yi,yj,Nat.reduceSub,Nat.reduceAdd,Nat.reduceBEq,yk,yl,ym,yn,yw,yx,zbf,zbg,zbh,zbi]); (try simp only [zbj,zaa,zaf,zag,zah,zai,zas,zbb,zbc,zbd,zbe,zab,zac,zad,zae,zbk,zbl,zbm,zbn,zak,zal,zbo,zaj,zam,zan,zao,zap,zaq,zar,zax,zay,zaz,zba,zat,zau,zav,zaw,Nat.reduceBEq,yo,yl,yk,yp,yq,yn,yr,ym,ya,yb,yc,yd,ye,yf,yg,yh,yi,yj,not_true_eq_false,not_false_eq_true,Classical.not_not,decide_true,decide_false,ys,yt,yu,yv,true_and,and_true,ite_true,ite_false,if_true,if_false,yw,yx,yy,yz,Nat.sub_self,Nat.reduceSub,Nat.reduceAdd,Int.reduceToNat,Int.reduceLT,Int.reduceLE,Int.reduceNeg,eq_self,zbp,zbq,zbr,zbs,zbt,zbu,zbv,zbw,zbx,zby,zbz,zca])))
  refine ⟨D.same.some, _, rfl, c_same D.G D.whole D.same (x9 _ _ (x8 _ _ (xb _ _ hH))) (x9 _ _ ht8) rfl (fun _ _ e => e) ?_⟩
  (((try dsimp only [Fn.init,wpS,wpT,wpTs,wpB,wpI,wpC,wpE,wpEs,biP,zaa,zab,zac,zad,zae,zaf,zag,zah,zai,zaj,zak,zal,zam,zan,zao,zap,zaq,zar,zas,zat,zau,zav,zaw,zax,zay,zaz,zba,zbb,zbc,zbd,zbe,isiV,kindV,kindO,tyN,srcP,ya,yb,yc,yd,List.replicate,ye,yf,yg,yh,yi,yj,Nat.reduceSub,Nat.reduceAdd,Nat.reduceBEq,yk,yl,ym,yn,yw,yx,zbf,zbg,zbh,zbi]); (try simp only [zbj,zaa,zaf,zag,zah,zai,zas,zbb,zbc,zbd,zbe,zab,zac,zad,zae,zbk,zbl,zbm,zbn,zak,zal,zbo,zaj,zam,zan,zao,zap,zaq,zar,zax,zay,zaz,zba,zat,zau,zav,zaw,Nat.reduceBEq,yo,yl,yk,yp,yq,yn,yr,ym,ya,yb,yc,yd,ye,yf,yg,yh,yi,yj,not_true_eq_false,not_false_eq_true,Classical.not_not,decide_true,decide_false,ys,yt,yu,yv,true_and,and_true,ite_true,ite_false,if_true,if_false,yw,yx,yy,yz,Nat.sub_self,Nat.reduceSub,Nat.reduceAdd,Int.reduceToNat,Int.reduceLT,Int.reduceLE,Int.reduceNeg,eq_self,zbp,zbq,zbr,zbs,zbt,zbu,zbv,zbw,zbx,zby,zbz,zca])))
  rw [wcons]
  refine ss_hang D rfl (by decide) (by simp) (x9 _ _ ht8) (by omega) T fun hgA h10 n10 x10 hhg => ?_
  (((try dsimp only [Fn.init,wpS,wpT,wpTs,wpB,wpI,wpC,wpE,wpEs,biP,zaa,zab,zac,zad,zae,zaf,zag,zah,zai,zaj,zak,zal,zam,zan,zao,zap,zaq,zar,zas,zat,zau,zav,zaw,zax,zay,zaz,zba,zbb,zbc,zbd,zbe,isiV,kindV,kindO,tyN,srcP,ya,yb,yc,yd,List.replicate,ye,yf,yg,yh,yi,yj,Nat.reduceSub,Nat.reduceAdd,Nat.reduceBEq,yk,yl,ym,yn,yw,yx,zbf,zbg,zbh,zbi]); (try simp only [zbj,zaa,zaf,zag,zah,zai,zas,zbb,zbc,zbd,zbe,zab,zac,zad,zae,zbk,zbl,zbm,zbn,zak,zal,zbo,zaj,zam,zan,zao,zap,zaq,zar,zax,zay,zaz,zba,zat,zau,zav,zaw,Nat.reduceBEq,yo,yl,yk,yp,yq,yn,yr,ym,ya,yb,yc,yd,ye,yf,yg,yh,yi,yj,not_true_eq_false,not_false_eq_true,Classical.not_not,decide_true,decide_false,ys,yt,yu,yv,true_and,and_true,ite_true,ite_false,if_true,if_false,yw,yx,yy,yz,Nat.sub_self,Nat.reduceSub,Nat.reduceAdd,Int.reduceToNat,Int.reduceLT,Int.reduceLE,Int.reduceNeg,eq_self,zbp,zbq,zbr,zbs,zbt,zbu,zbv,zbw,zbx,zby,zbz,zca])))
  (rw [wcons]; (((try dsimp only [Fn.init,wpS,wpT,wpTs,wpB,wpI,wpC,wpE,wpEs,biP,zaa,zab,zac,zad,zae,zaf,zag,zah,zai,zaj,zak,zal,zam,zan,zao,zap,zaq,zar,zas,zat,zau,zav,zaw,zax,zay,zaz,zba,zbb,zbc,zbd,zbe,isiV,kindV,kindO,tyN,srcP,ya,yb,yc,yd,List.replicate,ye,yf,yg,yh,yi,yj,Nat.reduceSub,Nat.reduceAdd,Nat.reduceBEq,yk,yl,ym,yn,yw,yx,zbf,zbg,zbh,zbi]); (try simp only [zbj,zaa,zaf,zag,zah,zai,zas,zbb,zbc,zbd,zbe,zab,zac,zad,zae,zbk,zbl,zbm,zbn,zak,zal,zbo,zaj,zam,zan,zao,zap,zaq,zar,zax,zay,zaz,zba,zat,zau,zav,zaw,Nat.reduceBEq,yo,yl,yk,yp,yq,yn,yr,ym,ya,yb,yc,yd,ye,yf,yg,yh,yi,yj,not_true_eq_false,not_false_eq_true,Classical.not_not,decide_true,decide_false,ys,yt,yu,yv,true_and,and_true,ite_true,ite_false,if_true,if_false,yw,yx,yy,yz,Nat.sub_self,Nat.reduceSub,Nat.reduceAdd,Int.reduceToNat,Int.reduceLT,Int.reduceLE,Int.reduceNeg,eq_self,zbp,zbq,zbr,zbs,zbt,zbu,zbv,zbw,zbx,zby,zbz,zca]))))
  have hF10 := x10 _ _ (x9 _ _ hF)
  refine list_go hF10 fun kp h11 n11 x11 hkp => ?_
  have hF11 := x11 _ _ hF10
  (((try dsimp only [Fn.init,wpS,wpT,wpTs,wpB,wpI,wpC,wpE,wpEs,biP,zaa,zab,zac,zad,zae,zaf,zag,zah,zai,zaj,zak,zal,zam,zan,zao,zap,zaq,zar,zas,zat,zau,zav,zaw,zax,zay,zaz,zba,zbb,zbc,zbd,zbe,isiV,kindV,kindO,tyN,srcP,ya,yb,yc,yd,List.replicate,ye,yf,yg,yh,yi,yj,Nat.reduceSub,Nat.reduceAdd,Nat.reduceBEq,yk,yl,ym,yn,yw,yx,zbf,zbg,zbh,zbi]); (try simp only [zbj,zaa,zaf,zag,zah,zai,zas,zbb,zbc,zbd,zbe,zab,zac,zad,zae,zbk,zbl,zbm,zbn,zak,zal,zbo,zaj,zam,zan,zao,zap,zaq,zar,zax,zay,zaz,zba,zat,zau,zav,zaw,Nat.reduceBEq,yo,yl,yk,yp,yq,yn,yr,ym,ya,yb,yc,yd,ye,yf,yg,yh,yi,yj,not_true_eq_false,not_false_eq_true,Classical.not_not,decide_true,decide_false,ys,yt,yu,yv,true_and,and_true,ite_true,ite_false,if_true,if_false,yw,yx,yy,yz,Nat.sub_self,Nat.reduceSub,Nat.reduceAdd,Int.reduceToNat,Int.reduceLT,Int.reduceLE,Int.reduceNeg,eq_self,zbp,zbq,zbr,zbs,zbt,zbu,zbv,zbw,zbx,zby,zbz,zca])))
  (rw [wcons]; (((try dsimp only [Fn.init,wpS,wpT,wpTs,wpB,wpI,wpC,wpE,wpEs,biP,zaa,zab,zac,zad,zae,zaf,zag,zah,zai,zaj,zak,zal,zam,zan,zao,zap,zaq,zar,zas,zat,zau,zav,zaw,zax,zay,zaz,zba,zbb,zbc,zbd,zbe,isiV,kindV,kindO,tyN,srcP,ya,yb,yc,yd,List.replicate,ye,yf,yg,yh,yi,yj,Nat.reduceSub,Nat.reduceAdd,Nat.reduceBEq,yk,yl,ym,yn,yw,yx,zbf,zbg,zbh,zbi]); (try simp only [zbj,zaa,zaf,zag,zah,zai,zas,zbb,zbc,zbd,zbe,zab,zac,zad,zae,zbk,zbl,zbm,zbn,zak,zal,zbo,zaj,zam,zan,zao,zap,zaq,zar,zax,zay,zaz,zba,zat,zau,zav,zaw,Nat.reduceBEq,yo,yl,yk,yp,yq,yn,yr,ym,ya,yb,yc,yd,ye,yf,yg,yh,yi,yj,not_true_eq_false,not_false_eq_true,Classical.not_not,decide_true,decide_false,ys,yt,yu,yv,true_and,and_true,ite_true,ite_false,if_true,if_false,yw,yx,yy,yz,Nat.sub_self,Nat.reduceSub,Nat.reduceAdd,Int.reduceToNat,Int.reduceLT,Int.reduceLE,Int.reduceNeg,eq_self,zbp,zbq,zbr,zbs,zbt,zbu,zbv,zbw,zbx,zby,zbz,zca]))))
  refine ⟨D.rows.some, fun e a na => ⟨D.name.some, _, rfl, c_name D.G D.name (by omega) (by omega) fun h12 x12 => ?_⟩⟩
  refine ⟨⟨e, x12 _ _ (put_self ..)⟩, fun e' => ?_⟩
  have xc : Ext h11 (h12.put a (.idict (iD [(nm c 0, 0)]) e')) := ((ext_put na).trans x12).upd na
  refine ⟨_, rfl, c_rows D.G D.rows (m := [(nm c 0, 0)]) (put_self ..) (by simp) _ rfl (tree_one.ht0 (by omega)) (by rw [rows_one]; simp) fun F2 h13 n13 x13 hF2 => ?_⟩
  rw [rows_one] at hF2
  refine ⟨D.name.some, _, rfl, c_name D.G D.name (by omega) (by omega) fun h14 x14 => ?_⟩
  refine ⟨by decide, by decide, new_go fun G2 h15 n15 x15 hG2 => ?_⟩
  have e15 : cmpV h15 .NotEq (.ref F2) (.ref G2) = some false := by
    unfold cmpV; simp only; rw [eqv_rowsV (rows := [(1, nm c 0)]) (x15 _ _ (x14 _ _ hF2)) hG2]; rfl
  rw [e15]
  have xd : Ext h11 h15 := ((xc.trans x13).trans x14).trans x15
  have hF15 := xd _ _ hF11
  have e16 : cmpV h15 .NotEq (.ref F) (.ref kp) = some false := by
    unfold cmpV; simp only; rw [eqv_rowsV hF15 (xd _ _ hkp)]; rfl
  (((try dsimp only [Fn.init,wpS,wpT,wpTs,wpB,wpI,wpC,wpE,wpEs,biP,zaa,zab,zac,zad,zae,zaf,zag,zah,zai,zaj,zak,zal,zam,zan,zao,zap,zaq,zar,zas,zat,zau,zav,zaw,zax,zay,zaz,zba,zbb,zbc,zbd,zbe,isiV,kindV,kindO,tyN,srcP,ya,yb,yc,yd,List.replicate,ye,yf,yg,yh,yi,yj,Nat.reduceSub,Nat.reduceAdd,Nat.reduceBEq,yk,yl,ym,yn,yw,yx,zbf,zbg,zbh,zbi]); (try simp only [zbj,zaa,zaf,zag,zah,zai,zas,zbb,zbc,zbd,zbe,zab,zac,zad,zae,zbk,zbl,zbm,zbn,zak,zal,zbo,zaj,zam,zan,zao,zap,zaq,zar,zax,zay,zaz,zba,zat,zau,zav,zaw,Nat.reduceBEq,yo,yl,yk,yp,yq,yn,yr,ym,ya,yb,yc,yd,ye,yf,yg,yh,yi,yj,not_true_eq_false,not_false_eq_true,Classical.not_not,decide_true,decide_false,ys,yt,yu,yv,true_and,and_true,ite_true,ite_false,if_true,if_false,yw,yx,yy,yz,Nat.sub_self,Nat.reduceSub,Nat.reduceAdd,Int.reduceToNat,Int.reduceLT,Int.reduceLE,Int.reduceNeg,eq_self,zbp,zbq,zbr,zbs,zbt,zbu,zbv,zbw,zbx,zby,zbz,zca])))
  simp only [e16]
  (((try dsimp only [Fn.init,wpS,wpT,wpTs,wpB,wpI,wpC,wpE,wpEs,biP,zaa,zab,zac,zad,zae,zaf,zag,zah,zai,zaj,zak,zal,zam,zan,zao,zap,zaq,zar,zas,zat,zau,zav,zaw,zax,zay,zaz,zba,zbb,zbc,zbd,zbe,isiV,kindV,kindO,tyN,srcP,ya,yb,yc,yd,List.replicate,ye,yf,yg,yh,yi,yj,Nat.reduceSub,Nat.reduceAdd,Nat.reduceBEq,yk,yl,ym,yn,yw,yx,zbf,zbg,zbh,zbi]); (try simp only [zbj,zaa,zaf,zag,zah,zai,zas,zbb,zbc,zbd,zbe,zab,zac,zad,zae,zbk,zbl,zbm,zbn,zak,zal,zbo,zaj,zam,zan,zao,zap,zaq,zar,zax,zay,zaz,zba,zat,zau,zav,zaw,Nat.reduceBEq,yo,yl,yk,yp,yq,yn,yr,ym,ya,yb,yc,yd,ye,yf,yg,yh,yi,yj,not_true_eq_false,not_false_eq_true,Classical.not_not,decide_true,decide_false,ys,yt,yu,yv,true_and,and_true,ite_true,ite_false,if_true,if_false,yw,yx,yy,yz,Nat.sub_self,Nat.reduceSub,Nat.reduceAdd,Int.reduceToNat,Int.reduceLT,Int.reduceLE,Int.reduceNeg,eq_self,zbp,zbq,zbr,zbs,zbt,zbu,zbv,zbw,zbx,zby,zbz,zca])))
  (rw [wcons]; (((try dsimp only [Fn.init,wpS,wpT,wpTs,wpB,wpI,wpC,wpE,wpEs,biP,zaa,zab,zac,zad,zae,zaf,zag,zah,zai,zaj,zak,zal,zam,zan,zao,zap,zaq,zar,zas,zat,zau,zav,zaw,zax,zay,zaz,zba,zbb,zbc,zbd,zbe,isiV,kindV,kindO,tyN,srcP,ya,yb,yc,yd,List.replicate,ye,yf,yg,yh,yi,yj,Nat.reduceSub,Nat.reduceAdd,Nat.reduceBEq,yk,yl,ym,yn,yw,yx,zbf,zbg,zbh,zbi]); (try simp only [zbj,zaa,zaf,zag,zah,zai,zas,zbb,zbc,zbd,zbe,zab,zac,zad,zae,zbk,zbl,zbm,zbn,zak,zal,zbo,zaj,zam,zan,zao,zap,zaq,zar,zax,zay,zaz,zba,zat,zau,zav,zaw,Nat.reduceBEq,yo,yl,yk,yp,yq,yn,yr,ym,ya,yb,yc,yd,ye,yf,yg,yh,yi,yj,not_true_eq_false,not_false_eq_true,Classical.not_not,decide_true,decide_false,ys,yt,yu,yv,true_and,and_true,ite_true,ite_false,if_true,if_false,yw,yx,yy,yz,Nat.sub_self,Nat.reduceSub,Nat.reduceAdd,Int.reduceToNat,Int.reduceLT,Int.reduceLE,Int.reduceNeg,eq_self,zbp,zbq,zbr,zbs,zbt,zbu,zbv,zbw,zbx,zby,zbz,zca]))))
  have hh15 := xd _ _ (x11 _ _ hhg)
  simp only [lv_list hF15, lv_list hh15, List.length_map, rl]
  (((try dsimp only [Fn.init,wpS,wpT,wpTs,wpB,wpI,wpC,wpE,wpEs,biP,zaa,zab,zac,zad,zae,zaf,zag,zah,zai,zaj,zak,zal,zam,zan,zao,zap,zaq,zar,zas,zat,zau,zav,zaw,zax,zay,zaz,zba,zbb,zbc,zbd,zbe,isiV,kindV,kindO,tyN,srcP,ya,yb,yc,yd,List.replicate,ye,yf,yg,yh,yi,yj,Nat.reduceSub,Nat.reduceAdd,Nat.reduceBEq,yk,yl,ym,yn,yw,yx,zbf,zbg,zbh,zbi]); (try simp only [zbj,zaa,zaf,zag,zah,zai,zas,zbb,zbc,zbd,zbe,zab,zac,zad,zae,zbk,zbl,zbm,zbn,zak,zal,zbo,zaj,zam,zan,zao,zap,zaq,zar,zax,zay,zaz,zba,zat,zau,zav,zaw,Nat.reduceBEq,yo,yl,yk,yp,yq,yn,yr,ym,ya,yb,yc,yd,ye,yf,yg,yh,yi,yj,not_true_eq_false,not_false_eq_true,Classical.not_not,decide_true,decide_false,ys,yt,yu,yv,true_and,and_true,ite_true,ite_false,if_true,if_false,yw,yx,yy,yz,Nat.sub_self,Nat.reduceSub,Nat.reduceAdd,Int.reduceToNat,Int.reduceLT,Int.reduceLE,Int.reduceNeg,eq_self,zbp,zbq,zbr,zbs,zbt,zbu,zbv,zbw,zbx,zby,zbz,zca])))
  simp only [hF15]
  refine compL_ext (h0 := h15) sndV (fun h' y => y _ _ hF15) (fun v h' K hK => hK) .refl (fun v hv h' K y hK => ?_) fun h16 x16 => new_go fun S1 h17 n17 x17 hS1 => ?_
  · obtain ⟨r, _, rfl⟩ := List.mem_map.mp hv
    exact hK _ y
  have eS : [] ++ (rs.map rowV).map sndV = (rs.map (·.2)).map V.int := by
    rw [List.nil_append, List.map_map, List.map_map]; rfl
  rw [eS] at hS1
  simp only [hS1, intsV_map]
  refine ⟨by rw [List.length_map]; omega, new_go fun S2 h18 n18 x18 hS2 => ?_⟩
  simp only [x18 _ _ (x17 _ _ (x16 _ _ hh15)), intsV_map]
  refine ⟨by omega, new_go fun S3 h19 n19 x19 hS3 => ?_⟩
  rw [sortI_eq pm] at hS2
  have e17 : cmpV h19 .Eq (.ref S2) (.ref S3) = some true := by
    unfold cmpV; simp only; exact eqv_ints (x19 _ _ hS2) hS3
  rw [e17]
  exact q _ _
theorem c_law (D : Defs X) {h : AH} {L : Addr} {ns : List Int} {Q : V → AH → Prop} {R : RX} (hL : h L = some (.flist (ns.map .int))) (q : ∀ h', Q (.bool true) h') : X.Call 5 "law" [.ref L] h Q R := by
  refine D.law.call D.G rfl ?_
  unfold f_law
  (rw [wcons]; (((try dsimp only [Fn.init,wpS,wpT,wpTs,wpB,wpI,wpC,wpE,wpEs,biP,zaa,zab,zac,zad,zae,zaf,zag,zah,zai,zaj,zak,zal,zam,zan,zao,zap,zaq,zar,zas,zat,zau,zav,zaw,zax,zay,zaz,zba,zbb,zbc,zbd,zbe,isiV,kindV,kindO,tyN,srcP,ya,yb,yc,yd,List.replicate,ye,yf,yg,yh,yi,yj,Nat.reduceSub,Nat.reduceAdd,Nat.reduceBEq,yk,yl,ym,yn,yw,yx,zbf,zbg,zbh,zbi]); (try simp only [zbj,zaa,zaf,zag,zah,zai,zas,zbb,zbc,zbd,zbe,zab,zac,zad,zae,zbk,zbl,zbm,zbn,zak,zal,zbo,zaj,zam,zan,zao,zap,zaq,zar,zax,zay,zaz,zba,zat,zau,zav,zaw,Nat.reduceBEq,yo,yl,yk,yp,yq,yn,yr,ym,ya,yb,yc,yd,ye,yf,yg,yh,yi,yj,not_true_eq_false,not_false_eq_true,Classical.not_not,decide_true,decide_false,ys,yt,yu,yv,true_and,and_true,ite_true,ite_false,if_true,if_false,yw,yx,yy,yz,Nat.sub_self,Nat.reduceSub,Nat.reduceAdd,Int.reduceToNat,Int.reduceLT,Int.reduceLE,Int.reduceNeg,eq_self,zbp,zbq,zbr,zbs,zbt,zbu,zbv,zbw,zbx,zby,zbz,zca]))))
  refine ⟨D.cell.some, _, rfl, c_cell D.G D.cell hL (by decide) ?_⟩
  (((try dsimp only [Fn.init,wpS,wpT,wpTs,wpB,wpI,wpC,wpE,wpEs,biP,zaa,zab,zac,zad,zae,zaf,zag,zah,zai,zaj,zak,zal,zam,zan,zao,zap,zaq,zar,zas,zat,zau,zav,zaw,zax,zay,zaz,zba,zbb,zbc,zbd,zbe,isiV,kindV,kindO,tyN,srcP,ya,yb,yc,yd,List.replicate,ye,yf,yg,yh,yi,yj,Nat.reduceSub,Nat.reduceAdd,Nat.reduceBEq,yk,yl,ym,yn,yw,yx,zbf,zbg,zbh,zbi]); (try simp only [zbj,zaa,zaf,zag,zah,zai,zas,zbb,zbc,zbd,zbe,zab,zac,zad,zae,zbk,zbl,zbm,zbn,zak,zal,zbo,zaj,zam,zan,zao,zap,zaq,zar,zax,zay,zaz,zba,zat,zau,zav,zaw,Nat.reduceBEq,yo,yl,yk,yp,yq,yn,yr,ym,ya,yb,yc,yd,ye,yf,yg,yh,yi,yj,not_true_eq_false,not_false_eq_true,Classical.not_not,decide_true,decide_false,ys,yt,yu,yv,true_and,and_true,ite_true,ite_false,if_true,if_false,yw,yx,yy,yz,Nat.sub_self,Nat.reduceSub,Nat.reduceAdd,Int.reduceToNat,Int.reduceLT,Int.reduceLE,Int.reduceNeg,eq_self,zbp,zbq,zbr,zbs,zbt,zbu,zbv,zbw,zbx,zby,zbz,zca])))
  (rw [wcons]; (((try dsimp only [Fn.init,wpS,wpT,wpTs,wpB,wpI,wpC,wpE,wpEs,biP,zaa,zab,zac,zad,zae,zaf,zag,zah,zai,zaj,zak,zal,zam,zan,zao,zap,zaq,zar,zas,zat,zau,zav,zaw,zax,zay,zaz,zba,zbb,zbc,zbd,zbe,isiV,kindV,kindO,tyN,srcP,ya,yb,yc,yd,List.replicate,ye,yf,yg,yh,yi,yj,Nat.reduceSub,Nat.reduceAdd,Nat.reduceBEq,yk,yl,ym,yn,yw,yx,zbf,zbg,zbh,zbi]); (try simp only [zbj,zaa,zaf,zag,zah,zai,zas,zbb,zbc,zbd,zbe,zab,zac,zad,zae,zbk,zbl,zbm,zbn,zak,zal,zbo,zaj,zam,zan,zao,zap,zaq,zar,zax,zay,zaz,zba,zat,zau,zav,zaw,Nat.reduceBEq,yo,yl,yk,yp,yq,yn,yr,ym,ya,yb,yc,yd,ye,yf,yg,yh,yi,yj,not_true_eq_false,not_false_eq_true,Classical.not_not,decide_true,decide_false,ys,yt,yu,yv,true_and,and_true,ite_true,ite_false,if_true,if_false,yw,yx,yy,yz,Nat.sub_self,Nat.reduceSub,Nat.reduceAdd,Int.reduceToNat,Int.reduceLT,Int.reduceLE,Int.reduceNeg,eq_self,zbp,zbq,zbr,zbs,zbt,zbu,zbv,zbw,zbx,zby,zbz,zca]))))
  refine ⟨D.cell.some, _, rfl, c_cell D.G D.cell hL (by decide) ?_⟩
  (((try dsimp only [Fn.init,wpS,wpT,wpTs,wpB,wpI,wpC,wpE,wpEs,biP,zaa,zab,zac,zad,zae,zaf,zag,zah,zai,zaj,zak,zal,zam,zan,zao,zap,zaq,zar,zas,zat,zau,zav,zaw,zax,zay,zaz,zba,zbb,zbc,zbd,zbe,isiV,kindV,kindO,tyN,srcP,ya,yb,yc,yd,List.replicate,ye,yf,yg,yh,yi,yj,Nat.reduceSub,Nat.reduceAdd,Nat.reduceBEq,yk,yl,ym,yn,yw,yx,zbf,zbg,zbh,zbi]); (try simp only [zbj,zaa,zaf,zag,zah,zai,zas,zbb,zbc,zbd,zbe,zab,zac,zad,zae,zbk,zbl,zbm,zbn,zak,zal,zbo,zaj,zam,zan,zao,zap,zaq,zar,zax,zay,zaz,zba,zat,zau,zav,zaw,Nat.reduceBEq,yo,yl,yk,yp,yq,yn,yr,ym,ya,yb,yc,yd,ye,yf,yg,yh,yi,yj,not_true_eq_false,not_false_eq_true,Classical.not_not,decide_true,decide_false,ys,yt,yu,yv,true_and,and_true,ite_true,ite_false,if_true,if_false,yw,yx,yy,yz,Nat.sub_self,Nat.reduceSub,Nat.reduceAdd,Int.reduceToNat,Int.reduceLT,Int.reduceLE,Int.reduceNeg,eq_self,zbp,zbq,zbr,zbs,zbt,zbu,zbv,zbw,zbx,zby,zbz,zca])))
  (rw [wcons]; (((try dsimp only [Fn.init,wpS,wpT,wpTs,wpB,wpI,wpC,wpE,wpEs,biP,zaa,zab,zac,zad,zae,zaf,zag,zah,zai,zaj,zak,zal,zam,zan,zao,zap,zaq,zar,zas,zat,zau,zav,zaw,zax,zay,zaz,zba,zbb,zbc,zbd,zbe,isiV,kindV,kindO,tyN,srcP,ya,yb,yc,yd,List.replicate,ye,yf,yg,yh,yi,yj,Nat.reduceSub,Nat.reduceAdd,Nat.reduceBEq,yk,yl,ym,yn,yw,yx,zbf,zbg,zbh,zbi]); (try simp only [zbj,zaa,zaf,zag,zah,zai,zas,zbb,zbc,zbd,zbe,zab,zac,zad,zae,zbk,zbl,zbm,zbn,zak,zal,zbo,zaj,zam,zan,zao,zap,zaq,zar,zax,zay,zaz,zba,zat,zau,zav,zaw,Nat.reduceBEq,yo,yl,yk,yp,yq,yn,yr,ym,ya,yb,yc,yd,ye,yf,yg,yh,yi,yj,not_true_eq_false,not_false_eq_true,Classical.not_not,decide_true,decide_false,ys,yt,yu,yv,true_and,and_true,ite_true,ite_false,if_true,if_false,yw,yx,yy,yz,Nat.sub_self,Nat.reduceSub,Nat.reduceAdd,Int.reduceToNat,Int.reduceLT,Int.reduceLE,Int.reduceNeg,eq_self,zbp,zbq,zbr,zbs,zbt,zbu,zbv,zbw,zbx,zby,zbz,zca]))))
  refine ⟨D.cell.some, _, rfl, c_cell D.G D.cell hL (by decide) ?_⟩
  (((try dsimp only [Fn.init,wpS,wpT,wpTs,wpB,wpI,wpC,wpE,wpEs,biP,zaa,zab,zac,zad,zae,zaf,zag,zah,zai,zaj,zak,zal,zam,zan,zao,zap,zaq,zar,zas,zat,zau,zav,zaw,zax,zay,zaz,zba,zbb,zbc,zbd,zbe,isiV,kindV,kindO,tyN,srcP,ya,yb,yc,yd,List.replicate,ye,yf,yg,yh,yi,yj,Nat.reduceSub,Nat.reduceAdd,Nat.reduceBEq,yk,yl,ym,yn,yw,yx,zbf,zbg,zbh,zbi]); (try simp only [zbj,zaa,zaf,zag,zah,zai,zas,zbb,zbc,zbd,zbe,zab,zac,zad,zae,zbk,zbl,zbm,zbn,zak,zal,zbo,zaj,zam,zan,zao,zap,zaq,zar,zax,zay,zaz,zba,zat,zau,zav,zaw,Nat.reduceBEq,yo,yl,yk,yp,yq,yn,yr,ym,ya,yb,yc,yd,ye,yf,yg,yh,yi,yj,not_true_eq_false,not_false_eq_true,Classical.not_not,decide_true,decide_false,ys,yt,yu,yv,true_and,and_true,ite_true,ite_false,if_true,if_false,yw,yx,yy,yz,Nat.sub_self,Nat.reduceSub,Nat.reduceAdd,Int.reduceToNat,Int.reduceLT,Int.reduceLE,Int.reduceNeg,eq_self,zbp,zbq,zbr,zbs,zbt,zbu,zbv,zbw,zbx,zby,zbz,zca])))
  have inv : inV h (.int (cellAt ns 0 / 9 % 8)) (.tup [.int 1, .int 2]) = some (decide (cellAt ns 0 / 9 % 8 ∈ [(1 : Int), 2])) := inV_tup (l := [1, 2])
  refine ⟨by decide, ?_⟩
  have b0 := Int.emod_nonneg (cellAt ns 0) (b := 9) (by decide)
  have b1 := Int.emod_lt_of_pos (cellAt ns 0) (b := 9) (by decide)
  have rest := fun (n : Nat) (hn : n ≤ 68) => law_rest D (n := n) (w := decide (cellAt ns 0 / 9 % 8 = 2)) (K := fun out _ h' => match out with | .next => Q .none h' | .ret v => Q v h') (Rs := fun C _ h' => R C h') hL hn fun _ h' => q h'
  simp only [f_law, List.drop_succ_cons, List.drop_zero] at rest
  simp only [inv]
  split
  · (rw [wcons]; (((try dsimp only [Fn.init,wpS,wpT,wpTs,wpB,wpI,wpC,wpE,wpEs,biP,zaa,zab,zac,zad,zae,zaf,zag,zah,zai,zaj,zak,zal,zam,zan,zao,zap,zaq,zar,zas,zat,zau,zav,zaw,zax,zay,zaz,zba,zbb,zbc,zbd,zbe,isiV,kindV,kindO,tyN,srcP,ya,yb,yc,yd,List.replicate,ye,yf,yg,yh,yi,yj,Nat.reduceSub,Nat.reduceAdd,Nat.reduceBEq,yk,yl,ym,yn,yw,yx,zbf,zbg,zbh,zbi]); (try simp only [zbj,zaa,zaf,zag,zah,zai,zas,zbb,zbc,zbd,zbe,zab,zac,zad,zae,zbk,zbl,zbm,zbn,zak,zal,zbo,zaj,zam,zan,zao,zap,zaq,zar,zax,zay,zaz,zba,zat,zau,zav,zaw,Nat.reduceBEq,yo,yl,yk,yp,yq,yn,yr,ym,ya,yb,yc,yd,ye,yf,yg,yh,yi,yj,not_true_eq_false,not_false_eq_true,Classical.not_not,decide_true,decide_false,ys,yt,yu,yv,true_and,and_true,ite_true,ite_false,if_true,if_false,yw,yx,yy,yz,Nat.sub_self,Nat.reduceSub,Nat.reduceAdd,Int.reduceToNat,Int.reduceLT,Int.reduceLE,Int.reduceNeg,eq_self,zbp,zbq,zbr,zbs,zbt,zbu,zbv,zbw,zbx,zby,zbz,zca]))))
    have := rest (cellAt ns 0 % 9 + 60).toNat (by omega)
    rw [Int.toNat_of_nonneg (by omega)] at this
    exact this
  · have := rest (cellAt ns 0 % 9).toNat (by omega)
    rw [Int.toNat_of_nonneg (by omega)] at this
    (((try dsimp only [Fn.init,wpS,wpT,wpTs,wpB,wpI,wpC,wpE,wpEs,biP,zaa,zab,zac,zad,zae,zaf,zag,zah,zai,zaj,zak,zal,zam,zan,zao,zap,zaq,zar,zas,zat,zau,zav,zaw,zax,zay,zaz,zba,zbb,zbc,zbd,zbe,isiV,kindV,kindO,tyN,srcP,ya,yb,yc,yd,List.replicate,ye,yf,yg,yh,yi,yj,Nat.reduceSub,Nat.reduceAdd,Nat.reduceBEq,yk,yl,ym,yn,yw,yx,zbf,zbg,zbh,zbi]); (try simp only [zbj,zaa,zaf,zag,zah,zai,zas,zbb,zbc,zbd,zbe,zab,zac,zad,zae,zbk,zbl,zbm,zbn,zak,zal,zbo,zaj,zam,zan,zao,zap,zaq,zar,zax,zay,zaz,zba,zat,zau,zav,zaw,Nat.reduceBEq,yo,yl,yk,yp,yq,yn,yr,ym,ya,yb,yc,yd,ye,yf,yg,yh,yi,yj,not_true_eq_false,not_false_eq_true,Classical.not_not,decide_true,decide_false,ys,yt,yu,yv,true_and,and_true,ite_true,ite_false,if_true,if_false,yw,yx,yy,yz,Nat.sub_self,Nat.reduceSub,Nat.reduceAdd,Int.reduceToNat,Int.reduceLT,Int.reduceLE,Int.reduceNeg,eq_self,zbp,zbq,zbr,zbs,zbt,zbu,zbv,zbw,zbx,zby,zbz,zca])))
    exact this
end
end Mine.L04

open PySem PySem.W PyProof.Rows
namespace Mine.L04
theorem runs : ∀ (w : World) (os : OsState), topLook PySem.Challenge.rw_uf050008_04.row.prog (viewOf PySem.Challenge.rw_uf050008_04.row.prog) (fun s => xlAt (viewOf PySem.Challenge.rw_uf050008_04.row.prog) [] s && recOk PySem.Challenge.rw_uf050008_04.row.records s) (fun s => ckText fas Fns clss excs (fragAt s.heap (List.range 93))) w 10000 os = some (true, openGood (viewOf PySem.Challenge.rw_uf050008_04.row.prog) [], true) := fun w os => by kernel_rfl
theorem holds : PySem.Challenge.rw_uf050008_04.Holds := by
  w_on
  refine law_holds (ck := ckText fas Fns clss excs) (as := List.range 93) (N := 10000) (by kernel_rfl) (by kernel_rfl) (by decide) (fun s => by kernel_rfl) runs ⟨_, _, by rfl, by rfl, by rfl⟩ (by rfl) (by decide +kernel) ⟨rfl, rfl, rfl, rfl, rfl, by decide +kernel⟩ (by w_witness2) ?_
  intro d kwd hn w s₀ s₁ mg mb G Y fa o pm cd doc dV kV ho hd hcd hD hmg hg args vals as hpre hlay hrd hwl hlo
  obtain ⟨K, KX, ck⟩ := Y
  have H := headOk_of ck
  clear hd hcd hD ck
  wrow_args hpre hlay hrd hwl hlo
  rename_i ns _ _ _ _ _ _ _ L items _ hl _ _ _ hI _ hlen _
  let X : Mine.Ctx := ⟨PySem.Challenge.rw_uf050008_04.row.prog, w, s₁.heap, mg, mb, fun n => fas.lookup n, fun n => clsL clss n, fun _ => none, fun C m => methL clss C m, fun C n => attrL clss C n, fun n => excL excs n, fun C H => subL excs C H⟩
  have Gd : X.Good := good_of (K := K) (fs := fas) KX G.T.g G.T.b G.T.nolimit G.T.builtins (top_sysm G.T) (fun _ => rfl) H.free H.fns (fun n v e => by cases e) (kok_none (fun _ => rfl) (fun _ _ => rfl) (fun _ _ => rfl)) (fun _ C e => absurd (show none = some C from e) (fun z => nomatch z))
  have hfa : mg "law" = some (.ref 92) := H.ref (X := X) KX G.T.g 11 rfl (by decide +kernel)
  rw [hn] at hmg
  have hmg' : mg "law" = some (.ref fa) := hmg
  rw [hfa] at hmg'; cases hmg'
  have D := fun i f a F e1 e2 e3 => H.def (f := f) (a := a) (F := F) Gd KX i e1 e2 e3
  have call := c_law (X := X) (Q := fun v _ => v = .bool true) (R := fun _ _ => False) ⟨Gd, D 0 _ _ _ rfl rfl rfl, D 1 _ _ _ rfl rfl rfl, D 2 _ _ _ rfl rfl rfl, D 3 _ _ _ rfl rfl rfl, D 4 _ _ _ rfl rfl rfl, D 5 _ _ _ rfl rfl rfl, D 6 _ _ _ rfl rfl rfl, D 7 _ _ _ rfl rfl rfl, D 8 _ _ _ rfl rfl rfl, D 9 _ _ _ rfl rfl rfl, D 10 _ _ _ rfl rfl rfl, D 11 _ _ _ rfl rfl rfl⟩ (startAH_self (L := L) (ns := ns)) (fun _ => rfl)
  refine law_end (X := X) (k := 5) (fa := 92) rfl hg hl (ints_rep hI) (by unfold big; omega) (by omega) rfl call ?_ ?_
  · clear call D Gd X
    exact fun _ => rfl
  · clear call D Gd X
    exact postW_of (r := PySem.Challenge.rw_uf050008_04.row.toRowW) (X := true) (by kernel_rfl) (by kernel_rfl) rfl
end Mine.L04
open PySem PySem.W PyProof.Rows
theorem PySem.Challenge.cw_uf050008_04_holds : PySem.Challenge.rw_uf050008_04.Holds :=
  Mine.L04.holds
