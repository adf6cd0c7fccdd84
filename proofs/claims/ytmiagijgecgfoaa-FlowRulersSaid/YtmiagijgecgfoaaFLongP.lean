/-
  The longest way, in plain words. No program.
-/
import Derived.Test.YtmiagijgecgfoaaFTrim
namespace Go.Proofs.Ytmiagijgecgfoaa
open Go.RowKit

def bestL : List Nat → Nat
  | [] => 0
  | x :: r => max x (bestL r)
theorem bestL_snoc (l : List Nat) (x : Nat) : bestL (l ++ [x]) = max (bestL l) x := by
  induction l with
  | nil => simp [bestL]
  | cons y l ih => simp only [List.cons_append, bestL, ih]; omega
theorem bestL_le {l : List Nat} {m : Nat} (h : ∀ x ∈ l, x ≤ m) : bestL l ≤ m := by
  induction l with
  | nil => exact Nat.zero_le _
  | cons y l ih =>
    have h1 := h y (List.mem_cons_self ..)
    have h2 := ih fun x hx => h x (List.mem_cons_of_mem _ hx)
    simp only [bestL]
    omega
/-- the longest way from a place has so many instructions -/
inductive Long (l : List Ins) : Nat → Nat → Prop
  | out {a : Nat} : l.length ≤ a → Long l a 0
  | into {a : Nat} (vs : List Nat) : a < l.length → vs.length = (nextL l a).length → (∀ (i x y : Nat), (nextL l a)[i]? = some x → vs[i]? = some y → Long l x y) → Long l a (bestL vs + 1)
theorem Long.unique {l : List Ins} {a k k' : Nat} (h : Long l a k) (h' : Long l a k') : k = k' := by
  induction h generalizing k' with
  | out h1 =>
    cases h' with
    | out _ => rfl
    | into vs h2 _ _ => omega
  | @into a vs h1 h2 h3 ih =>
    cases h' with
    | out h4 => omega
    | into vs' h4 h5 h6 =>
      have : vs = vs' := by
        apply List.ext_getElem?
        intro i
        by_cases hi : i < vs.length
        · have hx : (nextL l a)[i]? = some ((nextL l a)[i]'(by omega)) := List.getElem?_eq_getElem _
          have hy : vs[i]? = some vs[i] := List.getElem?_eq_getElem hi
          have hy' : vs'[i]? = some (vs'[i]'(by omega)) := List.getElem?_eq_getElem _
          rw [hy, hy', ih i _ _ hx hy (h6 i _ _ hx hy')]
        · rw [List.getElem?_eq_none (by omega), List.getElem?_eq_none (by omega)]
      rw [this]

/-- no place lies on a loop -/
def NoLoop (l : List Ins) : Prop := ∀ i, RE l (-1) 0 i → ∀ a ∈ nextL l i, ¬ RE l (-1) a i
theorem nat_ne_neg (a : Nat) : (a : Int) ≠ -1 := by omega
/-- places gone through -/
structure Gone (l : List Ins) (m : Nat → Bool) (a : Nat) : Prop where
  at_ : m a = true
  re : ∀ p, m p = true → RE l (-1) p a
  from0 : RE l (-1) 0 a
theorem Gone.new {l : List Ins} {m : Nat → Bool} {a j : Nat} (h : Gone l m a) (hn : NoLoop l) (hj : j ∈ nextL l a) : m j = false := by
  cases hm : m j with
  | false => rfl
  | true => exact absurd (h.re j hm) (hn a h.from0 j hj)
theorem Gone.next {l : List Ins} {m : Nat → Bool} {a j : Nat} (h : Gone l m a) (hj : j ∈ nextL l a) : Gone l (updB m j) j where
  at_ := updB_same m j
  re p hp := by
    by_cases e : p = j
    · subst e; exact .refl (nat_ne_neg p)
    · rw [updB_ne e] at hp
      exact .step (h.re p hp) hj (nat_ne_neg j)
  from0 := .step h.from0 hj (nat_ne_neg j)
theorem Gone.start (l : List Ins) {a : Nat} (h : RE l (-1) 0 a) : Gone l (updB (fun _ => false) a) a where
  at_ := updB_same _ a
  re p hp := by
    by_cases e : p = a
    · subst e; exact .refl (nat_ne_neg p)
    · rw [updB_ne e] at hp; cases hp
  from0 := h
theorem cntF_le (m : Nat → Bool) : cntF m ≤ 65 := by
  unfold cntF
  have := List.countP_le_length (p := fun i => !m i) (l := List.range 65)
  simpa using this
theorem Long.le {l : List Ins} (hp : Prog l) (hn : NoLoop l) {a k : Nat} (h : Long l a k) : ∀ m, Gone l m a → k ≤ cntF m + 1 := by
  have hle := hp.le
  induction h with
  | out _ => intro m _; omega
  | @into a vs h1 h2 h3 ih =>
    intro m hg
    have : bestL vs ≤ cntF m := by
      refine bestL_le fun y hy => ?_
      obtain ⟨i, hi, rfl⟩ := List.mem_iff_getElem.1 hy
      have hi' : i < (nextL l a).length := by omega
      have hj : (nextL l a)[i] ∈ nextL l a := List.getElem_mem hi'
      have h4 := ih i _ _ (List.getElem?_eq_getElem hi') (List.getElem?_eq_getElem hi) _ (hg.next hj)
      have h5 := cntF_upd (m := m) (a := (nextL l a)[i]) (by have := nextL_le hp hj; omega) (hg.new hn hj)
      omega
    omega
theorem Long.le66 {l : List Ins} (hp : Prog l) (hn : NoLoop l) {a k : Nat} (h : Long l a k) (h0 : RE l (-1) 0 a) : k ≤ 66 := by
  have := h.le hp hn _ (Gone.start l h0)
  have := cntF_le (updB (fun _ => false) a)
  omega
/-- what is known is so -/
def KN (l : List Ins) (f : Nat → Nat) : Prop := ∀ i, 0 < f i → Long l i (f i) ∧ i < l.length ∧ f i ≤ 66
theorem KN.upd {l : List Ins} {f : Nat → Nat} (h : KN l f) {a k : Nat} (hl : Long l a k) (ha : a < l.length) (hk : k ≤ 66) : KN l (updN f a k) := fun i hi => by
  unfold updN at hi ⊢
  by_cases e : i = a
  · subst e
    rw [if_pos rfl]
    exact ⟨hl, ha, hk⟩
  · rw [if_neg e] at hi ⊢
    exact h i hi
end Go.Proofs.Ytmiagijgecgfoaa
