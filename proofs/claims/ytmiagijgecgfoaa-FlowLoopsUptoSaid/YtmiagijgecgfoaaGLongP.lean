/-
  Rounds of places against the longest way, in plain words. No function of the program.
-/
import Derived.Test.YtmiagijgecgfoaaFLong2
namespace Go.Proofs.Ytmiagijgecgfoaa
open Go.RowKit

/-- from a to k in just t steps -/
inductive AtT (l : List Ins) (a : Nat) : Nat → Nat → Prop
  | zero : AtT l a 0 a
  | succ {t b c : Nat} : AtT l a t b → c ∈ nextL l b → AtT l a (t + 1) c
section
variable {l : List Ins} {a x t k M : Nat}
theorem AtT.cons (hx : x ∈ nextL l a) (h : AtT l x t k) : AtT l a (t + 1) k := by
  induction h with
  | zero => exact .succ .zero hx
  | succ _ h1 ih => exact .succ ih h1
theorem AtT.long (h : AtT l a t k) (hL : Long l a M) : ∃ v, Long l k v ∧ t + v ≤ M := by
  induction h with
  | zero => exact ⟨M, hL, by omega⟩
  | succ _ h1 ih =>
    rename_i t b c _
    obtain ⟨v, hv, hle⟩ := ih
    cases hv with
    | out h2 =>
      have e : nextL l b = [] := by unfold nextL; rw [List.getElem?_eq_none h2]
      rw [e] at h1
      cases h1
    | into vs h2 h3 h4 =>
      obtain ⟨i, hi, rfl⟩ := List.mem_iff_getElem.1 h1
      have hi' : i < vs.length := by omega
      have hm : ∀ (q : List Nat) (j : Nat) (hj : j < q.length), q[j] ≤ bestL q := by
        intro q
        induction q with
        | nil => intro j hj; simp at hj
        | cons y q ihq =>
          intro j hj
          simp only [bestL]
          cases j with
          | zero => simp; omega
          | succ j => have := ihq j (by simpa using hj); simp; omega
      have := hm vs i hi'
      exact ⟨vs[i], h4 i _ _ (List.getElem?_eq_getElem hi) (List.getElem?_eq_getElem hi'), by omega⟩
theorem AtT.le (h : AtT l a t k) (hL : Long l a M) : t ≤ M := by
  obtain ⟨v, _, h⟩ := h.long hL
  omega
theorem AtT.lt (h : AtT l a t k) (hk : k < l.length) (hL : Long l a M) : t < M := by
  obtain ⟨v, hv, h⟩ := h.long hL
  cases hv with
  | out h2 => omega
  | into vs _ _ _ => omega
theorem best_mem : ∀ (q : List Nat), 0 < bestL q → ∃ (i : Nat), q[i]? = some (bestL q)
  | [], h => by simp [bestL] at h
  | y :: q, h => by
    simp only [bestL] at h ⊢
    by_cases e : bestL q ≤ y
    · exact ⟨0, by simp; omega⟩
    · obtain ⟨i, hi⟩ := best_mem q (by omega)
      exact ⟨i + 1, by simp [hi]; omega⟩
theorem Long.at_ : ∀ (t : Nat) {a M : Nat}, Long l a M → t < M → ∃ k, k < l.length ∧ AtT l a t k
  | 0, a, M, h, ht => by
    cases h with
    | out h1 => omega
    | into vs h1 _ _ => exact ⟨a, h1, .zero⟩
  | t + 1, a, M, h, ht => by
    cases h with
    | out h1 => omega
    | into vs h1 h2 h3 =>
      obtain ⟨i, hi⟩ := best_mem vs (by omega)
      have hl := (List.getElem?_eq_some_iff.1 hi).1
      have hx : (nextL l a)[i]? = some (nextL l a)[i] := List.getElem?_eq_getElem (by omega)
      obtain ⟨k, hk, hA⟩ := Long.at_ t (h3 i _ _ hx hi) (by omega)
      exact ⟨k, hk, .cons (mem_of_get hx) hA⟩
theorem AtT.next (S : Nat → Bool) (hS : ∀ k, S k = true ↔ AtT l a t k) (S2 : Nat → Bool) (h2 : ∀ j, S2 j = true ↔ ∃ i, S i = true ∧ j ∈ nextL l i) : ∀ j, S2 j = true ↔ AtT l a (t + 1) j := fun j => by
  rw [h2 j]
  constructor
  · rintro ⟨i, hi, hj⟩
    exact .succ ((hS i).1 hi) hj
  · intro h
    cases h with
    | succ h1 h2 => exact ⟨_, (hS _).2 h1, h2⟩
end
end Go.Proofs.Ytmiagijgecgfoaa
