/-
  A matrix of truths as cells; Warshall's way, in plain words. No function of the program.
-/
import Derived.Test.YtmiagijgecgfoaaGEdge
import Derived.Test.YtmiagijgecgfoaaFFrom2
namespace Go.Proofs.Ytmiagijgecgfoaa
open Go.RowKit

/-- a matrix as cells -/
def mW (M : Nat → Nat → Bool) : Array Value := ((List.range 4225).map fun q => Value.bool (M (q / 65) (q % 65))).toArray
theorem mW_size (M : Nat → Nat → Bool) : (mW M).size = 4225 := by simp [mW]
theorem mW_get (M : Nat → Nat → Bool) {q : Nat} (h : q < 4225) : (mW M)[q]? = some (.bool (M (q / 65) (q % 65))) := by
  unfold mW
  rw [List.getElem?_toArray, List.getElem?_map, List.getElem?_range h]
  rfl
theorem mW_at (M : Nat → Nat → Bool) {i j : Nat} (hi : i < 65) (hj : j < 65) : (mW M)[i * 65 + j]? = some (.bool (M i j)) := by
  rw [mW_get M (by omega), show (i * 65 + j) / 65 = i by omega, show (i * 65 + j) % 65 = j by omega]
def updM (M : Nat → Nat → Bool) (i j : Nat) (v : Bool) : Nat → Nat → Bool := fun i' j' => if i' = i ∧ j' = j then v else M i' j'
theorem mW_set (M : Nat → Nat → Bool) {i j : Nat} (hj : j < 65) (v : Bool) : (mW M).setIfInBounds (i * 65 + j) (.bool v) = mW (updM M i j v) := by
  apply Array.ext_getElem?
  intro q
  rw [Array.getElem?_setIfInBounds]
  by_cases hq : q < 4225
  · rw [mW_get _ hq, mW_get _ hq]
    by_cases e : i * 65 + j = q
    · subst e
      rw [if_pos rfl, mW_size, if_pos hq, show (i * 65 + j) / 65 = i by omega, show (i * 65 + j) % 65 = j by omega]
      unfold updM
      rw [if_pos ⟨rfl, rfl⟩]
    · rw [if_neg e]
      unfold updM
      rw [if_neg (by omega)]
  · have h1 : (mW M)[q]? = none := Array.getElem?_eq_none (by rw [mW_size]; omega)
    have h2 : (mW (updM M i j v))[q]? = none := Array.getElem?_eq_none (by rw [mW_size]; omega)
    rw [h1, h2, mW_size]
    split
    · rw [if_neg (by omega)]
    · rfl
theorem mW_one (M : Nat → Nat → Bool) : (mW M).all (·.oneCell') = true := by
  rw [Array.all_eq_true_iff_forall_mem]
  intro x hx
  unfold mW at hx
  simp only [List.mem_toArray, List.mem_map] at hx
  obtain ⟨i, _, rfl⟩ := hx
  rfl
theorem sizeW (M : Nat → Nat → Bool) : (Try.prog.info? 111).map (·.size) = some (mW M).size := by
  rw [mW_size]
  kernel_rfl
theorem zeros111 : Try.zeroCells111 = mW (fun _ _ => false) := by kernel_rfl
def waysV (M : Nat → Nat → Bool) : Value := .agg (mW M)

/-- a step that touches not the place 'out' -/
def EdP (l : List Ins) (out : Int) (i j : Nat) : Prop := j ∈ nextL l i ∧ (i : Int) ≠ out ∧ (j : Int) ≠ out
/-- a way with places between that are less than k -/
inductive TK (l : List Ins) (out : Int) (k : Nat) : Nat → Nat → Prop
  | one {i j : Nat} : EdP l out i j → TK l out k i j
  | via {i m j : Nat} : TK l out k i m → TK l out k m j → m < k → TK l out k i j
section
variable {l : List Ins} {out : Int} {k i j : Nat}
theorem TK.up (h : TK l out k i j) : TK l out (k + 1) i j := by
  induction h with
  | one h => exact .one h
  | via _ _ h h1 h2 => exact .via h1 h2 (by omega)
theorem TK.succ : TK l out (k + 1) i j ↔ TK l out k i j ∨ (TK l out k i k ∧ TK l out k k j) := by
  constructor
  · intro h
    induction h with
    | one h => exact .inl (.one h)
    | via _ _ hm h1 h2 =>
      rename_i a m b
      rcases Nat.lt_succ_iff_lt_or_eq.1 hm with hm | rfl
      · rcases h1 with h1 | ⟨h1, h1'⟩ <;> rcases h2 with h2 | ⟨h2, h2'⟩
        · exact .inl (.via h1 h2 hm)
        · exact .inr ⟨.via h1 h2 hm, h2'⟩
        · exact .inr ⟨h1, .via h1' h2 hm⟩
        · exact .inr ⟨h1, h2'⟩
      · rcases h1 with h1 | ⟨h1, _⟩ <;> rcases h2 with h2 | ⟨_, h2⟩
        · exact .inr ⟨h1, h2⟩
        · exact .inr ⟨h1, h2⟩
        · exact .inr ⟨h1, h2⟩
        · exact .inr ⟨h1, h2⟩
  · rintro (h | ⟨h1, h2⟩)
    · exact h.up
    · exact .via h1.up h2.up (by omega)
theorem TK.col : TK l out (k + 1) i k ↔ TK l out k i k := by
  rw [TK.succ]
  exact ⟨fun h => by rcases h with h | ⟨h, _⟩ <;> exact h, .inl⟩
theorem TK.row : TK l out (k + 1) k j ↔ TK l out k k j := by
  rw [TK.succ]
  exact ⟨fun h => by rcases h with h | ⟨_, h⟩ <;> exact h, .inl⟩
theorem TK.zero : TK l out 0 i j ↔ EdP l out i j :=
  ⟨fun h => by cases h with
    | one h => exact h
    | via _ _ h => exact absurd h (Nat.not_lt_zero _), .one⟩
theorem TK.full (hb : ∀ b c, c ∈ nextL l b → c < k) : TK l out k i j ↔ (i : Int) ≠ out ∧ ∃ a ∈ nextL l i, RE l out a j := by
  constructor
  · intro h
    induction h with
    | one h => exact ⟨h.2.1, _, h.1, .refl h.2.2⟩
    | via _ _ _ h1 h2 =>
      obtain ⟨g1, a, ha, hra⟩ := h1
      obtain ⟨g2, b, hb, hrb⟩ := h2
      exact ⟨g1, a, ha, hra.trans (.cons g2 hb hrb)⟩
  · rintro ⟨h1, a, ha, hra⟩
    have hk : j < k ∧ TK l out k i j := by
      induction hra with
      | refl h => exact ⟨hb _ _ ha, .one ⟨ha, h1, h⟩⟩
      | step hr h2 h3 ih => exact ⟨hb _ _ h2, .via ih.2 (.one ⟨h2, hr.ne, h3⟩) ih.1⟩
    exact hk.2
end
/-- what Ways hands back -/
def IsWays (l : List Ins) (out : Int) (M : Nat → Nat → Bool) : Prop := ∀ i j, M i j = true ↔ (i : Int) ≠ out ∧ ∃ a ∈ nextL l i, RE l out a j

/-- while the edges are laid -/
def Fill (l : List Ins) (out : Int) (i j : Nat) (M : Nat → Nat → Bool) : Prop := ∀ a b, M a b = true ↔ (a < i ∨ (a = i ∧ b < j)) ∧ EdP l out a b
/-- while the ways over k are laid -/
def Warsh (l : List Ins) (out : Int) (k i j : Nat) (M : Nat → Nat → Bool) : Prop := ∀ a b, M a b = true ↔ if a < i ∨ (a = i ∧ b < j) then TK l out (k + 1) a b else TK l out k a b
section
variable {l : List Ins} {out : Int} {k i j : Nat} {M : Nat → Nat → Bool}
theorem Fill.zero : Fill l out 0 0 (fun _ _ => false) := fun a b => by
  constructor
  · intro h; cases h
  · rintro ⟨h, _⟩; omega
theorem Fill.put (h : Fill l out i j M) {v : Bool} (hv : v = true ↔ EdP l out i j) : Fill l out i (j + 1) (updM M i j v) := fun a b => by
  unfold updM
  by_cases e : a = i ∧ b = j
  · rw [if_pos e, hv]
    obtain ⟨rfl, rfl⟩ := e
    exact ⟨fun h => ⟨.inr ⟨rfl, by omega⟩, h⟩, fun h => h.2⟩
  · rw [if_neg e, h a b]
    constructor
    · rintro ⟨h1, h2⟩; exact ⟨by omega, h2⟩
    · rintro ⟨h1, h2⟩; exact ⟨by omega, h2⟩
theorem Fill.next (h : Fill l out i j M) (hj : ∀ b c, c ∈ nextL l b → c < j) : Fill l out (i + 1) 0 M := fun a b => by
  rw [h a b]
  constructor
  · rintro ⟨h1, h2⟩; exact ⟨by omega, h2⟩
  · rintro ⟨h1, h2⟩; have := hj _ _ h2.1; exact ⟨by omega, h2⟩
theorem Fill.done (h : Fill l out i 0 M) (hi : l.length ≤ i) : Warsh l out 0 0 0 M := fun a b => by
  rw [h a b, if_neg (by omega), TK.zero]
  constructor
  · exact fun h => h.2
  · intro h2
    refine ⟨?_, h2⟩
    rcases Nat.lt_or_ge a i with h3 | h3
    · exact .inl h3
    · have := h2.1
      unfold nextL at this
      rw [List.getElem?_eq_none (by omega)] at this
      cases this
theorem Warsh.at_col (h : Warsh l out k i j M) : M i k = true ↔ TK l out k i k := by
  rw [h i k]
  split
  · exact TK.col
  · exact Iff.rfl
theorem Warsh.at_row (h : Warsh l out k i j M) : M k j = true ↔ TK l out k k j := by
  rw [h k j]
  split
  · exact TK.row
  · exact Iff.rfl
theorem Warsh.at_ (h : Warsh l out k i j M) : M i j = true ↔ TK l out k i j := by
  rw [h i j, if_neg (by omega)]
theorem Warsh.put (h : Warsh l out k i j M) (hc : M i k = true) : Warsh l out k i (j + 1) (updM M i j (M i j || M k j)) := fun a b => by
  unfold updM
  by_cases e : a = i ∧ b = j
  · rw [if_pos e]
    obtain ⟨rfl, rfl⟩ := e
    rw [if_pos (.inr ⟨rfl, by omega⟩), Bool.or_eq_true, h.at_, h.at_row, TK.succ]
    have := h.at_col.1 hc
    exact ⟨fun h => by rcases h with h | h; exact .inl h; exact .inr ⟨this, h⟩, fun h => by rcases h with h | ⟨_, h⟩; exact .inl h; exact .inr h⟩
  · rw [if_neg e, h a b]
    have : (a < i ∨ (a = i ∧ b < j)) ↔ (a < i ∨ (a = i ∧ b < j + 1)) := by omega
    simp only [this]
theorem Warsh.none_ (h : Warsh l out k i j M) (hc : M i k = false) : Warsh l out k (i + 1) 0 M := fun a b => by
  rw [h a b]
  have hn : ¬ TK l out k i k := fun hh => by have := h.at_col.2 hh; rw [hc] at this; cases this
  by_cases e : a = i
  · subst e
    rw [if_pos (show a < a + 1 ∨ _ from .inl (by omega))]
    split
    · exact Iff.rfl
    · rw [TK.succ]
      exact ⟨.inl, fun h => by rcases h with h | ⟨h, _⟩; exact h; exact absurd h hn⟩
  · have : (a < i ∨ (a = i ∧ b < j)) ↔ (a < i + 1 ∨ (a = i + 1 ∧ b < 0)) := by omega
    simp only [this]
theorem TK.lt (hb : ∀ b c, c ∈ nextL l b → c < j) {a b : Nat} (h : TK l out k a b) : b < j := by
  induction h with
  | one h => exact hb _ _ h.1
  | via _ _ _ _ h => exact h
theorem Warsh.next (h : Warsh l out k i j M) (hj : ∀ b c, c ∈ nextL l b → c < j) : Warsh l out k (i + 1) 0 M := fun a b => by
  rw [h a b]
  by_cases hb : b < j
  · have : (a < i ∨ (a = i ∧ b < j)) ↔ (a < i + 1 ∨ (a = i + 1 ∧ b < 0)) := by omega
    simp only [this]
  · have n1 : ¬ TK l out (k + 1) a b := fun h => hb (h.lt hj)
    have n2 : ¬ TK l out k a b := fun h => hb (h.lt hj)
    split <;> split <;> simp only [n1, n2]
theorem TK.none_ {a b : Nat} (h : TK l out k a b) (hn : nextL l a = []) : False := by
  induction h with
  | one h => have := h.1; rw [hn] at this; cases this
  | via _ _ _ ih _ => exact ih hn
theorem Warsh.up (h : Warsh l out k i 0 M) (hi : l.length ≤ i) : Warsh l out (k + 1) 0 0 M := fun a b => by
  rw [h a b, if_neg (show ¬ (a < 0 ∨ (a = 0 ∧ b < 0)) by omega)]
  split
  · exact Iff.rfl
  · have hx : l[a]? = none := List.getElem?_eq_none (by omega)
    have hn : nextL l a = [] := by unfold nextL; rw [hx]
    have e : ∀ q, ¬ TK l out q a b := fun q h => h.none_ hn
    exact ⟨fun h => absurd h (e _), fun h => absurd h (e _)⟩
theorem Warsh.done (h : Warsh l out k 0 0 M) (hb : ∀ b c, c ∈ nextL l b → c < k) : IsWays l out M := fun a b => by
  rw [h a b, if_neg (by omega), TK.full hb]
end
end Go.Proofs.Ytmiagijgecgfoaa
