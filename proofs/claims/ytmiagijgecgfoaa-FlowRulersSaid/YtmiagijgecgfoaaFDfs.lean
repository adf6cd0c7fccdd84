/-
  Which places are met, in plain words: the search from a place, and what it leaves. No program.
-/
import Derived.Test.YtmiagijgecgfoaaFNext
namespace Go.Proofs.Ytmiagijgecgfoaa
open Go.RowKit

/-- one comes from a to b, but not through the place that is left out -/
inductive RE (l : List Ins) (out : Int) (a : Nat) : Nat → Prop
  | refl : (a : Int) ≠ out → RE l out a a
  | step {b c : Nat} : RE l out a b → c ∈ nextL l b → (c : Int) ≠ out → RE l out a c

theorem RE.cons {l : List Ins} {out : Int} {a b i : Nat} (ha : (a : Int) ≠ out) (hb : b ∈ nextL l a) (h : RE l out b i) : RE l out a i := by
  induction h with
  | refl h => exact .step (.refl ha) hb h
  | step _ h1 h2 ih => exact .step ih h1 h2
theorem RE.ne {l : List Ins} {out : Int} {a i : Nat} (h : RE l out a i) : (i : Int) ≠ out := by
  cases h with
  | refl h => exact h
  | step _ _ h => exact h
theorem RE.trans {l : List Ins} {out : Int} {a b i : Nat} (h : RE l out a b) (h2 : RE l out b i) : RE l out a i := by
  induction h2 with
  | refl _ => exact h
  | step _ h1 h2 ih => exact .step ih h1 h2

def updB (m : Nat → Bool) (a : Nat) : Nat → Bool := fun i => if i = a then true else m i
theorem updB_same (m : Nat → Bool) (a : Nat) : updB m a a = true := if_pos rfl
theorem updB_mono {m : Nat → Bool} {a i : Nat} (h : m i = true) : updB m a i = true := by unfold updB; split <;> simp_all
theorem updB_ne {m : Nat → Bool} {a i : Nat} (h : i ≠ a) : updB m a i = m i := if_neg h

/-- what a search from some places leaves -/
structure DfsL (l : List Ins) (out : Int) (ps : List Nat) (m m' : Nat → Bool) : Prop where
  mono : ∀ i, m i = true → m' i = true
  hit : ∀ a ∈ ps, (a : Int) ≠ out → m' a = true
  new : ∀ i, m' i = true → m i = false → ∃ a ∈ ps, RE l out a i
  cl : ∀ i, m' i = true → m i = false → ∀ j ∈ nextL l i, (j : Int) ≠ out → m' j = true
theorem DfsL.nil (l : List Ins) (out : Int) (m : Nat → Bool) : DfsL l out [] m m :=
  ⟨fun _ h => h, (fun a h => by simp at h), (fun i h1 h2 => by rw [h1] at h2; cases h2), (fun i h1 h2 => by rw [h1] at h2; cases h2)⟩
theorem DfsL.snoc {l : List Ins} {out : Int} {ps : List Nat} {a : Nat} {m m1 m2 : Nat → Bool} (h : DfsL l out ps m m1) (h2 : DfsL l out [a] m1 m2) : DfsL l out (ps ++ [a]) m m2 where
  mono i hi := h2.mono i (h.mono i hi)
  hit b hb hn := by
    rcases List.mem_append.1 hb with h' | h'
    · exact h2.mono b (h.hit b h' hn)
    · exact h2.hit b h' hn
  new i hi hn := by
    by_cases hm : m1 i = true
    · obtain ⟨b, hb, hr⟩ := h.new i hm hn
      exact ⟨b, List.mem_append_left _ hb, hr⟩
    · obtain ⟨b, hb, hr⟩ := h2.new i hi (by simpa using hm)
      exact ⟨b, List.mem_append_right _ hb, hr⟩
  cl i hi hn j hj ho := by
    by_cases hm : m1 i = true
    · exact h2.mono j (h.cl i hm hn j hj ho)
    · exact h2.cl i hi (by simpa using hm) j hj ho
theorem DfsL.stay {l : List Ins} {out : Int} {a : Nat} {m : Nat → Bool} (h : (a : Int) = out ∨ m a = true) : DfsL l out [a] m m where
  mono _ h := h
  hit b hb hn := by
    obtain rfl := List.mem_singleton.1 hb
    rcases h with h | h
    · exact absurd h hn
    · exact h
  new i h1 h2 := by rw [h1] at h2; cases h2
  cl i h1 h2 := by rw [h1] at h2; cases h2
theorem DfsL.go {l : List Ins} {out : Int} {a : Nat} {m m2 : Nat → Bool} (ha : (a : Int) ≠ out) (h : DfsL l out (nextL l a) (updB m a) m2) : DfsL l out [a] m m2 where
  mono i hi := h.mono i (updB_mono hi)
  hit b hb _ := by
    obtain rfl := List.mem_singleton.1 hb
    exact h.mono b (updB_same m b)
  new i hi hn := by
    refine ⟨a, List.mem_singleton.2 rfl, ?_⟩
    by_cases e : i = a
    · subst e
      exact .refl ha
    · obtain ⟨b, hb, hr⟩ := h.new i hi (by rw [updB_ne e]; exact hn)
      exact hr.cons ha hb
  cl i hi hn j hj ho := by
    by_cases e : i = a
    · subst e
      exact h.hit j hj ho
    · exact h.cl i hi (by rw [updB_ne e]; exact hn) j hj ho
/-- from nothing met: what is met is what one comes to -/
theorem DfsL.iff {l : List Ins} {out : Int} {ps : List Nat} {m' : Nat → Bool} (h : DfsL l out ps (fun _ => false) m') (i : Nat) : m' i = true ↔ ∃ a ∈ ps, RE l out a i := by
  constructor
  · intro hi
    exact h.new i hi rfl
  · rintro ⟨a, ha, hr⟩
    induction hr with
    | refl hn => exact h.hit a ha hn
    | step _ h1 h2 ih => exact h.cl _ ih rfl _ h1 h2

/-- how many places are not met -/
def cntF (m : Nat → Bool) : Nat := (List.range 65).countP fun i => !m i
theorem cntF_mono {m m' : Nat → Bool} (h : ∀ i, m i = true → m' i = true) : cntF m' ≤ cntF m := by
  unfold cntF
  refine List.countP_mono_left fun x _ hx => ?_
  cases hm : m x with
  | false => rfl
  | true => rw [h x hm] at hx; simp at hx
theorem countP_lt {α : Type} {p q : α → Bool} (hpq : ∀ x, p x = true → q x = true) {a : α} (hp : p a = false) (hq : q a = true) : ∀ l : List α, a ∈ l → l.countP p < l.countP q
  | [], h => by simp at h
  | x :: l, h => by
    rw [List.countP_cons, List.countP_cons]
    have hle : l.countP p ≤ l.countP q := List.countP_mono_left fun x _ hx => hpq x hx
    rcases List.mem_cons.1 h with rfl | h
    · rw [hp, hq]; simp; omega
    · have ih := countP_lt hpq hp hq l h
      have : (if p x = true then 1 else 0) ≤ (if q x = true then 1 else 0) := by
        by_cases hx : p x = true
        · rw [if_pos hx, if_pos (hpq x hx)]; exact Nat.le_refl _
        · rw [if_neg hx]; exact Nat.zero_le _
      omega
theorem cntF_upd {m : Nat → Bool} {a : Nat} (ha : a ≤ 64) (hm : m a = false) : cntF (updB m a) < cntF m := by
  unfold cntF
  refine countP_lt (fun x hx => ?_) (a := a) (by rw [updB_same]; rfl) (by rw [hm]; rfl) _ (List.mem_range.2 (by omega))
  cases hx' : m x with
  | false => rfl
  | true => rw [updB_mono hx'] at hx; simp at hx

/-- places as cells -/
def mC (m : Nat → Bool) : Array Value := ((List.range 65).map fun i => Value.bool (m i)).toArray
theorem mC_size (m : Nat → Bool) : (mC m).size = 65 := by simp [mC]
theorem mC_get (m : Nat → Bool) {i : Nat} (h : i < 65) : (mC m)[i]? = some (.bool (m i)) := by
  unfold mC
  rw [List.getElem?_toArray, List.getElem?_map, List.getElem?_range h]
  rfl
theorem mC_set (m : Nat → Bool) (a : Nat) : (mC m).setIfInBounds a (.bool true) = mC (updB m a) := by
  apply Array.ext_getElem?
  intro i
  rw [Array.getElem?_setIfInBounds]
  by_cases hi : i < 65
  · rw [mC_get _ hi]
    by_cases e : a = i
    · subst e
      rw [if_pos rfl, mC_size, if_pos hi, mC_get _ hi, updB_same]
    · rw [if_neg e, mC_get _ hi, updB_ne (Ne.symm e)]
  · have h1 : (mC m)[i]? = none := Array.getElem?_eq_none (by rw [mC_size]; omega)
    have h2 : (mC (updB m a))[i]? = none := Array.getElem?_eq_none (by rw [mC_size]; omega)
    rw [h1, h2, mC_size]
    split
    · rw [if_neg (by omega)]
    · rfl

/-- to which places one goes on, they are places of the program -/
theorem nextL_le {l : List Ins} (hp : Prog l) {k j : Nat} (h : j ∈ nextL l k) : j ≤ l.length := by
  unfold nextL at h
  cases hx : l[k]? with
  | none => rw [hx] at h; simp at h
  | some x =>
    have hlt := (List.getElem?_eq_some_iff.1 hx).1
    obtain ⟨xo, ka, kb, kc, kn, rfl, ha, hb, hc, hk, ho, hj⟩ := hp.get hx
    rw [hx] at h
    simp only [Int.toNat_natCast] at h
    split at h
    · simp at h
    · split at h
      · have := hj (by omega)
        simp at h; omega
      · split at h
        · have := hj (by omega)
          split at h
          · simp at h; omega
          · split at h
            · simp at h; omega
            · simp at h; omega
        · simp at h; omega
theorem RE.le {l : List Ins} (hp : Prog l) {out : Int} {a i : Nat} (h : RE l out a i) (ha : a ≤ l.length) : i ≤ l.length := by
  induction h with
  | refl _ => exact ha
  | step _ h1 _ _ => exact nextL_le hp h1
end Go.Proofs.Ytmiagijgecgfoaa
