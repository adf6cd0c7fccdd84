/-
  What script.Decode computes, over lists: no function of the program.
-/
import Derived.Test.YtnhnofiimidagaaScrMay
namespace Go.Proofs.Ytnhnofiimidagaa

/-- the next byte, or -1 -/
def numOf (l : List UInt8) : Int := match l with
  | [] => -1
  | b :: _ => b.toNat
theorem numOf_le (l : List UInt8) : -1 ≤ numOf l ∧ numOf l ≤ 255 := by
  cases l with
  | nil => exact ⟨by simp [numOf], by simp [numOf]⟩
  | cons b r =>
    have := b.toNat_lt
    simp only [numOf]
    omega
/-- so many programs, each behind how many instructions it has, and what is left -/
def takeP : Nat → List UInt8 → Option (List (List UInt8) × List UInt8)
  | 0, r => some ([], r)
  | _ + 1, [] => none
  | k + 1, b :: r => if r.length < b.toNat * 6 then none else (takeP k (r.drop (b.toNat * 6))).map fun q => (r.take (b.toNat * 6) :: q.1, q.2)
/-- how many rounds the loop has -/
def rounds (l : List UInt8) : Nat := (min (numOf (l.drop 1)) 9).toNat
def scO (l : List UInt8) : Option (Int × List (List UInt8) × List UInt8) :=
  if numOf (l.drop 1) < 0 then none else
    match takeP (rounds l) (l.drop 2) with
    | none => none
    | some q => if mayS (numOf l) q.1 q.2 then some (numOf l, q.1, q.2) else none
def scD (l : List UInt8) : Int × List (List UInt8) × List UInt8 := (scO l).getD (0, [], [])
def scDE (l : List UInt8) : Int := if (scO l).isSome then 0 else 3
theorem scO_yes {l : List UInt8} {ps : List (List UInt8)} {pk : List UInt8} (h0 : 0 ≤ numOf (l.drop 1)) (ht : takeP (rounds l) (l.drop 2) = some (ps, pk)) (hm : mayS (numOf l) ps pk = true) : scO l = some (numOf l, ps, pk) := by
  unfold scO
  rw [if_neg (by omega), ht]
  simp [hm]
theorem scO_no1 {l : List UInt8} (h0 : numOf (l.drop 1) < 0) : scO l = none := by unfold scO; rw [if_pos h0]
theorem scO_no2 {l : List UInt8} (ht : takeP (rounds l) (l.drop 2) = none) : scO l = none := by unfold scO; rw [ht]; split <;> rfl
theorem scO_no3 {l : List UInt8} {ps : List (List UInt8)} {pk : List UInt8} (ht : takeP (rounds l) (l.drop 2) = some (ps, pk)) (hm : mayS (numOf l) ps pk = false) : scO l = none := by
  unfold scO
  rw [ht]
  split
  · rfl
  · simp [hm]
end Go.Proofs.Ytnhnofiimidagaa
