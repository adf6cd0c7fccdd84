/-
  What a journal tells, over lists: no function of the program.
-/
import Derived.Test.YtnhnofiimidagaaJHead
namespace Go.Proofs.Ytnhnofiimidagaa

/-- the record at a place: its picks, and where it ends -/
def goodAt (j : List UInt8) (a : Nat) : Option (List UInt8 × Nat) :=
  if a < j.length then
    if (j.getD a 0).toNat < 1 ∨ 200 < (j.getD a 0).toNat ∨ j.length < a + 5 + (j.getD a 0).toNat then none
    else if sealB ((j.take a).drop (a - 4)) ((j.take (a + 1 + (j.getD a 0).toNat)).drop a) = (j.take (a + 5 + (j.getD a 0).toNat)).drop a then
      some ((j.take (a + 1 + (j.getD a 0).toNat)).drop (a + 1), a + 5 + (j.getD a 0).toNat) else none
  else none
/-- may these picks come behind those? -/
def nextOk (acc p : List UInt8) : Bool := p.all pickOk && decide (acc.length + p.length ≤ 4000)
/-- record by record, as long as they are good: what is told, and how many bytes -/
def readL (j : List UInt8) : Nat → List UInt8 → Nat → List UInt8 × Nat
  | 0, acc, a => (acc, a)
  | f + 1, acc, a => match goodAt j a with
    | none => (acc, a)
    | some q => if nextOk acc q.1 then readL j f (acc ++ q.1) q.2 else (acc, a)
/-- with rounds enough, R comes of it -/
def Reads (j acc : List UInt8) (a : Nat) (R : List UInt8 × Nat) : Prop := ∃ f, j.length ≤ a + f ∧ readL j f acc a = R

theorem goodAt_lt {j : List UInt8} {a : Nat} {q : List UInt8 × Nat} (h : goodAt j a = some q) : a < j.length ∧ a < q.2 ∧ q.2 ≤ j.length ∧ q.1.length ≤ 200 ∧ 1 ≤ q.1.length ∧ q.2 = a + 5 + q.1.length := by
  unfold goodAt at h
  split at h
  · rename_i hlt
    split at h
    · cases h
    · rename_i hn
      split at h
      · simp only [Option.some.injEq] at h
        subst h
        simp only [List.length_drop, List.length_take]
        omega
      · cases h
  · cases h
theorem Reads.none_ {j acc : List UInt8} {a : Nat} {R : List UInt8 × Nat} (h : Reads j acc a R) (hg : goodAt j a = none) : R = (acc, a) := by
  obtain ⟨f, hf, rfl⟩ := h
  cases f with
  | zero => rfl
  | succ f => simp only [readL, hg]
theorem Reads.no {j acc : List UInt8} {a : Nat} {R q : List UInt8 × Nat} (h : Reads j acc a R) (hg : goodAt j a = some q) (hn : nextOk acc q.1 = false) : R = (acc, a) := by
  obtain ⟨f, hf, rfl⟩ := h
  cases f with
  | zero => rfl
  | succ f => simp only [readL, hg, hn]; rfl
theorem Reads.step {j acc : List UInt8} {a : Nat} {R q : List UInt8 × Nat} (h : Reads j acc a R) (hg : goodAt j a = some q) (hn : nextOk acc q.1 = true) : Reads j (acc ++ q.1) q.2 R := by
  obtain ⟨f, hf, rfl⟩ := h
  have := goodAt_lt hg
  cases f with
  | zero => omega
  | succ f => exact ⟨f, by omega, by simp only [readL, hg, hn, if_true]⟩
theorem Reads.start (j : List UInt8) (a : Nat) : Reads j [] a (readL j j.length [] a) := ⟨j.length, by omega, rfl⟩

/-- what a journal tells: pages, programs, picks; bytes -/
def readO (j : List UInt8) : Option ((Int × List (List UInt8) × List UInt8) × Nat) :=
  match headO j with
  | none => none
  | some q => some ((q.1.1, q.1.2.1, (readL j j.length [] q.2).1), (readL j j.length [] q.2).2)
end Go.Proofs.Ytnhnofiimidagaa
