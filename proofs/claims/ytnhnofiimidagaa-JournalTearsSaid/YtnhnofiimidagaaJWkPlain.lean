/-
  What Read and Add tell of known journals: over lists. No function of the program.
-/
import Derived.Test.YtnhnofiimidagaaJRecs
namespace Go.Proofs.Ytnhnofiimidagaa

theorem read_some {j : List UInt8} {q : Int × List (List UInt8) × List UInt8} {b : Nat} (h : readO j = some (q, b)) : readV j = (q, b) ∧ readE j = 0 ∧ readT j = decide (b < j.length) := by
  unfold readT readV readE
  rw [h]
  exact ⟨rfl, rfl, rfl⟩
theorem read_none {j : List UInt8} (h : readO j = none) : readV j = ((0, [], []), 0) ∧ readE j = 3 ∧ readT j = false := by
  unfold readT readV readE
  rw [h]
  exact ⟨rfl, rfl, rfl⟩
theorem add_ok {j pk : List UInt8} {q : Int × List (List UInt8) × List UInt8} {b : Nat} (h : readO j = some (q, b)) (hb : j.length ≤ b) (h1 : 1 ≤ pk.length) (h2 : pk.length ≤ 200) (hall : pk.all pickOk = true) (hl : q.2.2.length + pk.length ≤ 4000) :
    addE j pk = 0 ∧ addS j pk = j ++ recB j pk := by
  obtain ⟨g1, g2, g3⟩ := read_some h
  have h0 : addE j pk = 0 := by
    unfold addE
    rw [if_neg (by rw [g2, g3, decide_eq_false (show ¬ b < j.length by omega)]; rintro (h | h | h | h) <;> first | omega | cases h), if_pos hall, if_neg (by rw [g1]; simp only; omega)]
  exact ⟨h0, by unfold addS; rw [if_pos h0]⟩
theorem add_torn {j pk : List UInt8} (h : readT j = true) : addE j pk = 3 ∧ addS j pk = [] := by
  have h0 : addE j pk = 3 := by
    unfold addE
    rw [if_pos (.inr (.inl h))]
  exact ⟨h0, by unfold addS; rw [h0]; rfl⟩

theorem readO_may {j : List UInt8} {pg : Int} {ps : List (List UInt8)} {pk : List UInt8} {b : Nat} (h : readO j = some ((pg, ps, pk), b)) : mayS pg ps [] = true := by
  unfold readO at h
  split at h
  · cases h
  rename_i q hq
  simp only [Option.some.injEq, Prod.mk.injEq] at h
  obtain ⟨⟨rfl, rfl, _⟩, _⟩ := h
  obtain ⟨⟨pg, ps, pk'⟩, a⟩ := q
  obtain ⟨_, _, hs, _⟩ := headO_parts hq
  exact may_nopk (scB_scO hs).1
theorem readO_ps {j : List UInt8} {pg : Int} {ps : List (List UInt8)} {pk : List UInt8} {b : Nat} (h : readO j = some ((pg, ps, pk), b)) : ps.length ≤ 140737488355328 := by
  have := (mayS_iff (readO_may h)).2.1.2
  omega
theorem may_pk {pg : Int} {ps : List (List UInt8)} (h : mayS pg ps [] = true) (pk : List UInt8) (hl : pk.length ≤ 4000) : mayS pg ps pk = pk.all pickOk := by
  unfold mayS at h ⊢
  simp only [Bool.and_eq_true, decide_eq_true_eq] at h
  simp [h, hl]

/-- the known journal -/
def wkB : List UInt8 := bgB 1 [[]]
def wkK2 : List UInt8 := wkB ++ recB wkB [0, 8]
theorem jk_may : mayS 1 [[]] [] = true := by decide
theorem wkB_len : wkB.length = 13 := by
  unfold wkB
  rw [bgB_len rfl]
  decide
theorem wkB_take : wkB.take 9 = [66, 76, 87, 75, 3, 0, 1, 1, 0] := by
  have e : scB 1 [[]] [] = [1, 1, 0] := by decide
  unfold wkB bgB sealB headB
  rw [e]
  rfl
theorem wkB_S : bgS 1 [[]] = wkB ∧ scE 1 [[]] [] = 0 := by
  unfold bgS scE
  rw [jk_may]
  exact ⟨rfl, rfl⟩
theorem wkK2_len : wkK2.length = 20 := by
  unfold wkK2
  rw [List.length_append, recB_len, wkB_len]
  rfl
theorem wkK2_jrn : jrn 1 [[]] [[0, 8]] = wkK2 := rfl
theorem jk_ok : RsOk [[0, 8]] := ⟨by simp, by decide, by simp⟩
theorem jk_ok0 : RsOk [] := ⟨by simp, by decide, by simp⟩
theorem wkB_read : readO wkB = some ((1, [[]], []), 13) := by
  have := readO_jrn (rs := []) jk_may jk_ok0
  have e : jrn 1 [[]] [] = wkB := rfl
  rw [e, wkB_len] at this
  exact this
theorem wkK2_read : readO wkK2 = some ((1, [[]], [0, 8]), 20) := by
  have := readO_jrn (rs := [[0, 8]]) jk_may jk_ok
  rw [wkK2_jrn, wkK2_len] at this
  exact this
theorem wkB_add : addE wkB [0, 8] = 0 ∧ addS wkB [0, 8] = wkK2 :=
  add_ok wkB_read (by rw [wkB_len]; exact Nat.le_refl _) (by simp) (by simp) (by decide) (by simp)
theorem wkT_read : readO (wkK2 ++ [120]) = some ((1, [[]], [0, 8]), 20) := by
  have he : endAt 1 [[]] [[0, 8]] 1 = 20 := by
    have := endAt_all 1 [[]] [[0, 8]]
    rwa [wkK2_jrn, wkK2_len] at this
  have := readO_agree (rs := [[0, 8]]) (k := 1) (j := wkK2 ++ [120]) jk_may jk_ok (Nat.le_refl _) (by rw [he, wkK2_jrn, List.take_append_of_le_length (by rw [wkK2_len]; exact Nat.le_refl _)]) (by
    rw [he]
    have hl : (wkK2 ++ [120]).length = 21 := by rw [List.length_append, wkK2_len]; rfl
    have hg : ((wkK2 ++ [120]).getD 20 0).toNat = 120 := by
      rw [List.getD_eq_getElem?_getD, List.getElem?_append_right (by rw [wkK2_len]; exact Nat.le_refl _), wkK2_len]
      rfl
    unfold goodAt
    rw [hl, hg]
    rfl)
  rw [he] at this
  exact this
theorem wkM_read : readO [66, 76, 87, 75] = none := by
  unfold readO
  rw [show headO [66, 76, 87, 75] = none by unfold headO; rfl]
theorem jk_sum : sumN [] = 2166136261 := rfl
end Go.Proofs.Ytnhnofiimidagaa
