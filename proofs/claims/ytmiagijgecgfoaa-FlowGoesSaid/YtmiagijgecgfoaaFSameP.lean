/-
  A trimmed program does the same, in plain words. No program.
-/
import Derived.Test.YtmiagijgecgfoaaFRuns
namespace Go.Proofs.Ytmiagijgecgfoaa
open Go.RowKit

theorem numB_mono (b : Nat → Bool) {i k : Nat} (h : i ≤ k) : numB b i ≤ numB b k := by
  induction k with
  | zero => obtain rfl : i = 0 := by omega
            exact Nat.le_refl _
  | succ k ih =>
    by_cases e : i = k + 1
    · subst e; exact Nat.le_refl _
    · have := ih (by omega)
      show numB b i ≤ numB b k + (if b k = true then 1 else 0)
      omega
theorem numB_lt {b : Nat → Bool} {i k : Nat} (h : i < k) (hb : b i = true) : numB b i < numB b k := by
  have h1 := numB_mono b (show i + 1 ≤ k from h)
  rw [numB_yes hb] at h1
  omega
theorem trimK_length (l : List Ins) (b : Nat → Bool) : ∀ k, k ≤ l.length → (trimK l b k).length = numB b k
  | 0, _ => rfl
  | k + 1, h => by
    have ih := trimK_length l b k (by omega)
    have hx : l[k]? = some l[k] := List.getElem?_eq_getElem (by omega)
    cases hb : b k with
    | true => rw [trimK_yes hx hb, numB_yes hb, List.length_append, ih]; rfl
    | false => rw [trimK_no hb, numB_no hb, ih]
theorem trimK_get (l : List Ins) (b : Nat → Bool) {i : Nat} {x : Ins} (hx : l[i]? = some x) (hb : b i = true) : ∀ k, k ≤ l.length → i < k → (trimK l b k)[numB b i]? = some (trimX b x)
  | 0, _, h => by omega
  | k + 1, hk, h => by
    have hl := trimK_length l b k (by omega)
    by_cases e : i = k
    · subst e
      rw [trimK_yes hx hb, List.getElem?_append_right (by omega), hl, Nat.sub_self]
      rfl
    · have ih := trimK_get l b hx hb k (by omega) (by omega)
      have hlt := numB_lt (show i < k by omega) hb
      have hy : l[k]? = some l[k] := List.getElem?_eq_getElem (by omega)
      cases hb2 : b k with
      | true => rw [trimK_yes hy hb2, List.getElem?_append_left (by omega), ih]
      | false => rw [trimK_no hb2, ih]
theorem trimK_inv (l : List Ins) (b : Nat → Bool) : ∀ k, k ≤ l.length → ∀ j y, (trimK l b k)[j]? = some y → ∃ i x, i < k ∧ l[i]? = some x ∧ b i = true ∧ j = numB b i ∧ y = trimX b x
  | 0, _, j, y, h => by simp [trimK] at h
  | k + 1, hk, j, y, h => by
    have hl := trimK_length l b k (by omega)
    have hx : l[k]? = some l[k] := List.getElem?_eq_getElem (by omega)
    cases hb : b k with
    | true =>
      rw [trimK_yes hx hb] at h
      by_cases hj : j < (trimK l b k).length
      · rw [List.getElem?_append_left hj] at h
        obtain ⟨i, x, h1, h2⟩ := trimK_inv l b k (by omega) j y h
        exact ⟨i, x, by omega, h2⟩
      · have hjl := (List.getElem?_eq_some_iff.1 h).1
        rw [List.length_append, List.length_singleton] at hjl
        have hje : j = (trimK l b k).length := by omega
        subst hje
        rw [List.getElem?_append_right (Nat.le_refl _), Nat.sub_self] at h
        exact ⟨k, l[k], by omega, hx, hb, hl, (Option.some.inj h).symm⟩
    | false =>
      rw [trimK_no hb] at h
      obtain ⟨i, x, h1, h2⟩ := trimK_inv l b k (by omega) j y h
      exact ⟨i, x, by omega, h2⟩

section
variable {l : List Ins} {rb : Nat → Bool}

/-- the trimmed program -/
abbrev trimL (l : List Ins) (rb : Nat → Bool) : List Ins := trimK l rb l.length

/-- where a reached place's instruction goes is reached -/
theorem reached_next (h : IsReached l rb) {i j : Nat} (hi : rb i = true) (hj : j ∈ nextL l i) : rb j = true :=
  (h j).2 (.step ((h i).1 hi) hj (nat_ne_neg j))
theorem nextL_jump {i ka kb kc kn xo : Nat} (hx : l[i]? = some ⟨xo, ka, kb, kc, kn⟩) (hj : xo = 5 ∨ xo = 6) : kn ∈ nextL l i := by
  unfold nextL
  rw [hx]
  simp only [Int.toNat_natCast]
  rw [if_neg (by omega)]
  by_cases h5 : xo = 5
  · rw [if_pos (by omega)]
    exact List.mem_singleton.2 rfl
  · rw [if_neg (by omega), if_pos (by omega)]
    split
    · simp
    · split
      · rename_i h; simp [h]
      · simp
theorem nextL_fall {i ka kb kc kn xo : Nat} (hx : l[i]? = some ⟨xo, ka, kb, kc, kn⟩) (h0 : xo ≠ 0) (h5 : xo ≠ 5) : i + 1 ∈ nextL l i := by
  unfold nextL
  rw [hx]
  simp only [Int.toNat_natCast]
  rw [if_neg (by omega), if_neg (by omega)]
  split
  · split
    · simp
    · split <;> simp
  · simp
theorem trimX_nat (ka kb kc kn xo : Nat) : trimX rb ⟨xo, ka, kb, kc, kn⟩ = ⟨xo, ka, kb, kc, ((if xo = 5 ∨ xo = 6 then numB rb kn else kn : Nat) : Int)⟩ := by
  unfold trimX
  by_cases h : xo = 5 ∨ xo = 6
  · rw [if_pos (by omega : ((xo : Int) = 5 ∨ (xo : Int) = 6)), if_pos h]
    simp
  · rw [if_neg (by omega : ¬ ((xo : Int) = 5 ∨ (xo : Int) = 6)), if_neg h]

theorem trim_prog (hp : Prog l) (h : IsReached l rb) : Prog (trimL l rb) := by
  have hlen := trimK_length l rb l.length (Nat.le_refl _)
  have hle := hp.le
  have hnl := numB_le rb l.length
  have key : ∀ y ∈ trimL l rb, ∃ (xo ka kb kc kn : Nat), y = ⟨xo, ka, kb, kc, kn⟩ ∧ ka < 8 ∧ kb < 8 ∧ kc < 8 ∧ kn ≤ 65535 ∧ (xo ≤ 6 ∨ 17 ≤ xo ∧ xo ≤ 38) ∧ (xo = 5 ∨ xo = 6 → kn < (trimL l rb).length) := by
    intro y hy
    obtain ⟨j, hj, rfl⟩ := List.mem_iff_getElem.1 hy
    obtain ⟨i, x, h1, h2, h3, h4, h5⟩ := trimK_inv l rb l.length (Nat.le_refl _) j _ (List.getElem?_eq_getElem hj)
    obtain ⟨xo, ka, kb, kc, kn, rfl, ha, hb, hc, hk, ho, hjm⟩ := hp.get h2
    rw [trimX_nat] at h5
    have hq := numB_le rb kn
    refine ⟨xo, ka, kb, kc, if xo = 5 ∨ xo = 6 then numB rb kn else kn, ?_, ha, hb, hc, ?_, ho, fun hj2 => ?_⟩
    · rw [h5]
    · split <;> omega
    · rw [if_pos hj2]
      have hr := reached_next h h3 (nextL_jump h2 hj2)
      have := numB_lt (hjm hj2) hr
      show numB rb kn < (trimK l rb l.length).length
      omega
  constructor
  · intro y hy
    obtain ⟨xo, ka, kb, kc, kn, rfl, ha, hb, hc, hk, ho, hjm⟩ := key y hy
    refine ⟨⟨?_, ?_⟩, ⟨?_, ?_⟩, ⟨?_, ?_⟩, ⟨?_, ?_⟩, ⟨?_, ?_⟩⟩ <;> (simp only; omega)
  · unfold mayP
    simp only [Bool.and_eq_true, decide_eq_true_eq, List.all_eq_true]
    refine ⟨by show (trimK l rb l.length).length ≤ 64; omega, fun y hy => ?_⟩
    obtain ⟨xo, ka, kb, kc, kn, rfl, ha, hb, hc, hk, ho, hjm⟩ := key y hy
    unfold mayX
    simp only [decide_eq_true_eq]
    refine ⟨by omega, ⟨by omega, by omega, by omega⟩, fun hj2 => ?_⟩
    have := hjm (by omega)
    omega

/-- at a reached place the trimmed program has its instruction -/
theorem trim_at {nx : Nat} (hnx : nx ≤ l.length) (hr : rb nx = true) : (trimL l rb)[numB rb nx]? = (l[nx]?).map (trimX rb) := by
  have hlen := trimK_length l rb l.length (Nat.le_refl _)
  cases hx : l[nx]? with
  | none =>
    have : nx = l.length := by have := List.getElem?_eq_none_iff.1 hx; omega
    subst this
    exact List.getElem?_eq_none (by show (trimK l rb l.length).length ≤ _; omega)
  | some x => exact trimK_get l rb hx hr l.length (Nat.le_refl _) (List.getElem?_eq_some_iff.1 hx).1

variable {nx : Nat} {r : Nat → Int}
theorem same_wB (hp : Prog l) (hnx : nx ≤ l.length) (hr : rb nx = true) : wB (trimL l rb) (numB rb nx) = wB l nx := by
  have h := trim_at hnx hr
  unfold wB
  rw [h]
  cases hx : l[nx]? with
  | none => rfl
  | some x =>
    obtain ⟨xo, ka, kb, kc, kn, rfl, _⟩ := hp.get hx
    simp only [Option.map_some, trimX_nat]
theorem same_halt (hp : Prog l) (hnx : nx ≤ l.length) (hr : rb nx = true) : haltB (trimL l rb) (numB rb nx) = haltB l nx := by
  have h := trim_at hnx hr
  unfold haltB
  rw [h]
  cases hx : l[nx]? with
  | none => rfl
  | some x =>
    obtain ⟨xo, ka, kb, kc, kn, rfl, _⟩ := hp.get hx
    simp only [Option.map_some, trimX_nat]
theorem same_wP (hp : Prog l) (hnx : nx ≤ l.length) (hr : rb nx = true) : wP (trimL l rb) (numB rb nx) r = wP l nx r := by
  have h := trim_at hnx hr
  unfold wP
  rw [h]
  cases hx : l[nx]? with
  | none => rfl
  | some x =>
    obtain ⟨xo, ka, kb, kc, kn, rfl, ha, hb, hc, hk, ho, hj⟩ := hp.get hx
    simp only [Option.map_some, trimX_nat]
    by_cases h16 : 16 < (xo : Int)
    · rw [if_neg (by omega : ¬ (xo = 5 ∨ xo = 6))]
    · rw [if_neg h16, if_neg h16]
theorem same_pR (hp : Prog l) (hnx : nx ≤ l.length) (hr : rb nx = true) (x : Res) : pR (trimL l rb) (numB rb nx) r x = pR l nx r x := by
  have h := trim_at hnx hr
  have hB := same_wB hp hnx hr
  unfold pR
  rw [hB]
  cases hx : l[nx]? with
  | none =>
    rw [hx] at h
    unfold tR sR
    rw [h, hx]
    rfl
  | some y =>
    obtain ⟨xo, ka, kb, kc, kn, rfl, ha, hb, hc, hk, ho, hj⟩ := hp.get hx
    rw [hx, Option.map_some, trimX_nat] at h
    have hT : tR (trimL l rb) (numB rb nx) r x.e x.v x.h = tR l nx r x.e x.v x.h := by unfold tR; rw [h, hx]
    have hS : sR (trimL l rb) (numB rb nx) r = sR l nx r := by
      unfold sR
      rw [h, hx]
      simp only
      by_cases h5 : xo = 5 ∨ xo = 6
      · rw [if_pos h5]
        rw [if_neg (by omega), if_neg (by omega), if_neg (by omega), if_neg (by omega), if_neg (by omega), if_neg (by omega), if_neg (by omega), if_neg (by omega)]
      · rw [if_neg h5]
    rw [hT, hS]
theorem same_pN (hp : Prog l) (hnx : nx ≤ l.length) (hr : rb nx = true) (hh : haltB l nx = false) : pN (trimL l rb) (numB rb nx) r = numB rb (pN l nx r) := by
  have h := trim_at hnx hr
  have hB := same_wB hp hnx hr
  cases hx : l[nx]? with
  | none => unfold haltB at hh; rw [hx] at hh; cases hh
  | some y =>
    obtain ⟨xo, ka, kb, kc, kn, rfl, ha, hb, hc, hk, ho, hj⟩ := hp.get hx
    rw [hx, Option.map_some, trimX_nat] at h
    have hn1 : numB rb (nx + 1) = numB rb nx + 1 := numB_yes hr
    have h0 : ¬ (xo : Int) = 0 := by
      unfold haltB at hh
      rw [hx] at hh
      simpa using hh
    unfold pN
    rw [hB]
    have hT : tN (trimL l rb) (numB rb nx) = numB rb (tN l nx) := by unfold tN; rw [h, hx]; simp only; rw [hn1]
    have hS : sN (trimL l rb) (numB rb nx) r = if (16 < (xo : Int)) then numB rb nx else numB rb (sN l nx r) := by
      unfold sN
      rw [h, hx]
      simp only [Int.toNat_natCast]
      by_cases h16 : 16 < (xo : Int)
      · rw [if_pos (.inr h16), if_pos h16]
      · have hc0 : ¬ ((xo : Int) = 0 ∨ 16 < (xo : Int)) := by omega
        rw [if_neg hc0, if_neg h16, if_neg hc0]
        by_cases hc5 : (xo : Int) = 5 ∨ (xo : Int) = 6 ∧ r ka ≠ 0
        · rw [if_pos hc5, if_pos hc5]
          rw [if_pos (by rcases hc5 with h | ⟨h, _⟩; exact .inl (by omega); exact .inr (by omega))]
        · rw [if_neg hc5, if_neg hc5, hn1]
    have hw : wB l nx = decide (16 < (xo : Int)) := by
      unfold wB
      rw [hx]
      simp only
      rw [Bool.eq_iff_iff]
      simp only [decide_eq_true_eq]
      omega
    rw [hT, hS, hw]
    by_cases h16 : 16 < (xo : Int)
    · rw [decide_eq_true h16]
      simp
    · rw [decide_eq_false h16, if_neg h16]
      simp

/-- going on in the trimmed program -/
theorem trim_next (hp : Prog l) {i j : Nat} (hi : rb i = true) (hil : i ≤ l.length) (hj : j ∈ nextL l i) : numB rb j ∈ nextL (trimL l rb) (numB rb i) := by
  have hat := trim_at hil hi
  cases hx : l[i]? with
  | none =>
    have e : nextL l i = [] := by unfold nextL; rw [hx]
    rw [e] at hj
    simp at hj
  | some y =>
    obtain ⟨xo, ka, kb, kc, kn, rfl, ha, hb, hc, hk, ho, hjm⟩ := hp.get hx
    rw [hx, Option.map_some, trimX_nat] at hat
    have hn1 : numB rb (i + 1) = numB rb i + 1 := numB_yes hi
    have hj' := hj
    unfold nextL at hj
    rw [hx] at hj
    simp only [Int.toNat_natCast] at hj
    by_cases h0 : (xo : Int) = 0
    · rw [if_pos h0] at hj; simp at hj
    · rw [if_neg h0] at hj
      by_cases h5 : (xo : Int) = 5
      · rw [if_pos h5] at hj
        obtain rfl := List.mem_singleton.1 hj
        have h5' : xo = 5 := by omega
        rw [if_pos (.inl h5')] at hat
        exact nextL_jump hat (.inl h5')
      · rw [if_neg h5] at hj
        have hcase : j = kn ∧ xo = 6 ∨ j = i + 1 := by
          by_cases h6 : (xo : Int) = 6
          · rw [if_pos h6] at hj
            split at hj
            · simp at hj; omega
            · split at hj
              · simp at hj; omega
              · simp at hj; omega
          · rw [if_neg h6] at hj
            exact .inr (List.mem_singleton.1 hj)
        rcases hcase with ⟨rfl, h6⟩ | rfl
        · rw [if_pos (.inr h6)] at hat
          exact nextL_jump hat (.inr h6)
        · rw [hn1]
          exact nextL_fall hat (by omega) (by omega)
theorem trim_re (hp : Prog l) (h : IsReached l rb) {i : Nat} (hi : RE l (-1) 0 i) : RE (trimL l rb) (-1) 0 (numB rb i) := by
  induction hi with
  | refl _ => exact .refl (nat_ne_neg 0)
  | @step b c hb h1 h2 ih => exact .step ih (trim_next hp ((h b).2 hb) (hb.le hp (Nat.zero_le _)) h1) (nat_ne_neg _)
/-- trimmed again it is itself -/
theorem trim_again (hp : Prog l) (h : IsReached l rb) {rt : Nat → Bool} (ht : IsReached (trimL l rb) rt) : trimL (trimL l rb) rt = trimL l rb := by
  have hlen := trimK_length l rb l.length (Nat.le_refl _)
  have hall : ∀ j, j < (trimL l rb).length → rt j = true := by
    intro j hj
    obtain ⟨i, x, h1, h2, h3, rfl, _⟩ := trimK_inv l rb l.length (Nat.le_refl _) j _ (List.getElem?_eq_getElem hj)
    exact (ht _).2 (trim_re hp h ((h i).1 h3))
  have hnum : ∀ j, j ≤ (trimL l rb).length → numB rt j = j := by
    intro j
    induction j with
    | zero => intro _; rfl
    | succ j ih =>
      intro hj
      rw [numB_yes (hall j (by omega)), ih (by omega)]
  have hpt := trim_prog hp h
  have hX : ∀ (j : Nat) (x : Ins), (trimL l rb)[j]? = some x → trimX rt x = x := by
    intro j x hx
    obtain ⟨xo, ka, kb, kc, kn, rfl, ha, hb, hc, hk, ho, hjm⟩ := hpt.get hx
    rw [trimX_nat]
    by_cases h5 : xo = 5 ∨ xo = 6
    · rw [if_pos h5, hnum kn (Nat.le_of_lt (hjm h5))]
    · rw [if_neg h5]
  have key : ∀ k, k ≤ (trimL l rb).length → trimK (trimL l rb) rt k = (trimL l rb).take k := by
    intro k
    induction k with
    | zero => intro _; rfl
    | succ k ih =>
      intro hk
      have hx : (trimL l rb)[k]? = some ((trimL l rb)[k]) := List.getElem?_eq_getElem hk
      rw [trimK_yes hx (hall k hk), ih (by omega), hX k _ hx, take_snoc hx]
  show trimK (trimL l rb) rt (trimL l rb).length = _
  rw [key _ (Nat.le_refl _), List.take_of_length_le (Nat.le_refl _)]
end
end Go.Proofs.Ytmiagijgecgfoaa
