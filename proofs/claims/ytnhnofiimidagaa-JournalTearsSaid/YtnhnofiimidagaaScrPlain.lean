/-
  The plain law of layer 18: the two decoders agree, what is encoded decodes to itself, what decodes encodes to itself.
-/
import Derived.Test.YtnhnofiimidagaaScrRDec
namespace Go.Proofs.Ytnhnofiimidagaa

theorem takeP_len : ∀ (k : Nat) (r : List UInt8) (ps : List (List UInt8)) (q : List UInt8), takeP k r = some (ps, q) → ps.length = k
  | 0, r, ps, q, h => by
    simp only [takeP, Option.some.injEq, Prod.mk.injEq] at h
    rw [← h.1]
    rfl
  | k + 1, [], ps, q, h => by simp [takeP] at h
  | k + 1, b :: r, ps, q, h => by
    unfold takeP at h
    split at h
    · cases h
    · obtain ⟨⟨ps', q'⟩, h1, h2⟩ := Option.map_eq_some_iff.1 h
      simp only [Prod.mk.injEq] at h2
      rw [← h2.1, List.length_cons, takeP_len k _ ps' q' h1]
theorem may_len {pg : Int} {ps : List (List UInt8)} {pk : List UInt8} (h : 8 < ps.length) : mayS pg ps pk = false := by
  cases hm : mayS pg ps pk with
  | false => rfl
  | true =>
    have := (mayS_iff hm).2.1.2
    omega

theorem rscO_eq (l : List UInt8) : rscO l = scO l := by
  match l with
  | [] => rfl
  | [b] => rfl
  | a :: b :: r =>
    have hn : numOf ((a :: b :: r).drop 1) = b.toNat := rfl
    have hc : cntR (a :: b :: r) = b.toNat := rfl
    have hr : rounds (a :: b :: r) = min b.toNat 9 := by
      unfold rounds
      rw [hn]
      omega
    unfold rscO scO
    rw [if_neg (by simp), if_neg (by rw [hn]; omega), hc, hr]
    by_cases h9 : b.toNat ≤ 9
    · rw [Nat.min_eq_left h9]
      cases takeP b.toNat ((a :: b :: r).drop 2) <;> rfl
    · rw [Nat.min_eq_right (by omega)]
      have e1 : ∀ k, 8 < k → takeP k ((a :: b :: r).drop 2) = none ∨ ∃ q, takeP k ((a :: b :: r).drop 2) = some q ∧ 8 < q.1.length := by
        intro k hk
        cases h : takeP k ((a :: b :: r).drop 2) with
        | none => exact .inl rfl
        | some q => exact .inr ⟨q, rfl, by rw [takeP_len k _ q.1 q.2 h]; exact hk⟩
      rcases e1 b.toNat (by omega) with h | ⟨q, h, hq⟩ <;> rcases e1 9 (by omega) with h' | ⟨q', h', hq'⟩ <;> rw [h, h'] <;> simp [may_len, *]

theorem takeP_scP (pk : List UInt8) : ∀ ps : List (List UInt8), (∀ p ∈ ps, decOk p = true) → takeP ps.length (scP ps ++ pk) = some (ps, pk)
  | [], _ => rfl
  | p :: ps, h => by
    have hp := h p (List.mem_cons_self ..)
    obtain ⟨h6, _⟩ := decOk_iff' hp
    have hl := decOk_len hp
    have e : scP (p :: ps) ++ pk = by8 ((p.length : Int) / 6) :: (p ++ (scP ps ++ pk)) := by simp [scP]
    have hb : (by8 ((p.length : Int) / 6)).toNat * 6 = p.length := by
      have := by8_val ((p.length : Int) / 6) (by omega) (by omega)
      omega
    rw [e, List.length_cons]
    unfold takeP
    rw [hb, if_neg (by simp), List.drop_left, List.take_left, takeP_scP pk ps (fun x hx => h x (List.mem_cons_of_mem _ hx))]
    rfl

theorem scO_scB {pg : Int} {ps : List (List UInt8)} {pk : List UInt8} (h : mayS pg ps pk = true) : scO (scB pg ps pk) = some (pg, ps, pk) := by
  obtain ⟨⟨g1, g2⟩, ⟨g3, g4⟩, g5, hps, _⟩ := mayS_iff h
  have e0 : numOf (scB pg ps pk) = pg := by8_val pg (by omega) (by omega)
  have e1 : numOf ((scB pg ps pk).drop 1) = ps.length := by8_val ps.length (by omega) (by omega)
  have e2 : rounds (scB pg ps pk) = ps.length := by
    unfold rounds
    rw [e1]
    omega
  rw [scO_yes (ps := ps) (pk := pk) (by rw [e1]; omega) (by rw [e2]; exact takeP_scP pk ps hps) (by rw [e0]; exact h), e0]

theorem scP_takeP : ∀ (k : Nat) (r : List UInt8) (ps : List (List UInt8)) (q : List UInt8), takeP k r = some (ps, q) → scP ps ++ q = r
  | 0, r, ps, q, h => by
    simp only [takeP, Option.some.injEq, Prod.mk.injEq] at h
    rw [← h.1, ← h.2]
    rfl
  | k + 1, [], ps, q, h => by simp [takeP] at h
  | k + 1, b :: r, ps, q, h => by
    unfold takeP at h
    split at h
    · cases h
    · rename_i hlt
      obtain ⟨⟨ps', q'⟩, h1, h2⟩ := Option.map_eq_some_iff.1 h
      simp only [Prod.mk.injEq] at h2
      have h3 := scP_takeP k _ ps' q' h1
      have hl : (r.take (b.toNat * 6)).length = b.toNat * 6 := by rw [List.length_take]; omega
      have hb : by8 (((r.take (b.toNat * 6)).length : Int) / 6) = b := by
        rw [hl]
        unfold by8
        have : ((((b.toNat * 6 : Nat) : Int)) / 6).toNat = b.toNat := by omega
        rw [this]
        exact UInt8.ofNat_toNat
      rw [← h2.1, ← h2.2]
      have e : scP (r.take (b.toNat * 6) :: ps') ++ q' = by8 (((r.take (b.toNat * 6)).length : Int) / 6) :: (r.take (b.toNat * 6) ++ (scP ps' ++ q')) := by simp [scP]
      rw [e, hb, h3, List.take_append_drop]

theorem scB_scO {l : List UInt8} {pg : Int} {ps : List (List UInt8)} {pk : List UInt8} (h : scO l = some (pg, ps, pk)) : mayS pg ps pk = true ∧ scB pg ps pk = l := by
  unfold scO at h
  split at h
  · cases h
  · rename_i h0
    split at h
    · cases h
    · rename_i q hq
      split at h
      · rename_i hm
        simp only [Option.some.injEq, Prod.mk.injEq] at h
        obtain ⟨hp, h1, h2⟩ := h
        obtain ⟨q1, q2⟩ := q
        simp only at h1 h2 hm
        subst h1 h2
        rw [hp] at hm
        refine ⟨hm, ?_⟩
        have hlen := takeP_len _ _ _ _ hq
        have hs := scP_takeP _ _ _ _ hq
        have h8 := (mayS_iff hm).2.1.2
        match l, h0, hq, hlen, hs, hp with
        | [], h0, _, _, _, _ => exact absurd (show numOf (([] : List UInt8).drop 1) < 0 by decide) h0
        | [b], h0, _, _, _, _ => exact absurd (show numOf (([b] : List UInt8).drop 1) < 0 from (by show (-1 : Int) < 0; decide)) h0
        | a :: b :: r, _, _, hlen, hs, hp =>
          have hr : rounds (a :: b :: r) = min b.toNat 9 := by
            show (min (b.toNat : Int) 9).toNat = min b.toNat 9
            omega
          have hb : b.toNat = q1.length := by omega
          have hp' : (a.toNat : Int) = pg := hp
          have ea : by8 pg = a := by
            rw [← hp']
            unfold by8
            rw [Int.toNat_natCast]
            exact UInt8.ofNat_toNat
          have eb : by8 (q1.length : Int) = b := by
            rw [← hb]
            unfold by8
            rw [Int.toNat_natCast]
            exact UInt8.ofNat_toNat
          unfold scB
          rw [ea, eb]
          congr 2
      · cases h
end Go.Proofs.Ytnhnofiimidagaa
