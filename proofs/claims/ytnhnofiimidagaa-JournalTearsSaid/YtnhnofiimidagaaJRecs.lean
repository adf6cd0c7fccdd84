/-
  Journals that were made: records in sequence, what a beginning of them tells, what is told if a byte is another one: over lists. No function of the program.
-/
import Derived.Test.YtnhnofiimidagaaJRRead
namespace Go.Proofs.Ytnhnofiimidagaa

/-- records in sequence -/
def Recs (j : List UInt8) : Nat → List (List UInt8) → Nat → Prop
  | a, [], b => a = b
  | a, p :: rs, b => ∃ e, goodAt j a = some (p, e) ∧ Recs j e rs b
theorem Recs.le {j : List UInt8} : ∀ {rs : List (List UInt8)} {a b : Nat}, Recs j a rs b → a ≤ b
  | [], a, b, h => by have h : a = b := h; omega
  | p :: rs, a, b, ⟨e, h1, h2⟩ => by
    have h3 := goodAt_lt h1
    have h4 := Recs.le h2
    simp only at h3
    omega
theorem Recs.snoc {j : List UInt8} {p : List UInt8} {e : Nat} : ∀ {rs : List (List UInt8)} {a b : Nat}, Recs j a rs b → goodAt j b = some (p, e) → Recs j a (rs ++ [p]) e
  | [], a, b, h, hg => by
    have h : a = b := h
    subst h
    exact ⟨e, hg, rfl⟩
  | q :: rs, a, b, ⟨e1, h1, h2⟩, hg => ⟨e1, h1, h2.snoc hg⟩

theorem take_le_eq {j j' : List UInt8} {e x : Nat} (h : j'.take e = j.take e) (hx : x ≤ e) : j'.take x = j.take x := by
  have := congrArg (List.take x) h
  rwa [List.take_take, List.take_take, Nat.min_eq_left hx] at this
theorem getD_take_eq {j j' : List UInt8} {e a : Nat} (h : j'.take e = j.take e) (ha : a < e) : j'.getD a 0 = j.getD a 0 := by
  have h1 := congrArg (fun l => l[a]?) h
  simp only [List.getElem?_take, if_pos ha] at h1
  rw [List.getD_eq_getElem?_getD, List.getD_eq_getElem?_getD, h1]
theorem len_of_take {j j' : List UInt8} {e : Nat} (h : j'.take e = j.take e) (he : e ≤ j.length) : e ≤ j'.length := by
  have := congrArg List.length h
  simp only [List.length_take] at this
  omega

theorem goodAt_of_take {j j' : List UInt8} {a e : Nat} {p : List UInt8} (h : goodAt j a = some (p, e)) (ht : j'.take e = j.take e) : goodAt j' a = some (p, e) := by
  have hlt := goodAt_lt h
  simp only at hlt
  obtain ⟨h1, h2, h3, h4, h5, h6⟩ := hlt
  have hl := len_of_take ht h3
  have hg := getD_take_eq ht h2
  unfold goodAt at h ⊢
  rw [if_pos h1] at h
  rw [if_pos (by omega), hg]
  split at h
  · cases h
  rename_i hb
  split at h
  · rename_i hs
    simp only [Option.some.injEq, Prod.mk.injEq] at h
    rw [if_neg (by omega)]
    rw [take_le_eq ht (show a ≤ e by omega), take_le_eq ht (show a + 1 + (j.getD a 0).toNat ≤ e by omega), take_le_eq ht (show a + 5 + (j.getD a 0).toNat ≤ e by omega), if_pos hs]
    rw [Option.some.injEq, Prod.mk.injEq]
    exact h
  · cases h
theorem goodAt_ge {j : List UInt8} {a : Nat} (h : j.length ≤ a) : goodAt j a = none := by
  unfold goodAt
  rw [if_neg (by omega)]
theorem goodAt_cut {j : List UInt8} {a e n : Nat} {p : List UInt8} (h : goodAt j a = some (p, e)) (hn : n < e) : goodAt (j.take n) a = none := by
  have hlt := goodAt_lt h
  simp only at hlt
  obtain ⟨h1, h2, h3, h4, h5, h6⟩ := hlt
  by_cases hna : n ≤ a
  · exact goodAt_ge (by rw [List.length_take]; omega)
  have hg : (j.take n).getD a 0 = j.getD a 0 := getD_take_eq (e := n) (by rw [List.take_take, Nat.min_self]) (by omega)
  unfold goodAt at h ⊢
  rw [if_pos h1] at h
  rw [if_pos (by rw [List.length_take]; omega), hg]
  split at h
  · cases h
  split at h
  · simp only [Option.some.injEq, Prod.mk.injEq] at h
    rw [if_pos (.inr (.inr (by rw [List.length_take]; omega)))]
  · cases h
theorem Recs.of_take {j j' : List UInt8} : ∀ {rs : List (List UInt8)} {a b : Nat}, Recs j a rs b → j'.take b = j.take b → Recs j' a rs b
  | [], _, _, h, _ => h
  | _ :: _, _, _, ⟨e, h1, h2⟩, ht => ⟨e, goodAt_of_take h1 (take_le_eq ht h2.le), h2.of_take ht⟩

theorem reads_recs {j : List UInt8} {R : List UInt8 × Nat} : ∀ {rs : List (List UInt8)} {a b : Nat} {acc : List UInt8}, Recs j a rs b → goodAt j b = none → rs.flatten.all pickOk = true → acc.length + rs.flatten.length ≤ 4000 → Reads j acc a R → R = (acc ++ rs.flatten, b)
  | [], a, b, acc, h, hn, _, _, hr => by
    have h : a = b := h
    subst h
    rw [hr.none_ hn]
    simp
  | p :: rs, a, b, acc, ⟨e, h1, h2⟩, hn, hall, hl, hr => by
    rw [List.flatten_cons, List.all_append, Bool.and_eq_true] at hall
    rw [List.flatten_cons, List.length_append] at hl
    have := reads_recs h2 hn hall.2 (acc := acc ++ p) (by rw [List.length_append]; omega) (hr.step h1 (by unfold nextOk; rw [hall.1]; simp; omega))
    rw [this, List.flatten_cons, List.append_assoc]

theorem headO_parts {j : List UInt8} {q : Int × List (List UInt8) × List UInt8} {a : Nat} (h : headO j = some (q, a)) : a = 10 + hdN j ∧ a ≤ j.length ∧ scO ((j.take (6 + hdN j)).drop 6) = some q ∧ bgB q.1 q.2.1 = j.take (10 + hdN j) := by
  unfold headO at h
  split at h
  · cases h
  split at h
  · cases h
  split at h
  · cases h
  rename_i q' hq
  split at h
  · rename_i he
    simp only [Option.some.injEq, Prod.mk.injEq] at h
    obtain ⟨rfl, rfl⟩ := h
    exact ⟨rfl, by omega, hq, he⟩
  · cases h
theorem headO_of_take {j j' : List UInt8} {q : Int × List (List UInt8) × List UInt8} {a : Nat} (h : headO j = some (q, a)) (ht : j'.take a = j.take a) : headO j' = some (q, a) := by
  obtain ⟨rfl, hl, hs, hb⟩ := headO_parts h
  have hl' := len_of_take ht hl
  have hN : hdN j' = hdN j := by
    unfold hdN
    rw [getD_take_eq ht (by omega), getD_take_eq ht (by omega)]
  unfold headO
  rw [if_neg (by omega), hN, if_neg (by omega), take_le_eq ht (show 6 + hdN j ≤ 10 + hdN j by omega), hs]
  simp only
  rw [ht, if_pos hb]
theorem headO_cut {j : List UInt8} {q : Int × List (List UInt8) × List UInt8} {a n : Nat} (h : headO j = some (q, a)) (hn : n < a) : headO (j.take n) = none := by
  obtain ⟨rfl, hl, hs, hb⟩ := headO_parts h
  unfold headO
  split
  · rfl
  rename_i h6
  rw [List.length_take] at h6
  have hN : hdN (j.take n) = hdN j := by
    have ht : (j.take n).take n = j.take n := by rw [List.take_take, Nat.min_self]
    unfold hdN
    rw [getD_take_eq ht (by omega), getD_take_eq ht (by omega)]
  rw [hN, if_pos (by rw [List.length_take]; omega)]
theorem readO_head {j : List UInt8} {pg : Int} {ps : List (List UInt8)} {pk : List UInt8} {a b : Nat} {rs : List (List UInt8)} (h : headO j = some ((pg, ps, pk), a)) (hr : Recs j a rs b) (hn : goodAt j b = none) (hall : rs.flatten.all pickOk = true) (hl : rs.flatten.length ≤ 4000) :
    readO j = some ((pg, ps, rs.flatten), b) := by
  have h1 := reads_recs hr hn hall (acc := []) (by simpa using hl) (Reads.start j a)
  unfold readO
  rw [h]
  simp only
  rw [h1]
  simp

theorem lowB_two (N : Nat) : lowB N 2 = [UInt8.ofNat (N / 2 ^ (8 * 0)), UInt8.ofNat (N / 2 ^ (8 * 1))] := rfl
theorem hd_bgB {pg : Int} {ps : List (List UInt8)} {b : List UInt8} (hb : scB pg ps [] = b) (hl : b.length < 65536) (x : List UInt8) : hdN (bgB pg ps ++ x) = b.length := by
  unfold hdN bgB sealB headB
  rw [hb, lowB_two]
  simp only [List.cons_append, List.nil_append, List.getD_cons_succ, List.getD_cons_zero, UInt8.toNat_ofNat']
  omega
theorem bgB_len {pg : Int} {ps : List (List UInt8)} {b : List UInt8} (hb : scB pg ps [] = b) : (bgB pg ps).length = 10 + b.length := by
  unfold bgB sealB
  rw [List.length_append, headB_len, lowB_len, hb]
  omega
theorem headO_bgB {pg : Int} {ps : List (List UInt8)} (hm : mayS pg ps [] = true) (x : List UInt8) : headO (bgB pg ps ++ x) = some ((pg, ps, []), (bgB pg ps).length) := by
  obtain ⟨b, hb⟩ : ∃ b, scB pg ps [] = b := ⟨_, rfl⟩
  have hl := may_bytes hm
  rw [hb] at hl
  simp only [List.length_nil] at hl
  have hN := hd_bgB (pg := pg) (ps := ps) hb (by omega) x
  have hlen := bgB_len hb
  have ht : ((bgB pg ps ++ x).take (6 + b.length)).drop 6 = b := by
    unfold bgB sealB headB
    rw [hb, lowB_two]
    simp only [List.cons_append, List.nil_append]
    rw [show 6 + b.length = b.length + 1 + 1 + 1 + 1 + 1 + 1 by omega]
    simp only [List.take_succ_cons, List.drop_succ_cons, List.drop_zero]
    rw [List.append_assoc, List.take_left]
  have hs : scO b = some (pg, ps, []) := by rw [← hb]; exact scO_scB hm
  unfold headO
  rw [if_neg (by rw [List.length_append]; omega), hN, if_neg (by rw [List.length_append]; omega), ht, hs]
  simp only
  rw [if_pos (by rw [← hlen, List.take_left]), hlen]

theorem by8_nat (n : Nat) (h : n < 256) : (by8 (n : Int)).toNat = n := by
  have := by8_val (n : Int) (by omega) (by omega)
  omega
theorem recB_len (j p : List UInt8) : (recB j p).length = 5 + p.length := by
  unfold recB sealB
  rw [List.length_append, lowB_len, List.length_cons]
  omega
theorem good_rec (j p x : List UInt8) (h1 : 1 ≤ p.length) (h2 : p.length ≤ 200) : goodAt (j ++ (recB j p ++ x)) j.length = some (p, j.length + 5 + p.length) := by
  have hg : ((j ++ (recB j p ++ x)).getD j.length 0).toNat = p.length := by
    rw [List.getD_eq_getElem?_getD, List.getElem?_append_right (Nat.le_refl _), Nat.sub_self]
    unfold recB sealB
    simp only [List.cons_append, List.getElem?_cons_zero, Option.getD_some]
    exact by8_nat _ (by omega)
  have hr := recB_len j p
  have t1 : (j ++ (recB j p ++ x)).take j.length = j := List.take_left
  have t2 : ((j ++ (recB j p ++ x)).take (j.length + 1 + p.length)).drop j.length = by8 p.length :: p := by
    rw [show j.length + 1 + p.length = j.length + (1 + p.length) by omega, List.take_length_add_append, List.drop_left]
    unfold recB sealB
    rw [show 1 + p.length = p.length + 1 by omega]
    simp only [List.cons_append, List.take_succ_cons]
    rw [List.append_assoc, List.take_left]
  have t3 : ((j ++ (recB j p ++ x)).take (j.length + 5 + p.length)).drop j.length = recB j p := by
    rw [show j.length + 5 + p.length = j.length + (recB j p).length by omega, List.take_length_add_append, List.drop_left, List.take_left]
  have t4 : ((j ++ (recB j p ++ x)).take (j.length + 1 + p.length)).drop (j.length + 1) = p := by
    have := congrArg (List.drop 1) t2
    rw [List.drop_drop, List.drop_succ_cons, List.drop_zero] at this
    exact this
  unfold goodAt
  rw [if_pos (by simp only [List.length_append]; omega), hg, if_neg (by simp only [List.length_append]; omega), t1, t2, t3, t4]
  exact if_pos rfl

/-- a journal of records -/
def jrn (pg : Int) (ps : List (List UInt8)) (rs : List (List UInt8)) : List UInt8 := rs.foldl (fun j p => j ++ recB j p) (bgB pg ps)
theorem jrn_snoc (pg : Int) (ps : List (List UInt8)) (rs : List (List UInt8)) (p : List UInt8) : jrn pg ps (rs ++ [p]) = jrn pg ps rs ++ recB (jrn pg ps rs) p := by
  unfold jrn
  rw [List.foldl_append]
  rfl
theorem jrn_pre (pg : Int) (ps : List (List UInt8)) : ∀ (t rs : List (List UInt8)), ∃ x, jrn pg ps (rs ++ t) = jrn pg ps rs ++ x
  | [], rs => ⟨[], by simp⟩
  | p :: t, rs => by
    obtain ⟨x, hx⟩ := jrn_pre pg ps t (rs ++ [p])
    rw [jrn_snoc, List.append_assoc, List.append_assoc] at hx
    exact ⟨_, hx⟩
theorem jrn_take (pg : Int) (ps : List (List UInt8)) (rs : List (List UInt8)) (k : Nat) : ∃ x, jrn pg ps rs = jrn pg ps (rs.take k) ++ x := by
  obtain ⟨x, hx⟩ := jrn_pre pg ps (rs.drop k) (rs.take k)
  rw [List.take_append_drop] at hx
  exact ⟨x, hx⟩
/-- where the k-th record ends -/
def endAt (pg : Int) (ps : List (List UInt8)) (rs : List (List UInt8)) (k : Nat) : Nat := (jrn pg ps (rs.take k)).length
theorem jrn_take_end (pg : Int) (ps : List (List UInt8)) (rs : List (List UInt8)) (k : Nat) : (jrn pg ps rs).take (endAt pg ps rs k) = jrn pg ps (rs.take k) := by
  obtain ⟨x, hx⟩ := jrn_take pg ps rs k
  rw [hx, endAt, List.take_left]
theorem jrn4 (pg : Int) (ps : List (List UInt8)) (rs : List (List UInt8)) : 10 ≤ (jrn pg ps rs).length := by
  obtain ⟨x, hx⟩ := jrn_take pg ps rs 0
  have := bgB_len (pg := pg) (ps := ps) rfl
  rw [hx, List.take_zero, List.length_append]
  unfold jrn
  simp only [List.foldl_nil]
  omega
theorem endAt_succ {pg : Int} {ps : List (List UInt8)} {rs : List (List UInt8)} {k : Nat} {p : List UInt8} (h : rs[k]? = some p) : endAt pg ps rs (k + 1) = endAt pg ps rs k + 5 + p.length := by
  unfold endAt
  rw [take_snoc h, jrn_snoc, List.length_append, recB_len]
  omega
theorem endAt_zero (pg : Int) (ps : List (List UInt8)) (rs : List (List UInt8)) : endAt pg ps rs 0 = (bgB pg ps).length := by
  unfold endAt jrn
  simp
theorem endAt_all (pg : Int) (ps : List (List UInt8)) (rs : List (List UInt8)) : endAt pg ps rs rs.length = (jrn pg ps rs).length := by
  unfold endAt
  rw [List.take_length]
theorem good_jrn {pg : Int} {ps : List (List UInt8)} {rs : List (List UInt8)} {k : Nat} {p : List UInt8} (h : rs[k]? = some p) (h1 : 1 ≤ p.length) (h2 : p.length ≤ 200) : goodAt (jrn pg ps rs) (endAt pg ps rs k) = some (p, endAt pg ps rs (k + 1)) := by
  obtain ⟨x, hx⟩ := jrn_take pg ps rs (k + 1)
  rw [take_snoc h, jrn_snoc, List.append_assoc] at hx
  have := good_rec (jrn pg ps (rs.take k)) p x h1 h2
  rw [hx, endAt_succ h]
  exact this
/-- records that may be -/
def RsOk (rs : List (List UInt8)) : Prop := (∀ p ∈ rs, 1 ≤ p.length ∧ p.length ≤ 200) ∧ rs.flatten.all pickOk = true ∧ rs.flatten.length ≤ 4000
theorem recs_jrn {pg : Int} {ps : List (List UInt8)} {rs : List (List UInt8)} (h : ∀ p ∈ rs, 1 ≤ p.length ∧ p.length ≤ 200) : ∀ k, k ≤ rs.length → Recs (jrn pg ps rs) (bgB pg ps).length (rs.take k) (endAt pg ps rs k)
  | 0, _ => by
    rw [endAt_zero, List.take_zero]
    exact rfl
  | k + 1, hk => by
    have hp : rs[k]? = some rs[k] := List.getElem?_eq_getElem (by omega)
    have hb := h _ (List.getElem_mem (by omega : k < rs.length))
    rw [take_snoc hp]
    exact (recs_jrn h k (by omega)).snoc (good_jrn hp hb.1 hb.2)
theorem RsOk.take {rs : List (List UInt8)} (h : RsOk rs) (k : Nat) : RsOk (rs.take k) := by
  obtain ⟨h1, h2, h3⟩ := h
  have e : rs.flatten = (rs.take k).flatten ++ (rs.drop k).flatten := by rw [← List.flatten_append, List.take_append_drop]
  rw [e, List.all_append, Bool.and_eq_true] at h2
  rw [e, List.length_append] at h3
  exact ⟨fun p hp => h1 p (List.mem_of_mem_take hp), h2.1, by omega⟩
theorem headO_jrn {pg : Int} {ps : List (List UInt8)} {rs : List (List UInt8)} (hm : mayS pg ps [] = true) : headO (jrn pg ps rs) = some ((pg, ps, []), (bgB pg ps).length) := by
  obtain ⟨x, hx⟩ := jrn_take pg ps rs 0
  rw [hx, List.take_zero]
  exact headO_bgB hm x
/-- what a text tells that agrees with a journal as far as the k-th record, and has no good record there -/
theorem readO_agree {pg : Int} {ps : List (List UInt8)} {rs : List (List UInt8)} {k : Nat} {j : List UInt8} (hm : mayS pg ps [] = true) (h : RsOk rs) (hk : k ≤ rs.length) (ht : j.take (endAt pg ps rs k) = (jrn pg ps rs).take (endAt pg ps rs k)) (hn : goodAt j (endAt pg ps rs k) = none) :
    readO j = some ((pg, ps, (rs.take k).flatten), endAt pg ps rs k) := by
  have h0 : (bgB pg ps).length ≤ endAt pg ps rs k := (recs_jrn h.1 k hk).le
  exact readO_head (headO_of_take (headO_jrn hm) (take_le_eq ht h0)) ((recs_jrn h.1 k hk).of_take ht) hn (h.take k).2.1 (h.take k).2.2
theorem readO_jrn {pg : Int} {ps : List (List UInt8)} {rs : List (List UInt8)} (hm : mayS pg ps [] = true) (h : RsOk rs) : readO (jrn pg ps rs) = some ((pg, ps, rs.flatten), (jrn pg ps rs).length) := by
  have := readO_agree hm h (Nat.le_refl _) rfl (goodAt_ge (by rw [endAt_all]; exact Nat.le_refl _))
  rwa [List.take_length, endAt_all] at this
/-- a beginning -/
theorem readO_begin {pg : Int} {ps : List (List UInt8)} {rs : List (List UInt8)} {n k : Nat} (hm : mayS pg ps [] = true) (h : RsOk rs) (hk : k ≤ rs.length) (h1 : endAt pg ps rs k ≤ n) (hn : n ≤ (jrn pg ps rs).length) (h2 : k = rs.length ∨ n < endAt pg ps rs (k + 1)) :
    readO ((jrn pg ps rs).take n) = some ((pg, ps, (rs.take k).flatten), endAt pg ps rs k) := by
  refine readO_agree hm h hk (by rw [List.take_take, Nat.min_eq_left h1]) ?_
  by_cases hkl : k = rs.length
  · subst hkl
    exact goodAt_ge (by rw [List.length_take, endAt_all]; omega)
  · have hp : rs[k]? = some rs[k] := List.getElem?_eq_getElem (by omega)
    have hb := h.1 _ (List.getElem_mem (by omega : k < rs.length))
    exact goodAt_cut (good_jrn hp hb.1 hb.2) (by omega)
theorem readO_short {pg : Int} {ps : List (List UInt8)} {rs : List (List UInt8)} {n : Nat} (hm : mayS pg ps [] = true) (hn : n < (bgB pg ps).length) : readO ((jrn pg ps rs).take n) = none := by
  unfold readO
  rw [headO_cut (headO_jrn hm) hn]

/-! A byte that is another one -/
theorem mulI (x : Nat) (hx : x < 4294967296) : x * 16777619 % 4294967296 * 899433627 % 4294967296 = x := by
  rw [Nat.mul_mod, Nat.mod_mod, ← Nat.mul_mod, Nat.mul_assoc, show 16777619 * 899433627 = 1 + 4294967296 * 3513497 from rfl, Nat.mul_add, Nat.mul_one, ← Nat.mul_assoc, Nat.mul_comm x, Nat.mul_assoc, Nat.add_mul_mod_self_left]
  exact Nat.mod_eq_of_lt hx
theorem mulP {a b : Nat} (ha : a < 4294967296) (hb : b < 4294967296) (h : a * 16777619 % 4294967296 = b * 16777619 % 4294967296) : a = b := by
  rw [← mulI a ha, h, mulI b hb]
theorem xor_left {a b c : Nat} (h : a ^^^ b = a ^^^ c) : b = c := by
  have := congrArg (a ^^^ ·) h
  simpa [← Nat.xor_assoc] using this
theorem xor_right {a b c : Nat} (h : b ^^^ a = c ^^^ a) : b = c := by
  rw [Nat.xor_comm b, Nat.xor_comm c] at h
  exact xor_left h
theorem sumStep_inj {n m : Nat} (hn : n < 4294967296) (hm : m < 4294967296) (b : UInt8) (h : sumStep n b = sumStep m b) : n = m := by
  have h8 := b.toNat_lt
  unfold sumStep at h
  exact xor_right (mulP (Nat.xor_lt_two_pow (n := 32) hn (by omega)) (Nat.xor_lt_two_pow (n := 32) hm (by omega)) h)
theorem sumStep_byte {n : Nat} (hn : n < 4294967296) {b c : UInt8} (h : sumStep n b = sumStep n c) : b = c := by
  have h8 := b.toNat_lt
  have h9 := c.toNat_lt
  unfold sumStep at h
  exact UInt8.toNat_inj.1 (xor_left (mulP (Nat.xor_lt_two_pow (n := 32) hn (by omega)) (Nat.xor_lt_two_pow (n := 32) hn (by omega)) h))
theorem foldl_inj : ∀ (l : List UInt8) {n m : Nat}, n < 4294967296 → m < 4294967296 → l.foldl sumStep n = l.foldl sumStep m → n = m
  | [], _, _, _, _, h => h
  | b :: l, n, m, hn, hm, h => sumStep_inj hn hm b (foldl_inj l (sumStep_lt n b) (sumStep_lt m b) h)
theorem sum_other (u v : List UInt8) {x y : UInt8} (h : sumN (u ++ x :: v) = sumN (u ++ y :: v)) : x = y := by
  unfold sumN at h
  rw [List.foldl_append, List.foldl_append, List.foldl_cons, List.foldl_cons] at h
  exact sumStep_byte (sumN_lt u) (foldl_inj v (sumStep_lt _ _) (sumStep_lt _ _) h)
theorem lowB_four (N : Nat) : lowB N 4 = [UInt8.ofNat (N / 2 ^ (8 * 0)), UInt8.ofNat (N / 2 ^ (8 * 1)), UInt8.ofNat (N / 2 ^ (8 * 2)), UInt8.ofNat (N / 2 ^ (8 * 3))] := rfl
theorem lowB_inj {N M : Nat} (hN : N < 4294967296) (hM : M < 4294967296) (h : lowB N 4 = lowB M 4) : N = M := by
  rw [lowB_four, lowB_four] at h
  simp only [List.cons.injEq, and_true] at h
  obtain ⟨a, b, c, d⟩ := h
  have a := congrArg UInt8.toNat a
  have b := congrArg UInt8.toNat b
  have c := congrArg UInt8.toNat c
  have d := congrArg UInt8.toNat d
  simp only [UInt8.toNat_ofNat'] at a b c d
  omega
theorem drop_take_set {j : List UInt8} {a b i : Nat} (x : UInt8) (hi : a ≤ i) : ((j.set i x).take b).drop a = ((j.take b).drop a).set (i - a) x := by
  apply List.ext_getElem?
  intro k
  simp only [List.getElem?_drop, List.getElem?_take, List.getElem?_set, List.length_drop, List.length_take]
  by_cases hb : a + k < b
  · simp only [if_pos hb]
    by_cases hk : i = a + k
    · rw [if_pos hk, if_pos (by omega : i - a = k)]
      by_cases hl : i < j.length
      · rw [if_pos hl, if_pos (by omega)]
      · rw [if_neg hl, if_neg (by omega)]
    · rw [if_neg hk, if_neg (by omega : ¬ i - a = k)]
  · simp only [if_neg hb]
    by_cases hk : i - a = k
    · rw [if_pos hk, if_neg (by omega)]
    · rw [if_neg hk]
theorem take_set_le {j : List UInt8} {b i : Nat} (x : UInt8) (hi : b ≤ i) : (j.set i x).take b = j.take b := by
  rw [List.take_set, List.set_eq_of_length_le (by rw [List.length_take]; omega)]
theorem sum_set {l : List UInt8} {i : Nat} {x y : UInt8} (hy : l[i]? = some y) (h : sumN (l.set i x) = sumN l) : x = y := by
  obtain ⟨hi, rfl⟩ := List.getElem?_eq_some_iff.1 hy
  have e1 : l.set i x = l.take i ++ x :: l.drop (i + 1) := List.set_eq_take_append_cons_drop.trans (if_pos hi)
  have e2 : l = l.take i ++ l[i] :: l.drop (i + 1) := by rw [List.getElem_cons_drop, List.take_append_drop]
  have e3 : sumN (l.take i ++ x :: l.drop (i + 1)) = sumN (l.take i ++ l[i] :: l.drop (i + 1)) := by rw [← e1, h, ← e2]
  exact sum_other _ _ e3
theorem goodAt_torn {j : List UInt8} {a e i : Nat} {p : List UInt8} {x y : UInt8} (h : goodAt j a = some (p, e)) (h1 : a < i) (h2 : i < e) (hy : j[i]? = some y) (hx : x ≠ y) : goodAt (j.set i x) a = none := by
  have hlt := goodAt_lt h
  simp only at hlt
  obtain ⟨g1, g2, g3, g4, g5, g6⟩ := hlt
  have hta : (j.set i x).take (a + 1) = j.take (a + 1) := take_set_le x (by omega)
  have hg : (j.set i x).getD a 0 = j.getD a 0 := getD_take_eq hta (by omega)
  obtain ⟨N, hN⟩ : ∃ N, (j.getD a 0).toNat = N := ⟨_, rfl⟩
  unfold goodAt at h ⊢
  rw [if_pos g1, hN] at h
  rw [if_pos (by rw [List.length_set]; omega), hg, hN]
  split at h
  · cases h
  rename_i hbad
  split at h
  · rename_i hs
    simp only [Option.some.injEq, Prod.mk.injEq] at h
    have he : a + 5 + N = e := h.2
    rw [if_neg (by rw [List.length_set]; exact hbad), if_neg ?_]
    intro hs'
    rw [take_le_eq hta (show a ≤ a + 1 by omega), drop_take_set x (by omega), drop_take_set x (by omega)] at hs'
    obtain ⟨X, hX⟩ : ∃ X, (j.take a).drop (a - 4) = X := ⟨_, rfl⟩
    obtain ⟨Y, hY⟩ : ∃ Y, (j.take (a + 1 + N)).drop a = Y := ⟨_, rfl⟩
    have hYl : Y.length = 1 + N := by rw [← hY, List.length_drop, List.length_take]; omega
    rw [hX, hY] at hs hs'
    rw [← hs] at hs'
    unfold sealB at hs'
    by_cases hin : i < a + 1 + N
    · rw [List.set_append_left _ _ (by omega)] at hs'
      have hq := lowB_inj (sumN_lt _) (sumN_lt _) (List.append_cancel_left hs')
      have hyY : Y[i - a]? = some y := by
        rw [← hY, List.getElem?_drop, List.getElem?_take, if_pos (by omega), show a + (i - a) = i by omega]
        exact hy
      have hXY : X ++ Y.set (i - a) x = (X ++ Y).set (X.length + (i - a)) x := by rw [List.set_append_right _ _ (by omega)]; congr 2; omega
      rw [hXY] at hq
      exact hx (sum_set (by rw [List.getElem?_append_right (by omega)]; rw [show X.length + (i - a) - X.length = i - a by omega]; exact hyY) hq)
    · have hsY : Y.set (i - a) x = Y := List.set_eq_of_length_le (by omega)
      rw [hsY] at hs'
      have hyL : (j.take (a + 5 + N)).drop a = Y ++ lowB (sumN (X ++ Y)) 4 := by rw [← hs]; rfl
      have hy2 : (Y ++ lowB (sumN (X ++ Y)) 4)[i - a]? = some y := by
        rw [← hyL, List.getElem?_drop, List.getElem?_take, if_pos (by omega), show a + (i - a) = i by omega]
        exact hy
      rw [hs', List.getElem?_set] at hy2
      have hlt' : i - a < (Y ++ lowB (sumN (X ++ Y)) 4).length := by rw [List.length_append, lowB_len]; omega
      rw [if_pos rfl, if_pos hlt'] at hy2
      exact hx (Option.some.inj hy2)
  · cases h
/-- a byte of a record is another one -/
theorem readO_torn {pg : Int} {ps : List (List UInt8)} {rs : List (List UInt8)} {k i : Nat} {x y : UInt8} (hm : mayS pg ps [] = true) (h : RsOk rs) (hk : k < rs.length) (h1 : endAt pg ps rs k < i) (h2 : i < endAt pg ps rs (k + 1)) (hy : (jrn pg ps rs)[i]? = some y) (hx : x ≠ y) :
    readO ((jrn pg ps rs).set i x) = some ((pg, ps, (rs.take k).flatten), endAt pg ps rs k) := by
  have hp : rs[k]? = some rs[k] := List.getElem?_eq_getElem hk
  have hb := h.1 _ (List.getElem_mem hk)
  exact readO_agree hm h (by omega) (take_set_le x (by omega)) (goodAt_torn (good_jrn hp hb.1 hb.2) h1 h2 hy hx)
end Go.Proofs.Ytnhnofiimidagaa
