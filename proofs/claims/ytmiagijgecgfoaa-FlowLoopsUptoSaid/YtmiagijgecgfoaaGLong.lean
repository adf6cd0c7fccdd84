/-
  The walk of bailiwickref24.Longest.
-/
import Derived.Test.YtmiagijgecgfoaaGLongP
import Derived.Test.YtmiagijgecgfoaaGMap
import Derived.Test.YtmiagijgecgfoaaGEach
import Derived.Deep.LoopGhost
namespace Go.Proofs.Ytmiagijgecgfoaa
open Go.RowKit

/-- the places after t steps -/
def LvI (l : List Ins) (w : World) (t bl : Nat) (S : Nat → Bool) (wr : World) : Prop :=
  (∀ k, S k = true ↔ AtT l 0 t k) ∧ IsSet wr bl S ∧ w.heap.size ≤ bl ∧ Below w.heap.size w wr
/-- the next places of those of S below i, and of place i those below j -/
def NxI (l : List Ins) (S : Nat → Bool) (i j : Nat) (S2 : Nat → Bool) : Prop :=
  ∀ q, S2 q = true ↔ (∃ a, a < i ∧ S a = true ∧ q ∈ nextL l a) ∨ (q < j ∧ q ∈ nextL l i)
section
variable {l : List Ins} {S S2 : Nat → Bool} {i j : Nat}
theorem NxI.zero : NxI l S 0 0 (fun _ => false) := by
  intro q
  constructor
  · intro h; cases h
  · rintro (⟨a, h, _⟩ | ⟨h, _⟩) <;> omega
theorem NxI.no (h : NxI l S i 0 S2) (hS : S i = false) : NxI l S (i + 1) 0 S2 := by
  intro q
  rw [h q]
  constructor
  · rintro (⟨a, h1, h2, h3⟩ | ⟨h, _⟩)
    · exact .inl ⟨a, by omega, h2, h3⟩
    · omega
  · rintro (⟨a, h1, h2, h3⟩ | ⟨h, _⟩)
    · refine .inl ⟨a, ?_, h2, h3⟩
      by_cases e : a = i
      · subst e; rw [hS] at h2; cases h2
      · omega
    · omega
theorem NxI.skip (h : NxI l S i j S2) (hj : j ∉ nextL l i) : NxI l S i (j + 1) S2 := by
  intro q
  rw [h q]
  constructor
  · rintro (h1 | ⟨h1, h2⟩)
    · exact .inl h1
    · exact .inr ⟨by omega, h2⟩
  · rintro (h1 | ⟨h1, h2⟩)
    · exact .inl h1
    · refine .inr ⟨?_, h2⟩
      by_cases e : q = j
      · subst e; exact absurd h2 hj
      · omega
theorem NxI.put (h : NxI l S i j S2) (hj : j ∈ nextL l i) : NxI l S i (j + 1) (addS S2 j) := by
  intro q
  unfold addS
  by_cases e : q = j
  · subst e
    rw [if_pos rfl]
    exact ⟨fun _ => .inr ⟨by omega, hj⟩, fun _ => rfl⟩
  · rw [if_neg e, h q]
    constructor
    · rintro (h1 | ⟨h1, h2⟩)
      · exact .inl h1
      · exact .inr ⟨by omega, h2⟩
    · rintro (h1 | ⟨h1, h2⟩)
      · exact .inl h1
      · exact .inr ⟨by omega, h2⟩
theorem NxI.round (hp : Prog l) (h : NxI l S i (l.length + 1) S2) (hS : S i = true) : NxI l S (i + 1) 0 S2 := by
  intro q
  rw [h q]
  constructor
  · rintro (⟨a, h1, h2, h3⟩ | ⟨h1, h2⟩)
    · exact .inl ⟨a, by omega, h2, h3⟩
    · exact .inl ⟨i, by omega, hS, h2⟩
  · rintro (⟨a, h1, h2, h3⟩ | ⟨h1, _⟩)
    · by_cases e : a = i
      · subst e
        have := nextL_le hp h3
        exact .inr ⟨by omega, h3⟩
      · exact .inl ⟨a, by omega, h2, h3⟩
    · omega
theorem NxI.all (h : NxI l S l.length 0 S2) : ∀ q, S2 q = true ↔ ∃ a, S a = true ∧ q ∈ nextL l a := by
  intro q
  rw [h q]
  constructor
  · rintro (⟨a, h1, h2, h3⟩ | ⟨h1, _⟩)
    · exact ⟨a, h2, h3⟩
    · omega
  · rintro ⟨a, h2, h3⟩
    refine .inl ⟨a, ?_, h2, h3⟩
    by_cases e : a < l.length
    · exact e
    · have : nextL l a = [] := by unfold nextL; rw [List.getElem?_eq_none (by omega)]
      rw [this] at h3
      cases h3
end
theorem len_map {P : Program} {t kt et ty : TypeId} {b clock : Nat} {es : Array MapEntry} {w : World} (ht : P.underlying t = some (.map kt et)) (hg : w.heap[b]? = some (.map es clock)) :
    (Builtin.len_ #[t] ty #[.map (some b)]).run P w = .ok (.int .i64 es.size) w := by
  simp [Builtin.len_, run_underlying ht, MapKept.run_getObj_map hg, Result.andThen]
  rfl
/-- the steps counted ahead of round t -/
def StepsN (t M s : Nat) : Prop := (t ≤ M ∧ s = t) ∨ (M < t ∧ s = M)
theorem anyB_hit {S : Nat → Bool} {n : Nat} (h : anyB S n = true) : ∃ i, i < n ∧ S i = true := by
  unfold anyB at h
  rw [List.any_eq_true] at h
  obtain ⟨x, hx, h⟩ := h
  exact ⟨x, List.mem_range.1 hx, h⟩
theorem anyB_step {S : Nat → Bool} {i : Nat} (h : S i = false) : anyB S (i + 1) = anyB S i := by
  unfold anyB
  rw [List.range_succ, List.any_append]
  simp [h]
section
variable {l : List Ins} {A : Option Addr} {n c : Nat} {w : World}

set_option maxRecDepth 100000 in
set_option maxHeartbeats 4000000 in
theorem rLongest_any (hp : Prog l) (hr : Rd w w.heap.size 5 A n (l.flatMap Ins.ci)) {M : Nat} (hL : Long l 0 M) (hM : M ≤ 1000) :
    Calls Try.prog 30 #[.slice A n c] w fun e w' => e = .returned (.int .i64 M) ∧ Below w.heap.size w w' := by
  have hln := hr.lenI
  have hle := hp.le
  have hn64 : n ≤ 64 := by omega
  have HED := hide (fun (W : World) (h : Below w.heap.size w W) (i j : Int) => edge_any (l := l) (w := W) (A := A) (n := n) (c := c) hp.ok (hr.to h) (by omega) i j)
  have HP := hide hp
  have HL := hide hL
  have HLN := Lib.hid hln
  obtain ⟨W1, m1, s1, b1, _⟩ := IsSet.make' (P := Try.prog) 91 (Below.refl w.heap.size w)
  obtain ⟨W2, m2, s2, b2, z2, _⟩ := s1.put' (P := Try.prog) Try.underlying91 Try.underlying3 b1 (Nat.le_refl _) 0
  have m2' : (Instr.mapUpdate 91 (.map (some w.heap.size)) (.int .i64 0) (.bool true)).run Try.prog W1 = .ok () W2 := m2
  have HS2 := hide s2
  have HB2 := hide b2
  clear hr hp hL hln hle m2 s1 b1 s2 b2 z2
  go_enter Try.func30, Try.ntmps30
  go_upto_region 3 with fail
  clear m1 m2'
  go_loopg [3, 4] (M + 2) (fun gk lv st wr => ∃ (t bl s : Nat) (S : Nat → Bool), t ≤ M + 1 ∧ gk = M + 2 - t ∧ lv = .map (some bl) ∧ st = .int .i64 s ∧ StepsN t M s ∧ LvI l w t bl S wr)
  case atStart => exact ⟨0, w.heap.size, 0, addS (fun _ => false) 0, by omega, rfl, rfl, rfl, .inl ⟨Nat.zero_le _, rfl⟩, fun k => by
    unfold addS
    by_cases e : k = 0
    · subst e
      rw [if_pos rfl]
      exact ⟨fun _ => .zero, fun _ => rfl⟩
    · rw [if_neg e]
      exact ⟨fun h => by simp at h, fun h => by cases h; exact absurd rfl e⟩, unhide HS2, Nat.le_refl _, unhide HB2⟩
  case round =>
    obtain ⟨t, bl, s, S, ht, rfl, rfl, rfl, hst, hSA, hs, hge, hb⟩ := hrel
    clear HS2 HB2
    obtain ⟨wo, rfl⟩ : ∃ x, x = wr := ⟨_, rfl⟩
    obtain ⟨es, clock, hg, hsz⟩ := hs.size
    have hlen := len_map (P := Try.prog) (ty := 3) Try.underlying91 hg
    clear hg
    by_cases hex : ∃ k, S k = true
    · have hz' : 0 < es.size := hsz.2 hex
      have hz : (0 : Int) < es.size := by omega
      have htM : t ≤ M := by
        obtain ⟨k, hk⟩ := hex
        exact ((hSA k).1 hk).le (unhide HL)
      obtain ⟨W3, m3, s3, b3, b3'⟩ := IsSet.make' (P := Try.prog) 91 hb
      have hne : bl ≠ wo.heap.size := Nat.ne_of_lt hs.lt
      have hge2 := hb.size
      have hs3 := hs.to b3'
      obtain ⟨bn, hbn⟩ : ∃ bn, wo.heap.size = bn := ⟨_, rfl⟩
      rw [hbn] at m3 s3 hne hge2
      have HS3 := hide s3
      have HS4 := hide hs3
      have HB3 := hide b3
      have HSA := hide hSA
      have HST := hide hst
      have HNE := Lib.hid hne
      clear hs hsz hex hb s3 b3 b3' hs3 hbn hSA hst hne
      go_upto_region 7 with fail
      clear m3 hlen hz hz'
      go_loopw [6, 7] (fun aa ii wr => ∃ (i : Nat) (S2 : Nat → Bool), i ≤ n ∧ ii = .int .i64 i ∧ aa = .bool (anyB S i) ∧ NxI l S i 0 S2 ∧ IsSet wr bn S2 ∧ IsSet wr bl S ∧ Below w.heap.size w wr) (fun _ ii _ => n - (intOf ii).toNat)
      case atStart => exact ⟨0, fun _ => false, Nat.zero_le _, rfl, rfl, NxI.zero, unhide HS3, unhide HS4, unhide HB3⟩
      case round =>
        obtain ⟨i, S2, hi, rfl, rfl, hN, h2, h1, hb⟩ := hrel
        clear HS3 HS4 HB3
        obtain ⟨wi, rfl⟩ : ∃ x, x = wr := ⟨_, rfl⟩
        by_cases hlt : i < n
        · have ki : (i : Int) < (n : Int) := by omega
          have hlk := h1.look (P := Try.prog) Try.underlying91 Try.underlying3 (fun _ => rfl) i
          cases hSi : S i
          · rw [hSi] at hlk
            have HA := Lib.hid (anyB_step hSi)
            have HN := hide (hN.no hSi)
            have H2 := hide h2
            have H1 := hide h1
            have HB := hide hb
            clear hN h2 h1 hb hSi hi
            go_wp2
            go_roundw
            case rel => exact ⟨i + 1, S2, by omega, by go_num, by rw [HA.out], HN.out, H2.out, H1.out, HB.out⟩
            case measure => simp [intOf]; omega
          · rw [hSi] at hlk
            have HA := Lib.hid (anyB_yes (k := i + 1) (by omega) hSi)
            have HN := hide hN
            have H2 := hide h2
            have H1 := hide h1
            have HB := hide hb
            have HSI := Lib.hid hSi
            clear hN h2 h1 hb hSi hi
            go_upto_region 12 with fail
            clear hlk
            go_loopw [8] (fun jj wr => ∃ (j : Nat) (S3 : Nat → Bool), j ≤ n + 1 ∧ jj = .int .i64 j ∧ NxI l S i j S3 ∧ IsSet wr bn S3 ∧ IsSet wr bl S ∧ Below w.heap.size w wr) (fun jj _ => n + 1 - (intOf jj).toNat)
            case atStart => exact ⟨0, S2, Nat.zero_le _, rfl, HN.out, H2.out, H1.out, HB.out⟩
            case round =>
              obtain ⟨j, S3, hj, rfl, hN3, h23, h13, hb3⟩ := hrel
              clear HN H2 H1 HB
              by_cases hjt : j < n + 1
              · have j1 : (j : Int) ≤ n := by omega
                have hE := (unhide HED) wr hb3 i j
                rw [edgeB_nat] at hE
                by_cases hm : j ∈ nextL l i
                · rw [decide_eq_true hm] at hE
                  have HE := hide hE
                  have HN3 := hide (hN3.put hm)
                  clear hE hN3 hm
                  go_wp2_with fail
                  refine (unhide HE).mono ?_
                  rintro e w4 ⟨rfl, hb4⟩
                  have hb5 := bt hb3 hb4
                  obtain ⟨w5, m5, s5, b5, _, o5⟩ := (h23.to hb4).put' (P := Try.prog) Try.underlying91 Try.underlying3 hb5 hge2 j
                  have H15 := hide (o5 bl S HNE.out (h13.to hb4))
                  have H25 := hide s5
                  have HB5 := hide b5
                  clear hb4 hb5 h23 h13 hb3 s5 b5 o5 HE
                  go_wp2
                  go_roundw
                  case rel => exact ⟨j + 1, addS S3 j, by omega, by go_num, HN3.out, H25.out, H15.out, HB5.out⟩
                  case measure => simp [intOf]; omega
                · rw [decide_eq_false hm] at hE
                  have HE := hide hE
                  have HN3 := hide (hN3.skip hm)
                  clear hE hN3 hm
                  go_wp2_with fail
                  refine (unhide HE).mono ?_
                  rintro e w4 ⟨rfl, hb4⟩
                  have HB5 := hide (bt hb3 hb4)
                  have H25 := hide (h23.to hb4)
                  have H15 := hide (h13.to hb4)
                  clear hb4 h23 h13 hb3 HE
                  go_wp2
                  go_roundw
                  case rel => exact ⟨j + 1, S3, by omega, by go_num, HN3.out, H25.out, H15.out, HB5.out⟩
                  case measure => simp [intOf]; omega
              · have hje : j = l.length + 1 := by have := HLN.out; omega
                have hN4 := NxI.round HP.out (hje ▸ hN3) HSI.out
                have j1 : ¬ (j : Int) ≤ n := by omega
                have HN4 := hide hN4
                have H23 := hide h23
                have H13 := hide h13
                have HB3 := hide hb3
                clear hje hN4 hN3 h23 h13 hb3 hjt
                go_wp2
                go_roundw
                case rel => exact ⟨i + 1, S3, by omega, by go_num, by rw [HA.out], HN4.out, H23.out, H13.out, HB3.out⟩
                case measure => simp [intOf]; omega
        · have hin : i = n := by omega
          have hil : i = l.length := by have := HLN.out; omega
          have hNA := NxI.all (hil ▸ hN)
          have hLV : LvI l w (t + 1) bn S2 wi := ⟨AtT.next S (unhide HSA) S2 hNA, h2, hge2, hb⟩
          have ki : ¬ (i : Int) < (n : Int) := by omega
          cases hAn : anyB S i
          · have htM2 : M ≤ t := by
              apply Nat.le_of_not_lt
              intro hlt2
              obtain ⟨k, hk, hA⟩ := Long.at_ t (unhide HL) hlt2
              have h3 := anyB_false hAn k (by omega)
              rw [(unhide HSA k).2 hA] at h3
              cases h3
            have hSt : StepsN (t + 1) M s := by
              rcases HST.out with ⟨_, h5⟩ | ⟨h5, _⟩
              · exact .inr ⟨by omega, by omega⟩
              · omega
            have HSt := hide hSt
            have HLV := hide hLV
            clear hNA hN h2 h1 hb hLV hSt hAn hin hil hlt
            go_wp2
            go_roundg (M + 2 - (t + 1))
            case rel => exact ⟨t + 1, bn, s, S2, by omega, rfl, rfl, rfl, HSt.out, HLV.out⟩
            case measure => omega
          · have htM2 : t < M := by
              obtain ⟨k, hk, hS⟩ := anyB_hit hAn
              exact (((unhide HSA) k).1 hS).lt (by omega) (unhide HL)
            have hSt : StepsN (t + 1) M (s + 1) := by
              rcases HST.out with ⟨_, h5⟩ | ⟨h5, _⟩
              · exact .inl ⟨by omega, by omega⟩
              · omega
            have hsM : s ≤ 1000 := by
              rcases HST.out with ⟨_, h5⟩ | ⟨h5, _⟩ <;> omega
            have HSt := hide hSt
            have HLV := hide hLV
            clear hNA hN h2 h1 hb hLV hSt hAn hin hil hlt
            go_wp2
            go_roundg (M + 2 - (t + 1))
            case rel => exact ⟨t + 1, bn, s + 1, S2, by omega, rfl, rfl, by go_num, HSt.out, HLV.out⟩
            case measure => omega
    · have hz : ¬ (0 : Int) < es.size := by
        intro h
        exact hex (hsz.1 (by omega))
      have htM2 : M ≤ t := by
        apply Nat.le_of_not_lt
        intro hlt2
        obtain ⟨k, hk, hA⟩ := Long.at_ t (unhide HL) hlt2
        exact hex ⟨k, (hSA k).2 hA⟩
      have hsm : s = M := by
        rcases hst with ⟨_, h5⟩ | ⟨_, h5⟩ <;> omega
      subst hsm
      have HB := hide hb
      clear hsz hex hb hs hSA hst
      go_wp2
      go_ret
      exact ⟨rfl, HB.out⟩
end
end Go.Proofs.Ytmiagijgecgfoaa
