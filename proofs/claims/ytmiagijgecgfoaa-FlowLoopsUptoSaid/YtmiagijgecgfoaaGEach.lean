/-
  The walks of bailiwickref24.Reached, Loops, Ends and bailiwicklaw24.row.
-/
import Derived.Test.YtmiagijgecgfoaaGWays
import Derived.Test.YtmiagijgecgfoaaFLong2
import Derived.Test.YtmiagijgecgfoaaFTrim
namespace Go.Proofs.Ytmiagijgecgfoaa
open Go.RowKit

theorem re_head {l : List Ins} {a i : Nat} : RE l (-1) a i ↔ a = i ∨ ∃ b ∈ nextL l a, RE l (-1) b i := by
  constructor
  · intro h
    induction h with
    | refl _ => exact .inl rfl
    | step h1 h2 h3 ih =>
      rcases ih with rfl | ⟨b, hb, hr⟩
      · exact .inr ⟨_, h2, .refl h3⟩
      · exact .inr ⟨b, hb, .step hr h2 h3⟩
  · rintro (rfl | ⟨b, hb, hr⟩)
    · exact .refl (by omega)
    · exact .cons (by omega) hb hr
section
variable {l : List Ins} {M : Nat → Nat → Bool} {b : Nat → Bool}
theorem ways_reached (h : IsWays l (-1) M) (hb : IsReached l b) (k : Nat) : b k = if k = 0 then true else M 0 k := by
  refine bool_ext ?_
  rw [hb k, re_head]
  by_cases e : k = 0
  · simp [e]
  · rw [if_neg e, h 0 k]
    constructor
    · rintro (h | h)
      · omega
      · exact ⟨by omega, h⟩
    · exact fun h => .inr h.2
theorem ways_loops (h : IsWays l (-1) M) (hb : IsLoops l b) (k : Nat) : b k = ((if k = 0 then true else M 0 k) && M k k) := by
  refine bool_ext ?_
  rw [hb k, re_head, Bool.and_eq_true, h k k]
  by_cases e : k = 0
  · simp [e]
  · rw [if_neg e, h 0 k]
    constructor
    · rintro ⟨h1 | h1, h2⟩
      · omega
      · exact ⟨⟨by omega, h1⟩, by omega, h2⟩
    · exact fun h => ⟨.inr h.1.2, h.2.2⟩
end

/-- a row of bools alone that the call made -/
def RowR (b : Nat → Bool) (n : Nat) (w : World) (e : Ending) (w' : World) : Prop :=
  ∃ A' c', e = .returned (.slice A' (n + 1) c') ∧ w'.ownsRow w.heap.size 4 1 (.slice A' (n + 1) c') (n + 1) (rowV b (n + 1)) ∧ Below w.heap.size w w'

section
variable {l : List Ins} {A : Option Addr} {n c : Nat} {w : World}

set_option maxRecDepth 100000 in
set_option maxHeartbeats 4000000 in
theorem rReached_any (hp : Prog l) (hr : Rd w w.heap.size 5 A n (l.flatMap Ins.ci)) {b : Nat → Bool} (hb : IsReached l b) :
    Calls Try.prog 39 #[.slice A n c] w (RowR b n w) := by
  obtain ⟨i0, hi, hz0, hz1, hz2⟩ := info_parts Try.infoB
  have hln := hr.lenI
  have hle := hp.le
  have hW := ways_any (c := c) (out := -1) hp hr
  have HWY := hide hW
  have HBB := hide hb
  have hnn : n ≤ 64 := by omega
  clear hW hr hb hp hln
  go_enter Try.func39, Try.ntmps39
  go_wp2_with fail
  refine (unhide HWY).mono ?_
  rintro e w1 ⟨M, rfl, hM, hb1⟩
  unfold waysV
  have HM := hide hM
  clear hM HWY
  go_upto_region 2 with (refine (Bx.new _ _ _ _ rfl).listStore (cs' := mW M) rfl _ _ rfl rfl rfl (sizeW M) (by rw [zeros111, mW_size, mW_size]) (mW_one M) ?_)
  refine nameW ?_
  intro W hW
  have hm : Bx W w1.heap.size (mW M) := by rw [hW]; exact (Bx.new _ _ _ _ rfl).row _
  have hb2 : Below w.heap.size w W := by rw [hW]; exact below_setRow (hb1.alloc hb1.size _) hb1.size (mW M)
  have hsz := hb2.size
  have HX := hide hm
  have HB2 := hide hb2
  clear hW hm hb1 hb2
  go_wp2
  go_loopw [4, 5] (fun v i wr => ∃ k : Nat, k ≤ n + 1 ∧ i = .int .i64 k ∧ wr.ownsRow W.heap.size 4 1 v k (rowV b k) ∧ Below W.heap.size W wr) (fun _ i _ => n + 1 - (intOf i).toNat)
  case atStart => exact ⟨0, Nat.zero_le _, rfl, World.ownsRow_nil _ _ _ _, Below.refl _ _⟩
  case round =>
    obtain ⟨k, hk, rfl, hown, hb⟩ := hrel
    by_cases hlt : k < n + 1
    · have hki : (k : Int) ≤ n := by omega
      have k2 : (k : Int) < 65 := by omega
      have k3 : k < 65 := by omega
      have hkn : k + 1 ≤ n + 1 := by omega
      have hm := (unhide HX).to hb
      have hrs := rowV_succ b k
      have hv := ways_reached (unhide HM) (unhide HBB) k
      by_cases hk0 : k = 0
      · subst hk0
        rw [if_pos rfl] at hv
        rw [hv] at hrs
        have HRS := Lib.hid hrs
        clear hm hv hrs hk
        have hbs := hb.size
        go_wp2_with (at_builtin; refine wpList_append_own _ rfl _ _ 60 rfl W.heap.size 4 i0 _ 1 1 Try.underlying60 hi hz0 hz1 hz2 rfl (by decide) _ _ _ rfl (hown.alloc _) ⟨wr.heap.size, 0, none⟩ 1 1 [.bool true] rfl rfl ?c1 ?c2 ?c3 ?c4 ?c5 ?_)
        case c1 => exact news_at _ _ _ _ rfl
        case c2 => intro u hu; simp at hu; rcases hu with rfl; rfl
        case c3 => unfold maxLen; omega
        case c4 => omega
        case c5 => simp; omega
        intro v' w3 hown' hgrow _
        have hb4 := grown1 hb hown hb.size hgrow
        rw [← HRS.out] at hown'
        clear hown hb hgrow HRS
        go_wp2
        go_roundw
        case rel => exact ⟨_, hkn, by go_num, hown', hb4⟩
        case measure => simp [intOf] <;> omega
      · rw [if_neg hk0] at hv
        rw [hv] at hrs
        have HRS := Lib.hid hrs
        have d1 : (_ : Option Value) = some (.bool (M 0 k)) := (hm.cell (0 * 65 + k)).trans (mW_at M (by omega) k3)
        simp only [Nat.zero_mul, Nat.zero_add] at d1
        have kz : ((k : Int) == 0) = false := by simpa using hk0
        clear hm hv hrs
        have hbs := hb.size
        go_wp2_with (at_builtin; refine wpList_append_own _ rfl _ _ 60 rfl W.heap.size 4 i0 _ 1 1 Try.underlying60 hi hz0 hz1 hz2 rfl (by decide) _ _ _ rfl (hown.alloc _) ⟨wr.heap.size, 0, none⟩ 1 1 [.bool (M 0 k)] rfl rfl ?c1 ?c2 ?c3 ?c4 ?c5 ?_)
        case c1 => exact news_at _ _ _ _ rfl
        case c2 => intro u hu; simp at hu; rcases hu with rfl; rfl
        case c3 => unfold maxLen; omega
        case c4 => omega
        case c5 => simp; omega
        intro v' w3 hown' hgrow _
        have hb4 := grown1 hb hown hb.size hgrow
        rw [← HRS.out] at hown'
        clear hown hb hgrow HRS
        go_wp2
        go_roundw
        case rel => exact ⟨_, hkn, by go_num, hown', hb4⟩
        case measure => simp [intOf] <;> omega
    · obtain rfl : k = n + 1 := by omega
      have hki : ¬ ((n : Int) + 1) ≤ (n : Int) := by omega
      obtain ⟨A', c', rfl⟩ := own_shape hown
      have HOW := hide (own_mono hown hsz)
      have HB := hide (bt (unhide HB2) hb)
      clear hown hb
      go_wp2
      go_ret
      exact ⟨A', c', rfl, HOW.out, HB.out⟩
set_option maxRecDepth 100000 in
set_option maxHeartbeats 4000000 in
theorem rLoops_any (hp : Prog l) (hr : Rd w w.heap.size 5 A n (l.flatMap Ins.ci)) {b : Nat → Bool} (hb : IsLoops l b) :
    Calls Try.prog 28 #[.slice A n c] w (RowR b n w) := by
  obtain ⟨i0, hi, hz0, hz1, hz2⟩ := info_parts Try.infoB
  have hln := hr.lenI
  have hle := hp.le
  have hW := ways_any (c := c) (out := -1) hp hr
  have HWY := hide hW
  have HBB := hide hb
  have hnn : n ≤ 64 := by omega
  clear hW hr hb hp hln
  go_enter Try.func28, Try.ntmps28
  go_wp2_with fail
  refine (unhide HWY).mono ?_
  rintro e w1 ⟨M, rfl, hM, hb1⟩
  unfold waysV
  have HM := hide hM
  clear hM HWY
  go_upto_region 2 with (refine (Bx.new _ _ _ _ rfl).listStore (cs' := mW M) rfl _ _ rfl rfl rfl (sizeW M) (by rw [zeros111, mW_size, mW_size]) (mW_one M) ?_)
  refine nameW ?_
  intro W hW
  have hm : Bx W w1.heap.size (mW M) := by rw [hW]; exact (Bx.new _ _ _ _ rfl).row _
  have hb2 : Below w.heap.size w W := by rw [hW]; exact below_setRow (hb1.alloc hb1.size _) hb1.size (mW M)
  have hsz := hb2.size
  have HX := hide hm
  have HB2 := hide hb2
  clear hW hm hb1 hb2
  go_wp2
  go_loopw [4, 5] (fun v i wr => ∃ k : Nat, k ≤ n + 1 ∧ i = .int .i64 k ∧ wr.ownsRow W.heap.size 4 1 v k (rowV b k) ∧ Below W.heap.size W wr) (fun _ i _ => n + 1 - (intOf i).toNat)
  case atStart => exact ⟨0, Nat.zero_le _, rfl, World.ownsRow_nil _ _ _ _, Below.refl _ _⟩
  case round =>
    obtain ⟨k, hk, rfl, hown, hb⟩ := hrel
    by_cases hlt : k < n + 1
    · have hki : (k : Int) ≤ n := by omega
      have k2 : (k : Int) < 65 := by omega
      have k3 : k < 65 := by omega
      have hkn : k + 1 ≤ n + 1 := by omega
      have hm := (unhide HX).to hb
      have hrs := rowV_succ b k
      have hv := ways_loops (unhide HM) (unhide HBB) k
      by_cases hk0 : k = 0
      · subst hk0
        rw [if_pos rfl, Bool.true_and] at hv
        rw [hv] at hrs
        have HRS := Lib.hid hrs
        have d1 : (_ : Option Value) = some (.bool (M 0 0)) := (hm.cell (0 * 65 + 0)).trans (mW_at M (by omega) (by omega))
        simp only [Nat.zero_mul, Nat.zero_add] at d1
        clear hm hv hrs hk
        have hbs := hb.size
        go_wp2_with (at_builtin; refine wpList_append_own _ rfl _ _ 60 rfl W.heap.size 4 i0 _ 1 1 Try.underlying60 hi hz0 hz1 hz2 rfl (by decide) _ _ _ rfl (hown.alloc _) ⟨wr.heap.size, 0, none⟩ 1 1 [.bool (M 0 0)] rfl rfl ?c1 ?c2 ?c3 ?c4 ?c5 ?_)
        case c1 => exact news_at _ _ _ _ rfl
        case c2 => intro u hu; simp at hu; rcases hu with rfl; rfl
        case c3 => unfold maxLen; omega
        case c4 => omega
        case c5 => simp; omega
        intro v' w3 hown' hgrow _
        have hb4 := grown1 hb hown hb.size hgrow
        rw [← HRS.out] at hown'
        clear hown hb hgrow HRS
        go_wp2
        go_roundw
        case rel => exact ⟨_, hkn, by go_num, hown', hb4⟩
        case measure => simp [intOf] <;> omega
      · rw [if_neg hk0] at hv
        have d1 : (_ : Option Value) = some (.bool (M 0 k)) := (hm.cell (0 * 65 + k)).trans (mW_at M (by omega) k3)
        simp only [Nat.zero_mul, Nat.zero_add] at d1
        have d2 : (_ : Option Value) = some (.bool (M k k)) := (hm.cell (k * 65 + k)).trans (mW_at M k3 k3)
        have kz : ((k : Int) == 0) = false := by simpa using hk0
        cases hc : M 0 k
        · rw [hc, Bool.false_and] at hv
          rw [hc] at d1
          rw [hv] at hrs
          have HRS := Lib.hid hrs
          clear hm hv hrs hc d2
          have hbs := hb.size
          go_wp2_with (at_builtin; refine wpList_append_own _ rfl _ _ 60 rfl W.heap.size 4 i0 _ 1 1 Try.underlying60 hi hz0 hz1 hz2 rfl (by decide) _ _ _ rfl (hown.alloc _) ⟨wr.heap.size, 0, none⟩ 1 1 [.bool false] rfl rfl ?c1 ?c2 ?c3 ?c4 ?c5 ?_)
          case c1 => exact news_at _ _ _ _ rfl
          case c2 => intro u hu; simp at hu; rcases hu with rfl; rfl
          case c3 => unfold maxLen; omega
          case c4 => omega
          case c5 => simp; omega
          intro v' w3 hown' hgrow _
          have hb4 := grown1 hb hown hb.size hgrow
          rw [← HRS.out] at hown'
          clear hown hb hgrow HRS
          go_wp2
          go_roundw
          case rel => exact ⟨_, hkn, by go_num, hown', hb4⟩
          case measure => simp [intOf] <;> omega
        · rw [hc, Bool.true_and] at hv
          rw [hc] at d1
          rw [hv] at hrs
          have HRS := Lib.hid hrs
          clear hm hv hrs hc
          have hbs := hb.size
          go_wp2_with (at_builtin; refine wpList_append_own _ rfl _ _ 60 rfl W.heap.size 4 i0 _ 1 1 Try.underlying60 hi hz0 hz1 hz2 rfl (by decide) _ _ _ rfl (hown.alloc _) ⟨wr.heap.size, 0, none⟩ 1 1 [.bool (M k k)] rfl rfl ?c1 ?c2 ?c3 ?c4 ?c5 ?_)
          case c1 => exact news_at _ _ _ _ rfl
          case c2 => intro u hu; simp at hu; rcases hu with rfl; rfl
          case c3 => unfold maxLen; omega
          case c4 => omega
          case c5 => simp; omega
          intro v' w3 hown' hgrow _
          have hb4 := grown1 hb hown hb.size hgrow
          rw [← HRS.out] at hown'
          clear hown hb hgrow HRS
          go_wp2
          go_roundw
          case rel => exact ⟨_, hkn, by go_num, hown', hb4⟩
          case measure => simp [intOf] <;> omega
    · obtain rfl : k = n + 1 := by omega
      have hki : ¬ ((n : Int) + 1) ≤ (n : Int) := by omega
      obtain ⟨A', c', rfl⟩ := own_shape hown
      have HOW := hide (own_mono hown hsz)
      have HB := hide (bt (unhide HB2) hb)
      clear hown hb
      go_wp2
      go_ret
      exact ⟨A', c', rfl, HOW.out, HB.out⟩

set_option maxRecDepth 100000 in
set_option maxHeartbeats 4000000 in
theorem rEnds_any (hp : Prog l) (hr : Rd w w.heap.size 5 A n (l.flatMap Ins.ci)) {b : Nat → Bool} (hb : IsLoops l b) :
    Calls Try.prog 29 #[.slice A n c] w fun e w' => e = .returned (.bool (!anyB b (n + 1))) ∧ Below w.heap.size w w' := by
  have hL := rLoops_any (c := c) hp hr hb
  have HL := hide hL
  have hnn : n ≤ 64 := by have := hr.lenI; have := hp.le; omega
  clear hL hr hb hp
  go_enter Try.func29, Try.ntmps29
  go_wp2_with fail
  refine (unhide HL).mono ?_
  rintro e w1 ⟨A', c', rfl, hown, hb1⟩
  have hr1 := Rd.of_own hown
  have HR1 := hide (fun (W : World) (h : Below w1.heap.size w1 W) => hr1.below h)
  have HB1 := hide hb1
  clear hown hr1 hb1
  go_wp2
  go_loopw [4] (fun i wr => ∃ k : Nat, k ≤ n + 1 ∧ i = .int .i64 k ∧ anyB b k = false ∧ Below w1.heap.size w1 wr) (fun i _ => n + 1 - (intOf i).toNat)
  case atStart => exact ⟨0, Nat.zero_le _, rfl, rfl, Below.refl _ _⟩
  case round =>
    obtain ⟨k, hk, rfl, ha, hbq⟩ := hrel
    by_cases hlt : k < n + 1
    · obtain ⟨br, orr, rfl, hbr, hcr⟩ := (unhide HR1 _ hbq).2 (by omega)
      have r0 := hcr k _ (rowV_get b hlt)
      have HBQ := hide hbq
      have ki : (k : Int) < (n : Int) + 1 := by omega
      have k1 : (k : Int).toNat = k := by omega
      cases hbk : b k
      · rw [hbk] at r0
        have hany : anyB b (k + 1) = false := anyB_no (fun i hi => by
          by_cases e : i = k
          · rw [e]; exact hbk
          · exact anyB_false ha i (by omega))
        have HA := Lib.hid hany
        clear hcr hbq ha hany hbk
        go_wp2
        go_roundw
        case rel => exact ⟨k + 1, by omega, by go_num, HA.out, HBQ.out⟩
        case measure => simp [intOf]; omega
      · rw [hbk] at r0
        have HA := Lib.hid (anyB_yes (k := n + 1) hlt hbk)
        have HF := hide (bt (unhide HB1) hbq)
        clear hcr hbq ha hbk
        go_wp2
        go_ret
        exact ⟨by rw [HA.out]; rfl, HF.out⟩
    · have ke : k = n + 1 := by omega
      have kz : ¬ (k : Int) < (n : Int) + 1 := by omega
      have HA := Lib.hid (show anyB b (n + 1) = false by rw [← ke]; exact ha)
      have HF := hide (bt (unhide HB1) hbq)
      clear ha hbq ke hlt
      go_wp2
      go_ret
      exact ⟨by rw [HA.out]; rfl, HF.out⟩

set_option maxRecDepth 100000 in
set_option maxHeartbeats 4000000 in
theorem row_same {A1 A2 : Option Addr} {c1 c2 : Nat} {b : Nat → Bool} (hn : n ≤ 1000) (h1 : Rd w w.heap.size 1 A1 n (rowV b n)) (h2 : Rd w w.heap.size 1 A2 n (rowV b n)) :
    Calls Try.prog 27 #[.slice A1 n c1, .slice A2 n c2] w fun e w' => e = .returned (.bool true) ∧ Below w.heap.size w w' := by
  have H1 := hide (fun (W : World) (h : Below w.heap.size w W) => h1.below h)
  have H2 := hide (fun (W : World) (h : Below w.heap.size w W) => h2.below h)
  clear h1 h2
  go_enter Try.func27, Try.ntmps27
  go_wp2
  go_loopw [5] (fun i wr => ∃ k : Nat, k ≤ n ∧ i = .int .i64 k ∧ Below w.heap.size w wr) (fun i _ => n - (intOf i).toNat)
  case atStart => exact ⟨0, Nat.zero_le _, rfl, Below.refl _ _⟩
  case round =>
    obtain ⟨k, hk, rfl, hbq⟩ := hrel
    by_cases hlt : k < n
    · obtain ⟨b1, o1, rfl, _, hc1⟩ := (unhide H1 _ hbq).2 (by omega)
      obtain ⟨b2, o2, rfl, _, hc2⟩ := (unhide H2 _ hbq).2 (by omega)
      have r1 := hc1 k _ (rowV_get b hlt)
      have r2 := hc2 k _ (rowV_get b hlt)
      have HBQ := hide hbq
      have ki : (k : Int) < (n : Int) := by omega
      have k1 : (k : Int).toNat = k := by omega
      clear hc1 hc2 hbq
      go_wp2
      go_quiet (fail)
      go_wp2
      go_roundw
      case rel => exact ⟨k + 1, by omega, by go_num, (unhide HBQ).trans ((below_drewN (Below.refl _ _) _ : Below wr.heap.size wr _).mono (unhide HBQ).size)⟩
      case measure => simp [intOf]; omega
    · have kz : ¬ (k : Int) < (n : Int) := by omega
      have HF := hide hbq
      clear hbq hlt
      go_wp2
      go_ret
      exact ⟨rfl, HF.out⟩
end
end Go.Proofs.Ytmiagijgecgfoaa
