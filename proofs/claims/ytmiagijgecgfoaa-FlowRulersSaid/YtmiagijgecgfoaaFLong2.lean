/-
  The walks of slices.Contains at bools, flow.Longest, and Trim of what is no program.
-/
import Derived.Test.YtmiagijgecgfoaaFLong
namespace Go.Proofs.Ytmiagijgecgfoaa
open Go.RowKit

def anyB (b : Nat → Bool) (k : Nat) : Bool := (List.range k).any b
theorem anyB_no {b : Nat → Bool} {k : Nat} (h : ∀ i, i < k → b i = false) : anyB b k = false := by
  unfold anyB
  rw [List.any_eq_false]
  intro x hx
  rw [h x (List.mem_range.1 hx)]
  simp
theorem anyB_yes {b : Nat → Bool} {k j : Nat} (hj : j < k) (h : b j = true) : anyB b k = true := by
  unfold anyB
  rw [List.any_eq_true]
  exact ⟨j, List.mem_range.2 hj, h⟩
theorem anyB_false {b : Nat → Bool} {k : Nat} (h : anyB b k = false) : ∀ i, i < k → b i = false := fun i hi => by
  cases hb : b i with
  | false => rfl
  | true => rw [anyB_yes hi hb] at h; cases h
theorem rowV_get (b : Nat → Bool) {k j : Nat} (h : j < k) : (rowV b k)[j]? = some (.bool (b j)) := by
  unfold rowV
  rw [List.getElem?_map, List.getElem?_range h]
  rfl

section
variable {l : List Ins} {A : Option Addr} {n c k : Nat} {w : World} {b : Nat → Bool}

set_option maxRecDepth 100000 in
set_option maxHeartbeats 4000000 in
theorem index_bool (hr : Rd w w.heap.size 1 A k (rowV b k)) (hk : k ≤ 1000) :
    Calls Try.prog 67 #[.slice A k c, .bool true] w fun e w' => (∃ r : Int, e = .returned (.int .i64 r) ∧ decide (0 ≤ r) = anyB b k) ∧ w = w' := by
  have HR := hide hr
  clear hr
  go_enter Try.func67, Try.ntmps67
  go_wp2
  go_loop [8] (fun i => ∃ j : Nat, j ≤ k ∧ i = .int .i64 j ∧ Hid (∀ q, q < j → b q = false)) (fun i => k - (intOf i).toNat)
  case atStart => exact ⟨0, Nat.zero_le _, rfl, fun q h => absurd h (by omega)⟩
  case round =>
    obtain ⟨j, hj, rfl, HN⟩ := hrel
    by_cases hlt : j < k
    · obtain ⟨bl, o, rfl, hbl, hcs⟩ := (unhide HR).2 (by omega)
      have q0 := hcs j _ (rowV_get b hlt)
      cases hb : b j with
      | true =>
        rw [hb] at q0
        have HY := Lib.hid (anyB_yes hlt hb)
        clear hcs hb
        go_wp2
        go_ret
        exact ⟨⟨(j : Int), rfl, by rw [HY.out]; simp⟩, rfl⟩
      | false =>
        rw [hb] at q0
        have hn2 : Hid (∀ q, q < j + 1 → b q = false) := fun q hq => by
          by_cases e : q = j
          · subst e; exact hb
          · exact HN.out q (by omega)
        clear hcs hb
        go_wp2
        go_round
        case rel => exact ⟨j + 1, by omega, by go_num, hn2⟩
        case measure => simp [intOf]; omega
    · obtain rfl : j = k := by omega
      have HY := Lib.hid (anyB_no HN.out)
      go_wp2
      go_ret
      exact ⟨⟨-1, rfl, by rw [HY.out]; rfl⟩, rfl⟩

set_option maxRecDepth 100000 in
set_option maxHeartbeats 4000000 in
theorem contains_bool (hr : Rd w w.heap.size 1 A k (rowV b k)) (hk : k ≤ 1000) :
    Calls Try.prog 57 #[.slice A k c, .bool true] w fun e w' => e = .returned (.bool (anyB b k)) ∧ w = w' := by
  have HI := hide (index_bool (c := c) hr hk)
  clear hr
  go_enter Try.func57, Try.ntmps57
  go_wp2_with fail
  refine (unhide HI).mono ?_
  rintro e w1 ⟨⟨r, rfl, hr⟩, rfl⟩
  have HQ := Lib.hid hr
  clear hr
  go_wp2
  go_ret
  exact ⟨by rw [← HQ.out]; rfl, rfl⟩

set_option maxRecDepth 100000 in
set_option maxHeartbeats 4000000 in
theorem Longest_loop (hp : Prog l) (hr : Rd w w.heap.size 5 A n (l.flatMap Ins.cu)) {lb : Nat → Bool} (hb : IsLoops l lb) (hany : anyB lb (n + 1) = true) :
    Calls Try.prog 26 #[.slice A n c] w fun e w' => e = .returned (.tuple #[.int .i64 0, .int .i64 12]) ∧ Below w.heap.size w w' := by
  have hln := hr.lenU
  have hle := hp.le
  have hn64 : n ≤ 64 := by omega
  have HL := hide (Loops_yes (c := c) hp hr hb)
  have HY := Lib.hid hany
  clear hr hb hany hln hp
  go_enter Try.func26, Try.ntmps26
  go_wp2_with fail
  refine (unhide HL).mono ?_
  rintro e w1 ⟨A', c', rfl, hown, hb1⟩
  have hrd := Rd.of_own hown
  clear hown HL
  go_wp2_with fail
  refine (contains_bool hrd (by omega)).mono ?_
  rintro e w2 ⟨rfl, rfl⟩
  rw [HY.out]
  clear hrd
  go_wp2
  go_ret2
  exact ⟨rfl, hb1⟩

set_option maxRecDepth 100000 in
set_option maxHeartbeats 4000000 in
theorem Longest_way (hp : Prog l) (hr : Rd w w.heap.size 5 A n (l.flatMap Ins.cu)) {lb : Nat → Bool} (hb : IsLoops l lb) (hany : anyB lb (n + 1) = false) :
    Calls Try.prog 26 #[.slice A n c] w fun e w' => ∃ k : Nat, Long l 0 k ∧ e = .returned (.tuple #[.int .i64 k, .int .i64 0]) ∧ Below w.heap.size w w' := by
  have hln := hr.lenU
  have hle := hp.le
  have hn64 : n ≤ 64 := by omega
  have HL := hide (Loops_yes (c := c) hp hr hb)
  have HY := Lib.hid hany
  have hnl : NoLoop l := fun i hi a ha hra => by
    have h1 : lb i = true := (hb i).2 ⟨hi, a, ha, hra⟩
    have h2 := hi.le hp (Nat.zero_le _)
    rw [anyB_false hany i (by omega)] at h1
    cases h1
  have HR := hide hr
  have HNL := hide hnl
  have HP := hide hp
  have HLN := Lib.hid hln
  clear hr hb hany hln hp hnl
  go_enter Try.func26, Try.ntmps26
  go_wp2_with fail
  refine (unhide HL).mono ?_
  rintro e w1 ⟨A', c', rfl, hown, hb1⟩
  have hrd := Rd.of_own hown
  clear hown HL
  go_wp2_with fail
  refine (contains_bool hrd (by omega)).mono ?_
  rintro e w2 ⟨rfl, rfl⟩
  rw [HY.out]
  clear hrd
  go_upto_region 10 with fail
  refine nameW ?_
  intro W hW
  rw [zeros107] at hW
  have hbz : Below w1.heap.size w1 W := by rw [hW]; exact (((Below.refl _ _).alloc (Nat.le_refl _) _).alloc (by simp) _).alloc (by simp; omega) _
  have b0 : Bx W w1.heap.size #[.slice A n c] := by rw [hW]; exact ((Bx.new _ _ _ _ rfl).alloc _).alloc _
  have b1 : Bx W (w1.heap.size + 1) (nC fun _ => 0) := by rw [hW]; exact (Bx.new _ _ _ _ (by simp)).alloc _
  have b2 : Bx W (w1.heap.size + 1 + 1) #[.func (.func 58) #[] #[.pointer (some ⟨w1.heap.size, 0, none⟩), .pointer (some ⟨w1.heap.size + 1, 0, none⟩), .pointer (some ⟨w1.heap.size + 1 + 1, 0, none⟩)]] := by rw [hW]; exact Bx.new _ _ _ _ (by simp)
  have hr1 := (unhide HR).to hb1
  have hF : FW w1 w1.heap.size (w1.heap.size + 1) (w1.heap.size + 1 + 1) A n c (fun _ => 0) W := ⟨b0, b1, b2, hbz⟩
  have q0 := b2.cell 0
  have HF := hide hF
  have HR1 := hide hr1
  clear hW hbz b0 b1 b2 hF hr1
  go_wp2_with fail
  refine (way_any HP.out HLN.out HNL.out (unhide HR1) (by omega) (by omega) (by omega) _ (updB (fun _ => false) 0) (fun _ => 0) 0 W rfl (Nat.zero_le _) (Gone.start l (.refl (by omega))) (fun i h => absurd h (by simp)) (unhide HF)).mono ?_
  rintro e w3 ⟨kx, f3, rfl, hL, hK, hF3, hg3⟩
  have HLx := hide hL
  have HB := hide (bt hb1 hF3.b)
  clear hL hK hF3 hg3 hb1 q0
  go_wp2
  go_ret2
  exact ⟨kx, HLx.out, rfl, HB.out⟩

set_option maxRecDepth 100000 in
set_option maxHeartbeats 4000000 in
theorem Longest_no (hok : ∀ x ∈ l, x.ok) (hm : mayP l = false) (hn : n ≤ 140737488355328) (hr : Rd w w.heap.size 5 A n (l.flatMap Ins.cu)) :
    Calls Try.prog 26 #[.slice A n c] w fun e w' => e = .returned (.tuple #[.int .i64 0, .int .i64 3]) ∧ Below w.heap.size w w' := by
  have HL := hide (Loops_no (c := c) hok hm hn hr)
  clear hr hok hm
  go_enter Try.func26, Try.ntmps26
  go_wp2_with fail
  refine (unhide HL).mono ?_
  rintro e w1 ⟨rfl, hb1⟩
  go_wp2
  go_ret2
  exact ⟨rfl, hb1⟩

set_option maxRecDepth 100000 in
set_option maxHeartbeats 4000000 in
theorem Trim_no (hok : ∀ x ∈ l, x.ok) (hm : mayP l = false) (hn : n ≤ 140737488355328) (hr : Rd w w.heap.size 5 A n (l.flatMap Ins.cu)) :
    Calls Try.prog 31 #[.slice A n c] w fun e w' => e = .returned (.tuple #[.slice none 0 0, .int .i64 3]) ∧ Below w.heap.size w w' := by
  have HO := hide (of_no (c := c) hok hm hn hr)
  clear hr hok hm
  go_enter Try.func31, Try.ntmps31
  go_wp2_with fail
  refine (unhide HO).mono ?_
  rintro e w1 ⟨rfl, hb1⟩
  go_wp2
  go_ret2
  exact ⟨rfl, hb1⟩
end
end Go.Proofs.Ytmiagijgecgfoaa
