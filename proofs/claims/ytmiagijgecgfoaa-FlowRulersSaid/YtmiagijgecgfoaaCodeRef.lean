/-
  The walks of bailiwickref13.May and bailiwickref13.Decode.
-/
import Derived.Test.YtmiagijgecgfoaaCodeDec
namespace Go.Proofs.Ytmiagijgecgfoaa
open Go.RowKit

set_option maxRecDepth 100000 in
set_option maxHeartbeats 2000000 in
theorem rmay_any (A : Option Addr) (n cap : Nat) (l : List Ins) (w : World) (hn : n ≤ 1000000) (hr : Rd w w.heap.size 5 A n (l.flatMap Ins.ci)) (hok : ∀ x ∈ l, x.ok) :
    Calls Try.prog 23 #[.slice A n cap] w fun e w' => e = .returned (.bool (mayP l)) ∧ Below w.heap.size w w' := by
  have hln := hr.lenI
  have HL : Hid (l.length = n) := hln
  by_cases h64 : n ≤ 64
  · clear hln
    go_enter Try.func23, Try.ntmps23
    go_wp2
    go_loopw [3] (fun i wr => ∃ k : Nat, k ≤ n ∧ i = .int .i64 k ∧ Hid (∀ x ∈ l.take k, mayX x n = true) ∧ Below w.heap.size w wr) (fun i _ => n - (intOf i).toNat)
    case atStart => exact ⟨0, Nat.zero_le _, rfl, fun x hx => by simp at hx, Below.refl _ _⟩
    case round =>
      obtain ⟨k, hk, rfl, HA, hb⟩ := hrel
      by_cases hlt : k < n
      · obtain ⟨b, o, x, rfl, hbl, hx, g0, g1, g2, g3, g4⟩ := (hr.below hb).insI hlt
        obtain ⟨⟨p0, q0⟩, ⟨p1, q1⟩, ⟨p2, q2⟩, ⟨p3, q3⟩, ⟨p4, q4⟩⟩ := hok x (mem_of_get hx)
        have HX : Hid (l[k]? = some x) := hx
        have HT : Hid (l.take (k + 1) = l.take k ++ [x]) := take_snoc hx
        have hsz := hb.size
        clear hx hr hok
        go_wp2
        all_goals first
          | (go_roundw
             case rel => exact ⟨k + 1, by omega, by go_num, (by
                show ∀ y ∈ l.take (k + 1), mayX y n = true
                rw [HT.out]
                intro y hy
                rcases List.mem_append.1 hy with hy | hy
                · exact HA.out y hy
                · rw [List.mem_singleton.1 hy]; simp only [mayX, decide_eq_true_eq]; omega), hb.alloc hsz _⟩
             case measure => simp [intOf]; omega)
          | (go_ret
             have hm : mayX x n = false := by simp only [mayX, decide_eq_false_iff_not]; omega
             refine ⟨ret_bool ?_, hb.alloc hsz _⟩
             symm
             unfold mayP
             rw [HL.out, Bool.and_eq_false_iff]
             right
             rw [List.all_eq_false]
             exact ⟨x, mem_of_get HX.out, by rw [hm]; simp⟩)
      · obtain rfl : k = n := by omega
        go_wp2
        go_ret
        refine ⟨ret_bool ?_, hb⟩
        symm
        unfold mayP
        rw [HL.out, Bool.and_eq_true, List.all_eq_true]
        refine ⟨by simpa using h64, ?_⟩
        have h1 := HA.out
        rw [List.take_of_length_le (by rw [HL.out]; omega)] at h1
        exact h1
  · have hd : mayP l = false := by
      unfold mayP
      rw [hln]
      simp [h64]
    have HD := Lib.hid hd
    clear hd hln
    go_enter Try.func23, Try.ntmps23
    go_wp2
    go_ret
    exact ⟨ret_bool HD.out.symm, Below.refl _ _⟩
end Go.Proofs.Ytmiagijgecgfoaa
