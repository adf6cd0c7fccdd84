/-
  The walk of bailiwicklaw18.Great.
-/
import Derived.Test.YtnhnofiimidagaaScrBase
namespace Go.Proofs.Ytnhnofiimidagaa
open Go.RowKit

def greatS (ps : List (List UInt8)) (pk : List UInt8) : Bool := decide (20 < ps.length ∨ 6000 < pk.length) || ps.any fun p => decide (1000 < p.length)
def rscrV (pg : Int) (A : Option Addr) (n c : Nat) (pk : List UInt8) : Value := .agg #[.int .i64 pg, .slice A n c, .string (S pk)]

set_option maxRecDepth 100000 in
set_option maxHeartbeats 2000000 in
theorem great_any (pg : Int) (ps : List (List UInt8)) (pk : List UInt8) (A : Option Addr) (n c : Nat) (w : World) (hr : Rd w w.heap.size 1 A n (ps.map strV)) :
    Calls Try.prog 20 #[rscrV pg A n c pk] w fun e w' => e = .returned (.bool (greatS ps pk)) ∧ Below w.heap.size w w' := by
  have hln := hr.lenOne
  simp only [rscrV]
  have hb0 : Below w.heap.size w (w.alloc (.cells #[.int .i64 pg, .slice A n c, .string (S pk)] 44)) := (Below.refl _ _).alloc (Nat.le_refl _) _
  have hr1 := hr.to hb0
  by_cases hg : 20 < n ∨ 6000 < pk.length
  · have hd : greatS ps pk = true := by unfold greatS; rw [hln, decide_eq_true hg]; rfl
    have HD := Lib.hid hd
    clear hd hln hr1 hr
    by_cases h1 : 20 < n
    · clear hg
      go_enter Try.func20, Try.ntmps20
      go_wp2
      go_ret
      exact ⟨ret_bool HD.out.symm, hb0⟩
    · have h2 : 6000 < pk.length := by omega
      clear hg
      go_enter Try.func20, Try.ntmps20
      go_wp2
      go_ret
      exact ⟨ret_bool HD.out.symm, hb0⟩
  · have hd : greatS ps pk = (ps.any fun p => decide (1000 < p.length)) := by unfold greatS; rw [hln, decide_eq_false hg]; rfl
    have HD := Lib.hid hd
    have HL := Lib.hid hln
    have h1 : n ≤ 20 := by omega
    have h2 : pk.length ≤ 6000 := by omega
    clear hd hg hln
    go_enter Try.func20, Try.ntmps20
    go_wp2
    go_loopw [3] (fun i wr => ∃ k : Nat, k ≤ n ∧ i = .int .i64 k ∧ Hid (∀ x ∈ ps.take k, x.length ≤ 1000) ∧ Below (w.alloc (.cells #[.int .i64 pg, .slice A n c, .string (S pk)] 44)).heap.size (w.alloc (.cells #[.int .i64 pg, .slice A n c, .string (S pk)] 44)) wr) (fun i _ => n - (intOf i).toNat)
    case atStart => exact ⟨0, Nat.zero_le _, rfl, fun x hx => by simp at hx, Below.refl _ _⟩
    case round =>
      obtain ⟨k, hk, rfl, HA, hb⟩ := hrel
      have cb : wr.cell? ⟨w.heap.size, 1, none⟩ = some (.slice A n c) := new_cell hb 1
      by_cases hlt : k < n
      · obtain ⟨b, o, x, rfl, hbl', hx, g0⟩ := (hr1.below hb).one hlt
        have HX : Hid (ps[k]? = some x) := hx
        have HT : Hid (ps.take (k + 1) = ps.take k ++ [x]) := take_snoc hx
        simp only [strV] at g0
        have hbb := bt hb0 hb
        clear hx hr hr1
        by_cases hm : 1000 < x.length
        · go_wp2
          go_ret
          refine ⟨ret_bool ?_, hbb⟩
          rw [HD.out]
          symm
          rw [List.any_eq_true]
          exact ⟨x, mem_of_get HX.out, by simpa using hm⟩
        · go_wp2
          go_roundw
          case rel => exact ⟨k + 1, by omega, by go_num, (by
            show ∀ y ∈ ps.take (k + 1), y.length ≤ 1000
            rw [HT.out]
            intro y hy
            rcases List.mem_append.1 hy with hy | hy
            · exact HA.out y hy
            · rw [List.mem_singleton.1 hy]; omega), hb⟩
          case measure => simp [intOf]; omega
      · obtain rfl : k = n := by omega
        have hbb := bt hb0 hb
        go_wp2
        go_ret
        refine ⟨ret_bool ?_, hbb⟩
        rw [HD.out]
        symm
        rw [List.any_eq_false]
        have h3 := HA.out
        rw [List.take_of_length_le (by rw [HL.out]; omega)] at h3
        intro x hx
        simpa using h3 x hx
end Go.Proofs.Ytnhnofiimidagaa
