/-
  The walk of bailiwicklaw18.Same.
-/
import Derived.Test.YtnhnofiimidagaaScrGreat
import Derived.Test.YtnhnofiimidagaaAppend
namespace Go.Proofs.Ytnhnofiimidagaa
open Go.RowKit

set_option maxRecDepth 100000 in
set_option maxHeartbeats 4000000 in
theorem same_any (pg : Int) (ps : List (List UInt8)) (pk : List UInt8) (A A2 A3 : Option Addr) (n c m c2 c3 : Nat) (w : World) (hr : Rd w w.heap.size 1 A n (ps.map strV)) (hr2 : Rd w w.heap.size 1 A2 m (pk.map byteV))
    (hr3 : Rd w w.heap.size 1 A3 n (ps.map strV)) (hn : n ≤ 140737488355328) :
    Calls Try.prog 29 #[scrV pg A n c A2 m c2, rscrV pg A3 n c3 pk] w fun e w' => e = .returned (.bool true) ∧ Below w.heap.size w w' := by
  simp only [scrV, rscrV]
  have hb0 : Below w.heap.size w ((w.alloc (.cells #[.int .i64 pg, .slice A n c, .slice A2 m c2] 49)).alloc (.cells #[.int .i64 pg, .slice A3 n c3, .string (S pk)] 44)) := ((Below.refl _ _).alloc (Nat.le_refl _) _).alloc (by simp) _
  have hbx : Bx ((w.alloc (.cells #[.int .i64 pg, .slice A n c, .slice A2 m c2] 49)).alloc (.cells #[.int .i64 pg, .slice A3 n c3, .string (S pk)] 44)) w.heap.size #[.int .i64 pg, .slice A n c, .slice A2 m c2] := (Bx.new _ _ _ _ rfl).alloc _
  have hbx3 : Bx ((w.alloc (.cells #[.int .i64 pg, .slice A n c, .slice A2 m c2] 49)).alloc (.cells #[.int .i64 pg, .slice A3 n c3, .string (S pk)] 44)) (w.heap.size + 1) #[.int .i64 pg, .slice A3 n c3, .string (S pk)] := Bx.new _ _ _ _ (by simp)
  have hcv := run_str (P := Try.prog) ((hr2.to hb0 : Rd _ _ 1 A2 m (bytesV pk))) _ _ _ c2 Try.underlying47 Try.underlying5 Try.underlying9
  have hr1 := hr.to hb0
  have hr31 := hr3.to hb0
  clear hr hr2 hr3
  go_enter Try.func29, Try.ntmps29
  go_wp2
  go_loopw [5] (fun i wr => ∃ k : Nat, k ≤ n ∧ i = .int .i64 k ∧ Below ((w.alloc (.cells #[.int .i64 pg, .slice A n c, .slice A2 m c2] 49)).alloc (.cells #[.int .i64 pg, .slice A3 n c3, .string (S pk)] 44)).heap.size ((w.alloc (.cells #[.int .i64 pg, .slice A n c, .slice A2 m c2] 49)).alloc (.cells #[.int .i64 pg, .slice A3 n c3, .string (S pk)] 44)) wr) (fun i _ => n - (intOf i).toNat)
  case atStart => exact ⟨0, Nat.zero_le _, rfl, Below.refl _ _⟩
  case round =>
    obtain ⟨k, hk, rfl, hb⟩ := hrel
    have cb1 : wr.cell? ⟨w.heap.size, 1, none⟩ = some (.slice A n c) := (hbx.to hb).cell 1
    have cb3 : wr.cell? ⟨w.heap.size + 1, 1, none⟩ = some (.slice A3 n c3) := (hbx3.to hb).cell 1
    by_cases hlt : k < n
    · obtain ⟨b, o, x, rfl, hbl, hx, g0⟩ := (hr1.below hb).one hlt
      obtain ⟨b', o', x', rfl, hbl', hx', g0'⟩ := (hr31.below hb).one hlt
      obtain rfl : x = x' := Option.some.inj (hx.symm.trans hx')
      simp only [strV] at g0 g0'
      clear hx hx'
      go_wp2
      go_quiet (fail)
      go_wp2
      go_roundw
      case rel => exact ⟨k + 1, by omega, by go_num, below_drewN hb _⟩
      case measure => simp [intOf]; omega
    · go_wp2
      go_ret
      exact ⟨rfl, bt hb0 hb⟩
end Go.Proofs.Ytnhnofiimidagaa
