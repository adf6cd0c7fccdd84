/-
  The walk of bailiwicklaw13.Of: the instructions as the document has them.
-/
import Derived.Test.YtmiagijgecgfoaaBase
namespace Go.Proofs.Ytmiagijgecgfoaa
open Go.RowKit

theorem Try.infoRI : (Try.prog.info? 73).map (fun i => (i.zero, i.size, i.bytes)) = some (some (.agg #[.int .i64 0, .int .i64 0, .int .i64 0, .int .i64 0, .int .i64 0]), 5, 40) := by kernel_rfl

set_option maxRecDepth 100000 in
set_option maxHeartbeats 1000000 in
theorem of_any (A : Option Addr) (n cap : Nat) (l : List Ins) (w : World) (hn : n ≤ 1000000) (hr : Rd w w.heap.size 5 A n (l.flatMap Ins.cu)) (hok : ∀ x ∈ l, x.ok) :
    Calls Try.prog 22 #[.slice A n cap] w fun e w' => ∃ A' c', e = .returned (.slice A' n c') ∧ w'.ownsRow w.heap.size 73 5 (.slice A' n c') n (l.flatMap Ins.ci) ∧ Below w.heap.size w w' := by
  obtain ⟨i0, hi, hz0, hz1, hz2⟩ := info_parts Try.infoRI
  have hln := hr.lenU
  have HL : Hid (l.length = n) := hln
  clear hln
  go_enter Try.func22, Try.ntmps22
  go_wp2
  go_loopw [3, 4] (fun v i wr => ∃ k : Nat, k ≤ n ∧ i = .int .i64 k ∧ wr.ownsRow w.heap.size 73 5 v k ((l.take k).flatMap Ins.ci) ∧ Below w.heap.size w wr) (fun _ i _ => n - (intOf i).toNat)
  case atStart => exact ⟨0, Nat.zero_le _, rfl, World.ownsRow_nil _ _ _ _, Below.refl _ _⟩
  case round =>
    obtain ⟨k, hk, rfl, hown, hb⟩ := hrel
    by_cases hlt : k < n
    · obtain ⟨b, o, x, rfl, hbl, hx, g0, g1, g2, g3, g4⟩ := (hr.below hb).insU hlt
      obtain ⟨⟨p0, q0⟩, ⟨p1, q1⟩, ⟨p2, q2⟩, ⟨p3, q3⟩, ⟨p4, q4⟩⟩ := hok x (mem_of_get hx)
      have HT : Hid (l.take (k + 1) = l.take k ++ [x]) := take_snoc hx
      have hsz := hb.size
      clear hx hr hok
      go_wp2_with (at_builtin; refine wpList_append_own _ rfl _ _ 32 rfl w.heap.size 73 i0 _ 5 40 Try.underlying32 hi hz0 hz1 hz2 rfl (by decide) _ _ _ rfl ((hown.alloc _).alloc _) ⟨wr.heap.size + 1, 0, none⟩ 1 1 x.ci rfl rfl ?c1 ?c2 ?c3 ?c4 ?c5 ?_)
      case c1 => exact news_at _ _ _ _ (by simp)
      case c2 => intro u hu; simp [Ins.ci] at hu; rcases hu with rfl | rfl | rfl | rfl | rfl <;> rfl
      case c3 => unfold maxLen; omega
      case c4 => omega
      case c5 => simp; omega
      intro v' w1 hown' hgrow _
      go_wp2
      go_roundw
      case rel =>
        refine ⟨k + 1, by omega, by go_num, ?_, ?_⟩
        · rw [HT.out, List.flatMap_append]
          simpa using hown'
        · exact grown2 hb hown hsz hgrow
      case measure => simp [intOf]; omega
    · obtain rfl : k = n := by omega
      obtain ⟨A', c', rfl⟩ := own_shape hown
      go_wp2
      go_ret
      refine ⟨A', c', rfl, ?_, hb⟩
      rw [List.take_of_length_le (by rw [HL.out]; omega)] at hown
      exact hown
end Go.Proofs.Ytmiagijgecgfoaa
