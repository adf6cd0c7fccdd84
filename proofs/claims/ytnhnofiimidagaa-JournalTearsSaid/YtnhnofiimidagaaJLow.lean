/-
  The bytes of sums: journal.low, journal.sealed, bailiwickref27.four, bailiwickref27.Record.
-/
import Derived.Test.YtnhnofiimidagaaJSum
import Derived.Test.YtnhnofiimidagaaCodeEnc
namespace Go.Proofs.Ytnhnofiimidagaa
open Go.RowKit

/-- the lower bytes of a number, the lowest first -/
def lowB (N : Nat) : Nat → List UInt8
  | 0 => []
  | m + 1 => lowB N m ++ [UInt8.ofNat (N / 2 ^ (8 * m))]
theorem lowB_len (N : Nat) : ∀ m, (lowB N m).length = m
  | 0 => rfl
  | m + 1 => by simp [lowB, lowB_len N m]

set_option maxRecDepth 100000 in
set_option maxHeartbeats 1000000 in
theorem low_any (N m : Nat) (w : World) (hm : m ≤ 4) : Calls Try.prog 53 #[.int .u32 N, .int .i64 m] w fun e w' => e = .returned (.string (S (lowB N m))) ∧ Below w.heap.size w w' := by
  obtain ⟨i0, hi, hz0, hz1, hz2⟩ := info_parts Try.infoU8
  go_enter Try.func53, Try.ntmps53
  go_wp2
  go_loopw [8, 5] (fun i v wr => ∃ k : Nat, k ≤ m ∧ i = .int .i64 k ∧ wr.ownsRow w.heap.size 5 1 v k (bytesV (lowB N k)) ∧ Below w.heap.size w wr) (fun i _ _ => m - (intOf i).toNat)
  case atStart => exact ⟨0, Nat.zero_le _, rfl, ⟨rfl, .inl ⟨rfl, rfl⟩⟩, Below.refl _ _⟩
  case round =>
    obtain ⟨k, hk, rfl, hown, hb⟩ := hrel
    by_cases hlt : k < m
    · have hsz := hb.size
      have e8 : (bytesV [UInt8.ofNat (N / 2 ^ (8 * k))]) = [.int .u8 ((N : Int) / 2 ^ (8 * k) % 256)] := by
        simp only [bytesV, List.map_cons, List.map_nil, UInt8.toNat_ofNat']
        rfl
      have E8 := Lib.hid e8
      clear e8
      go_wp2_with (at_builtin; refine wpList_append_own _ rfl (.tmp 11) (.tmp 17) 47 rfl w.heap.size 5 i0 _ 1 1 Try.underlying47 hi hz0 hz1 hz2 rfl (by decide) _ _ _ rfl (hown.alloc _) ⟨wr.heap.size, 0, none⟩ 1 1 [.int .u8 ((N : Int) / 2 ^ (8 * k) % 256)] rfl rfl ?c1 ?c2 ?c3 ?c4 ?c5 ?_)
      case c1 => exact news_at _ _ _ _ (by simp)
      case c2 => intro u hu; simp at hu; subst hu; rfl
      case c3 => unfold maxLen; omega
      case c4 => omega
      case c5 => simp; omega
      intro v' w2 hown2 hgrow _
      have hb2 := grown1 hb hown hsz hgrow
      go_wp2
      go_roundw
      case rel =>
        refine ⟨k + 1, by omega, by go_num, ?_, hb2⟩
        rw [lowB, bytesV_append, E8.out]
        exact hown2
      case measure => simp [intOf]; omega
    · obtain rfl : k = m := by omega
      obtain ⟨A, c, rfl⟩ := own_shape hown
      have hcv := run_str (P := Try.prog) (Rd.of_own hown) _ _ _ c Try.underlying47 Try.underlying5 Try.underlying9
      go_wp2
      go_ret
      exact ⟨rfl, hb⟩

set_option maxRecDepth 100000 in
set_option maxHeartbeats 1000000 in
theorem sealed_any (a s : List UInt8) (w : World) (hl : a.length + s.length ≤ 1000000) : Calls Try.prog 52 #[.string (S a), .string (S s)] w fun e w' => e = .returned (.string (S (s ++ lowB (sumN (a ++ s)) 4))) ∧ Below w.heap.size w w' := by
  have hlow := lowB_len (sumN (a ++ s)) 4
  go_enter Try.func52, Try.ntmps52
  go_wp2_with fail
  refine (sum_any (a ++ s) _ (by rw [List.length_append]; exact hl)).mono ?_
  rintro e w1 ⟨rfl, rfl⟩
  go_wp2_with fail
  refine (low_any (sumN (a ++ s)) 4 _ (by omega)).mono ?_
  rintro e w1 ⟨rfl, hb⟩
  go_wp2
  go_ret
  exact ⟨rfl, hb⟩

theorem four_cells (N : Nat) (hN : N < 4294967296) : bytesV (lowB N 4) = [.int .u8 ((N : Int) % 256), .int .u8 ((N : Int) / 256 % 256), .int .u8 ((N : Int) / 65536 % 256), .int .u8 ((N : Int) / 16777216)] := by
  have e : lowB N 4 = [UInt8.ofNat (N / 2 ^ (8 * 0)), UInt8.ofNat (N / 2 ^ (8 * 1)), UInt8.ofNat (N / 2 ^ (8 * 2)), UInt8.ofNat (N / 2 ^ (8 * 3))] := rfl
  have h0 : ((UInt8.ofNat (N / 2 ^ (8 * 0))).toNat : Int) = (N : Int) % 256 := by rw [UInt8.toNat_ofNat']; omega
  have h1 : ((UInt8.ofNat (N / 2 ^ (8 * 1))).toNat : Int) = (N : Int) / 256 % 256 := by rw [UInt8.toNat_ofNat']; omega
  have h2 : ((UInt8.ofNat (N / 2 ^ (8 * 2))).toNat : Int) = (N : Int) / 65536 % 256 := by rw [UInt8.toNat_ofNat']; omega
  have h3 : ((UInt8.ofNat (N / 2 ^ (8 * 3))).toNat : Int) = (N : Int) / 16777216 := by rw [UInt8.toNat_ofNat']; omega
  rw [e]
  simp only [bytesV, List.map_cons, List.map_nil, h0, h1, h2, h3]

set_option maxRecDepth 100000 in
set_option maxHeartbeats 1000000 in
theorem four_any (N : Nat) (w : World) (hN : N < 4294967296) : Calls Try.prog 54 #[.int .u32 N] w fun e w' => e = .returned (.string (S (lowB N 4))) ∧ Below w.heap.size w w' := by
  have e : bytesV (lowB N 4) = [.int .u8 ((N : Int) % 256), .int .u8 ((N : Int) / 256 % 256), .int .u8 ((N : Int) / 65536 % 256), .int .u8 ((N : Int) / 16777216)] := four_cells N hN
  have hr := Rd.of_new (n := 4) (size := 1) w (bytesV (lowB N 4)) 5 w.heap.size rfl (by rw [bytesV_length, lowB_len])
  rw [e] at hr
  rw [← e] at hr
  have hcv := run_str (P := Try.prog) hr _ _ _ 4 Try.underlying47 Try.underlying5 Try.underlying9
  rw [e] at hcv
  clear hr e
  go_enter Try.func54, Try.ntmps54
  go_wp2
  go_ret
  exact ⟨rfl, (Below.refl _ _).alloc (Nat.le_refl _) _⟩
end Go.Proofs.Ytnhnofiimidagaa
