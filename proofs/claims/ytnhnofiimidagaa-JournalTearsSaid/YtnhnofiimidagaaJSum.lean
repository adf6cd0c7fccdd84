/-
  The sums of layer 27: journal.Sum, bailiwickref27.Sum, and their bytes.
-/
import Derived.Test.YtnhnofiimidagaaScrBase
import Derived.Test.YtnhnofiimidagaaAppend
import Derived.Laws.BitsAllLaws
namespace Go.Proofs.Ytnhnofiimidagaa
open Go.RowKit

/-- one byte more -/
def sumStep (n : Nat) (b : UInt8) : Nat := ((n ^^^ b.toNat) * 16777619) % 4294967296
/-- the sum of bytes -/
def sumN (l : List UInt8) : Nat := l.foldl sumStep 2166136261
theorem sumStep_lt (n : Nat) (b : UInt8) : sumStep n b < 4294967296 := by
  unfold sumStep
  exact Nat.mod_lt _ (by decide)
theorem foldl_lt (l : List UInt8) : ∀ n, n < 4294967296 → l.foldl sumStep n < 4294967296 := by
  induction l with
  | nil => intro n h; exact h
  | cons b l ih => intro n _; exact ih _ (sumStep_lt n b)
theorem sumN_lt (l : List UInt8) : sumN l < 4294967296 := by
  unfold sumN
  exact foldl_lt l 2166136261 (by decide)
theorem sumN_snoc {l : List UInt8} {k : Nat} {x : UInt8} (h : l[k]? = some x) : sumN (l.take (k + 1)) = sumStep (sumN (l.take k)) x := by
  rw [take_snoc h]
  unfold sumN
  rw [List.foldl_append, List.foldl_cons, List.foldl_nil]
theorem sumStep_int (N : Nat) (x : UInt8) : ((sumStep N x : Nat) : Int) = ((N ^^^ x.toNat : Nat) : Int) * 16777619 % 4294967296 := by
  unfold sumStep
  omega

set_option maxRecDepth 100000 in
set_option maxHeartbeats 1000000 in
theorem sum_any (l : List UInt8) (w : World) (hl : l.length ≤ 1000000) : Calls Try.prog 33 #[.string (S l)] w fun e w' => e = .returned (.int .u32 (sumN l)) ∧ w = w' := by
  go_enter Try.func33, Try.ntmps33
  go_wp2
  go_loopw [7, 3] (fun i n wr => ∃ k N : Nat, k ≤ l.length ∧ i = .int .i64 k ∧ n = .int .u32 N ∧ Hid (N = sumN (l.take k)) ∧ wr = w) (fun i _ _ => l.length - (intOf i).toNat)
  case atStart => exact ⟨0, 2166136261, Nat.zero_le _, rfl, rfl, rfl, rfl⟩
  case round =>
    obtain ⟨k, N, hk, rfl, rfl, HN, rfl⟩ := hrel
    by_cases hlt : k < l.length
    · obtain ⟨x, hx⟩ : ∃ x, l[k]? = some x := ⟨_, List.getElem?_eq_getElem hlt⟩
      have hxe : l[k] = x := by rw [List.getElem?_eq_getElem hlt] at hx; exact Option.some.inj hx
      have HS : Hid (sumN (l.take (k + 1)) = sumStep (sumN (l.take k)) x) := sumN_snoc hx
      have hN : N < 4294967296 := by rw [HN.out]; exact sumN_lt _
      have hx8 := x.toNat_lt
      have hxor : bits .xor .u32 (N : Int) (x.toNat : Int) = ((N ^^^ x.toNat : Nat) : Int) := u32_xor_nat N x.toNat hN (by omega)
      clear hx
      go_wp2
      go_roundw
      case rel =>
        refine ⟨k + 1, sumStep N x, by omega, by go_num, ?_, by show sumStep N x = _; rw [HS.out, ← HN.out], by trivial⟩
        rw [sumStep_int]
      case measure => simp [intOf]; omega
    · obtain rfl : k = l.length := by omega
      have h := HN.out
      rw [List.take_length] at h
      go_wp2
      go_ret
      exact ⟨by rw [h]; rfl, rfl⟩

set_option maxRecDepth 100000 in
set_option maxHeartbeats 1000000 in
theorem rsum_any (l : List UInt8) (w : World) (hl : l.length ≤ 1000000) : Calls Try.prog 34 #[.string (S l)] w fun e w' => e = .returned (.int .u32 (sumN l)) ∧ w = w' := by
  go_enter Try.func34, Try.ntmps34
  go_wp2
  go_loopw [4, 3] (fun i n wr => ∃ k N : Nat, k ≤ l.length ∧ i = .int .i64 k ∧ n = .int .u64 N ∧ Hid (N = sumN (l.take k)) ∧ wr = w) (fun i _ _ => l.length - (intOf i).toNat)
  case atStart => exact ⟨0, 2166136261, Nat.zero_le _, rfl, rfl, rfl, rfl⟩
  case round =>
    obtain ⟨k, N, hk, rfl, rfl, HN, rfl⟩ := hrel
    have hN : N < 4294967296 := by rw [HN.out]; exact sumN_lt _
    by_cases hlt : k < l.length
    · obtain ⟨x, hx⟩ : ∃ x, l[k]? = some x := ⟨_, List.getElem?_eq_getElem hlt⟩
      have hxe : l[k] = x := by rw [List.getElem?_eq_getElem hlt] at hx; exact Option.some.inj hx
      have HS : Hid (sumN (l.take (k + 1)) = sumStep (sumN (l.take k)) x) := sumN_snoc hx
      have hx8 := x.toNat_lt
      have hxor : bits .xor .u64 (N : Int) (x.toNat : Int) = ((N ^^^ x.toNat : Nat) : Int) := u64_xor_nat N x.toNat (by omega) (by omega)
      have hxl : N ^^^ x.toNat < 4294967296 := Nat.xor_lt_two_pow (n := 32) hN (by omega)
      clear hx
      go_wp2
      go_roundw
      case rel =>
        refine ⟨k + 1, sumStep N x, by omega, by go_num, ?_, by show sumStep N x = _; rw [HS.out, ← HN.out], by trivial⟩
        rw [sumStep_int]
      case measure => simp [intOf]; omega
    · obtain rfl : k = l.length := by omega
      have h := HN.out
      rw [List.take_length] at h
      go_wp2
      go_ret
      exact ⟨by rw [h]; rfl, rfl⟩
end Go.Proofs.Ytnhnofiimidagaa
