/-
  Records of journals: bailiwickref27.Record, bailiwickref27.picks, journal.may.
-/
import Derived.Test.YtnhnofiimidagaaJBegin
namespace Go.Proofs.Ytnhnofiimidagaa
open Go.RowKit

/-- a record of picks, behind a journal -/
def recB (j p : List UInt8) : List UInt8 := sealB (j.drop (j.length - 4)) (by8 p.length :: p)

set_option maxRecDepth 100000 in
set_option maxHeartbeats 2000000 in
theorem record_any (j p : List UInt8) (w : World) (hj : 4 ≤ j.length) (hj2 : j.length ≤ 1000000) (hp : p.length ≤ 255) :
    Calls Try.prog 40 #[.string (S j), .string (S p)] w fun e w' => e = .returned (.string (S (recB j p))) ∧ Below w.heap.size w w' := by
  have e1 : bytesV [by8 p.length] = [.int .u8 (p.length : Int)] := by
    simp only [bytesV, List.map_cons, List.map_nil]
    rw [by8_val _ (by omega) (by omega)]
  have hr := Rd.of_new (n := 1) (size := 1) w (bytesV [by8 p.length]) 5 w.heap.size rfl rfl
  have hcv := run_str (P := Try.prog) hr _ _ _ 1 Try.underlying47 Try.underlying5 Try.underlying9
  rw [e1] at hcv
  have hb1 : Below w.heap.size w (w.alloc (.cells #[.int .u8 (p.length : Int)] 5)) := (Below.refl _ _).alloc (Nat.le_refl _) _
  have hdl : (j.drop (j.length - 4)).length = 4 := by rw [List.length_drop]; omega
  have t1 : ((j.length : Int) - 4).toNat = j.length - 4 := by omega
  obtain ⟨d, hd⟩ : ∃ d, j.drop (j.length - 4) = d := ⟨_, rfl⟩
  have HREC : Hid (recB j p = sealB d (by8 p.length :: p)) := by
    show recB j p = sealB d (by8 p.length :: p)
    rw [recB, hd]
  rw [hd] at hdl
  have hl4 := lowB_len (sumN (d ++ by8 p.length :: p)) 4
  clear hr e1
  go_enter Try.func40, Try.ntmps40
  go_wp2_with fail
  refine (rsum_any (d ++ by8 p.length :: p) _ (by simp; omega)).mono ?_
  rintro e w2 ⟨rfl, rfl⟩
  go_wp2_with fail
  refine (four_any (sumN (d ++ by8 p.length :: p)) _ (sumN_lt _)).mono ?_
  rintro e w3 ⟨rfl, hb3⟩
  go_wp2
  go_ret
  exact ⟨by rw [HREC.out]; rfl, bt hb1 hb3⟩

set_option maxRecDepth 100000 in
set_option maxHeartbeats 2000000 in
theorem picks_any (pk : List UInt8) (w : World) (hl : pk.length ≤ 1000000) :
    Calls Try.prog 58 #[.string (S pk)] w fun e w' => e = .returned (.bool (pk.all pickOk)) ∧ w = w' := by
  go_enter Try.func58, Try.ntmps58
  go_wp2
  go_loopw [3] (fun i wq => ∃ q : Nat, q ≤ pk.length ∧ i = .int .i64 q ∧ Hid (∀ x ∈ pk.take q, pickOk x = true) ∧ wq = w) (fun i _ => pk.length - (intOf i).toNat)
  case atStart => exact ⟨0, Nat.zero_le _, rfl, fun x hx => by simp at hx, rfl⟩
  case round =>
    obtain ⟨q, hq, rfl, HQ, rfl⟩ := hrel
    by_cases hlt2 : q < pk.length
    · obtain ⟨x, hx⟩ : ∃ x, pk[q]? = some x := ⟨_, List.getElem?_eq_getElem hlt2⟩
      have hxe : pk[q] = x := by rw [List.getElem?_eq_getElem hlt2] at hx; exact Option.some.inj hx
      have HX : Hid (pk[q]? = some x) := hx
      have HT : Hid (pk.take (q + 1) = pk.take q ++ [x]) := take_snoc hx
      have hx8 := x.toNat_lt
      clear hx
      go_wp2
      all_goals first
        | (go_roundw
           case rel => exact ⟨q + 1, by omega, by go_num, (by
              show ∀ y ∈ pk.take (q + 1), pickOk y = true
              rw [HT.out]
              intro y hy
              rcases List.mem_append.1 hy with hy | hy
              · exact HQ.out y hy
              · rw [List.mem_singleton.1 hy]; simp only [pickOk, decide_eq_true_eq]; omega), by trivial⟩
           case measure => simp [intOf]; omega)
        | (go_ret
           refine ⟨ret_bool ?_, rfl⟩
           have hbad : pickOk x = false := by simp only [pickOk, decide_eq_false_iff_not]; omega
           symm
           rw [List.all_eq_false]
           exact ⟨x, mem_of_get HX.out, by rw [hbad]; simp⟩)
    · go_wp2
      go_ret
      refine ⟨ret_bool ?_, rfl⟩
      have h3 := HQ.out
      rw [List.take_of_length_le (by omega)] at h3
      symm
      rw [List.all_eq_true]
      exact h3

theorem may1 (pk : List UInt8) : mayS 1 [[]] pk = (decide (pk.length ≤ 4000) && pk.all pickOk) := by
  unfold mayS
  have h : decOk [] = true := by decide
  simp [h]
set_option maxRecDepth 100000 in
set_option maxHeartbeats 2000000 in
theorem jmay_any (pk : List UInt8) (A2 : Option Addr) (m c2 : Nat) (w : World) (hr2 : Rd w w.heap.size 1 A2 m (pk.map byteV)) (hm : m ≤ 140737488355328) :
    Calls Try.prog 57 #[.slice A2 m c2] w fun e w' => e = .returned (.bool (decide (pk.length ≤ 4000) && pk.all pickOk)) ∧ Below w.heap.size w w' := by
  have hb0 : Below w.heap.size w (w.alloc (.cells #[.string (ByteArray.mk #[])] 9)) := (Below.refl _ _).alloc (Nat.le_refl _) _
  have hr : Rd (w.alloc (.cells #[.string (ByteArray.mk #[])] 9)) (w.alloc (.cells #[.string (ByteArray.mk #[])] 9)).heap.size 1 (some ⟨w.heap.size, 0, none⟩) 1 (([[]] : List (List UInt8)).map strV) :=
    (Rd.of_new (n := 1) (size := 1) w (([[]] : List (List UInt8)).map strV) 9 w.heap.size rfl rfl).mono (by simp)
  have hr3 := hr2.to hb0
  go_enter Try.func57, Try.ntmps57
  go_wp2_with fail
  refine (scrMay_any 1 [[]] pk (some ⟨w.heap.size, 0, none⟩) A2 1 1 m c2 _ hr hr3 (by simp) (by omega) hm).mono ?_
  rintro e w1 ⟨rfl, hb1⟩
  go_wp2
  go_ret
  exact ⟨ret_bool (may1 pk), bt hb0 hb1⟩
end Go.Proofs.Ytnhnofiimidagaa
