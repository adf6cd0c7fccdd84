/-
  The walk of bailiwickref18.May.
-/
import Derived.Test.YtnhnofiimidagaaScrGreat
import Derived.Test.YtnhnofiimidagaaAppend
namespace Go.Proofs.Ytnhnofiimidagaa
open Go.RowKit

set_option maxRecDepth 100000 in
set_option maxHeartbeats 4000000 in
theorem rmayS_any (pg : Int) (ps : List (List UInt8)) (pk : List UInt8) (A : Option Addr) (n c : Nat) (w : World) (hr : Rd w w.heap.size 1 A n (ps.map strV))
    (hle : ∀ x ∈ ps, x.length ≤ 1000000) :
    Calls Try.prog 24 #[rscrV pg A n c pk] w fun e w' => e = .returned (.bool (mayS pg ps pk)) ∧ Below w.heap.size w w' := by
  have hln := hr.lenOne
  simp only [rscrV]
  have hb0 : Below w.heap.size w (w.alloc (.cells #[.int .i64 pg, .slice A n c, .string (S pk)] 44)) := (Below.refl _ _).alloc (Nat.le_refl _) _
  have hbx : Bx (w.alloc (.cells #[.int .i64 pg, .slice A n c, .string (S pk)] 44)) w.heap.size #[.int .i64 pg, .slice A n c, .string (S pk)] := Bx.new _ _ _ _ rfl
  have hr1 := hr.to hb0
  by_cases hg : (1 ≤ pg ∧ pg ≤ 64) ∧ (1 ≤ n ∧ n ≤ 8) ∧ pk.length ≤ 4000
  · have hmay : mayS pg ps pk = (ps.all decOk && pk.all pickOk) := by
      unfold mayS
      rw [hln]
      simp [hg]
    obtain ⟨⟨g1, g2⟩, ⟨g3, g4⟩, g5⟩ := hg
    have HMAY := Lib.hid hmay
    have HL := Lib.hid hln
    clear hmay hln hr
    go_enter Try.func24, Try.ntmps24
    go_wp2
    go_loopw [3] (fun i wr => ∃ k : Nat, k ≤ n ∧ i = .int .i64 k ∧ Hid (∀ x ∈ ps.take k, decOk x = true) ∧ Below (w.alloc (.cells #[.int .i64 pg, .slice A n c, .string (S pk)] 44)).heap.size (w.alloc (.cells #[.int .i64 pg, .slice A n c, .string (S pk)] 44)) wr) (fun i _ => n - (intOf i).toNat)
    case atStart => exact ⟨0, Nat.zero_le _, rfl, fun x hx => by simp at hx, Below.refl _ _⟩
    case round =>
      obtain ⟨k, hk, rfl, HA, hb⟩ := hrel
      have hbxr := hbx.to hb
      have cb1 : wr.cell? ⟨w.heap.size, 1, none⟩ = some (.slice A n c) := hbxr.cell 1
      have hbb := bt hb0 hb
      by_cases hlt : k < n
      · obtain ⟨b, o, x, rfl, hbl', hx, g0⟩ := (hr1.below hb).one hlt
        have hxl := hle x (mem_of_get hx)
        have HX : Hid (ps[k]? = some x) := hx
        have HT : Hid (ps.take (k + 1) = ps.take k ++ [x]) := take_snoc hx
        simp only [strV] at g0
        clear hx hr1 hle
        have hsz := hb.size
        by_cases hm : decOk x = true
        · have HM := Lib.hid hm
          clear hm
          go_wp2_with (go_at_call 19; refine (rdec_any x _ hxl).mono ?_; rintro e w' ⟨A', c', rfl, hown, hb1⟩; rw [HM.out])
          go_roundw
          case rel => exact ⟨k + 1, by omega, by go_num, (by
            show ∀ y ∈ ps.take (k + 1), decOk y = true
            rw [HT.out]
            intro y hy
            rcases List.mem_append.1 hy with hy | hy
            · exact HA.out y hy
            · rw [List.mem_singleton.1 hy]; exact HM.out), bt hb hb1⟩
          case measure => simp [intOf]; omega
        · have hm' : decOk x = false := by simpa using hm
          have HM := Lib.hid hm'
          clear hm hm'
          go_wp2_with (go_at_call 19; refine (rdec_any x _ hxl).mono ?_; rintro e w' ⟨A', c', rfl, hown, hb1⟩; rw [HM.out])
          go_ret
          refine ⟨ret_bool ?_, bt hbb hb1⟩
          rw [HMAY.out]
          symm
          rw [Bool.and_eq_false_iff]
          left
          rw [List.all_eq_false]
          exact ⟨x, mem_of_get HX.out, by rw [HM.out]; simp⟩
      · obtain rfl : k = n := by omega
        have hall : ps.all decOk = true := by
          rw [List.all_eq_true]
          have h3 := HA.out
          rwa [List.take_of_length_le (by rw [HL.out]; exact Nat.le_refl _)] at h3
        have HALL := Lib.hid hall
        clear hall HA hr1 hle
        go_wp2
        go_loopw [6] (fun i wq => ∃ q : Nat, q ≤ pk.length ∧ i = .int .i64 q ∧ Hid (∀ x ∈ pk.take q, pickOk x = true) ∧ wq = wr) (fun i _ => pk.length - (intOf i).toNat)
        case atStart => exact ⟨0, Nat.zero_le _, rfl, fun x hx => by simp at hx, rfl⟩
        case round =>
          obtain ⟨q, hq, rfl, HQ, rfl⟩ := hrel
          have cb2 : wr.cell? ⟨w.heap.size, 2, none⟩ = some (.string (S pk)) := hbxr.cell 2
          by_cases hlt2 : q < pk.length
          · obtain ⟨x, hx⟩ : ∃ x, pk[q]? = some x := ⟨_, List.getElem?_eq_getElem hlt2⟩
            have hxe : pk[q] = x := by rw [List.getElem?_eq_getElem hlt2] at hx; exact Option.some.inj hx
            have HX : Hid (pk[q]? = some x) := hx
            have HT : Hid (pk.take (q + 1) = pk.take q ++ [x]) := take_snoc hx
            have hx8 := x.toNat_lt
            clear hx
            go_wp2
            all_goals first
              | (go_roundw
                 case rel => exact ⟨q + 1, by omega, by go_num, (by
                    show ∀ y ∈ pk.take (q + 1), pickOk y = true
                    rw [HT.out]
                    intro y hy
                    rcases List.mem_append.1 hy with hy | hy
                    · exact HQ.out y hy
                    · rw [List.mem_singleton.1 hy]; simp only [pickOk, decide_eq_true_eq]; omega), by trivial⟩
                 case measure => simp [intOf]; omega)
              | (go_ret
                 refine ⟨ret_bool ?_, hbb⟩
                 have hbad : pickOk x = false := by simp only [pickOk, decide_eq_false_iff_not]; omega
                 rw [HMAY.out, HALL.out]
                 symm
                 rw [Bool.true_and, List.all_eq_false]
                 exact ⟨x, mem_of_get HX.out, by rw [hbad]; simp⟩)
          · go_wp2
            go_ret
            refine ⟨ret_bool ?_, hbb⟩
            have h3 := HQ.out
            rw [List.take_of_length_le (by omega)] at h3
            rw [HMAY.out, HALL.out]
            symm
            rw [Bool.true_and, List.all_eq_true]
            exact h3
  · have hmay : mayS pg ps pk = false := by
      unfold mayS
      rw [hln, decide_eq_false hg]
      rfl
    have HMAY := Lib.hid hmay
    clear hmay hln hle hr1 hr
    by_cases g1 : 1 ≤ pg ∧ pg ≤ 64
    · obtain ⟨g1, g2⟩ := g1
      by_cases g3 : 1 ≤ n ∧ n ≤ 8
      · obtain ⟨g3, g4⟩ := g3
        have g5 : 4000 < pk.length := by omega
        clear hg
        go_enter Try.func24, Try.ntmps24
        go_wp2
        go_ret
        exact ⟨ret_bool HMAY.out.symm, hb0⟩
      · clear hg
        go_enter Try.func24, Try.ntmps24
        go_wp2
        all_goals (go_ret; exact ⟨ret_bool HMAY.out.symm, hb0⟩)
    · clear hg
      go_enter Try.func24, Try.ntmps24
      go_wp2
      all_goals (go_ret; exact ⟨ret_bool HMAY.out.symm, hb0⟩)
end Go.Proofs.Ytnhnofiimidagaa
