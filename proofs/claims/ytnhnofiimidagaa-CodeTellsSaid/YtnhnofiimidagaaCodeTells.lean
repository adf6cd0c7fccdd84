/-
  The walk of bailiwicklaw13.CodeTells.
-/
import Derived.Test.YtnhnofiimidagaaCodeLaw
namespace Go.Proofs.Ytnhnofiimidagaa
open Go.RowKit

set_option maxRecDepth 100000 in
set_option maxHeartbeats 4000000 in
theorem tells_any (l : List Ins) (A : Option Addr) (n cap : Nat) (s : List UInt8) (w : World) (hr : Rd w w.heap.size 5 A n (l.flatMap Ins.cu)) (hok : ∀ x ∈ l, x.ok) (hn : n ≤ 140737488355328) (hs : s.length ≤ 140737488355328) :
    Calls Try.prog 3 #[.slice A n cap, .string (S s)] w fun e w' => e = .returned (.bool true) ∧ Below w.heap.size w w' := by
  by_cases hg : n ≤ 200 ∧ s.length ≤ 1000
  · obtain ⟨hn2, hs2⟩ := hg
    have hd1 : decide (200 < (n : Int)) = false := decide_eq_false (by omega)
    have hd2 : decide (1000 < (s.length : Int)) = false := decide_eq_false (by omega)
    by_cases hm : mayP l = true
    have HM := Lib.hid hm
    clear hm
    have hE : encS l = encB l := by unfold encS; rw [HM.out]; rfl
    have hEE : encE l = 0 := by unfold encE; rw [HM.out]; rfl
    have HE := Lib.hid hE
    have HEE := Lib.hid hEE
    clear hE hEE
    go_enter Try.func3, Try.ntmps3
    go_wp2_with fail
    refine (enc_any A n cap l _ hn hr hok).mono ?_
    rintro e w1 ⟨rfl, hb1⟩
    rw [HE.out, HEE.out]
    have hr1 := hr.to hb1
    go_wp2_with fail
    refine (of_any A n cap l _ (by omega) hr1 hok).mono ?_
    rintro e w2 ⟨A2, c2, rfl, hown2, hb2⟩
    have hr2 := Rd.of_own hown2
    clear hown2
    go_wp2_with fail
    refine (rmay_any A2 n c2 l _ (by omega) hr2 hok).mono ?_
    rintro e w3 ⟨rfl, hb3⟩
    rw [HM.out]
    have hr3 := (hr1.to hb2).to hb3
    clear hr2 hr1
    go_wp2_with fail
    refine (May_any l A n cap _ hr3 hok hn).mono ?_
    rintro e w4 ⟨rfl, hb4⟩
    rw [HM.out]
    have hr4 := hr3.to hb4
    clear hr3
    go_wp2_with fail
    refine (of_any A n cap l _ (by omega) hr4 hok).mono ?_
    rintro e w5 ⟨A5, c5, rfl, hown5, hb5⟩
    have hr5 := Rd.of_own hown5
    clear hown5
    go_wp2_with fail
    refine (bytes_any A5 n c5 l _ (by omega) hr5 hok).mono ?_
    rintro e w6 ⟨rfl, hb6⟩
    have hb : Below w.heap.size w w6 := bt (bt (bt (bt (bt hb1 hb2) hb3) hb4) hb5) hb6
    clear hr5 hr4 hb1 hb2 hb3 hb4 hb5 hb6
    go_wp2_with fail
    rotate_left
    have hm' : mayP l = false := by simpa using hm
    have HM := Lib.hid hm'
    clear hm hm'
    have hE : encS l = [] := by unfold encS; rw [HM.out]; rfl
    have hEE : encE l = 3 := by unfold encE; rw [HM.out]; rfl
    have HE := Lib.hid hE
    have HEE := Lib.hid hEE
    clear hE hEE
    go_enter Try.func3, Try.ntmps3
    go_wp2_with fail
    refine (enc_any A n cap l _ hn hr hok).mono ?_
    rintro e w1 ⟨rfl, hb1⟩
    rw [HE.out, HEE.out]
    have hr1 := hr.to hb1
    go_wp2_with fail
    refine (of_any A n cap l _ (by omega) hr1 hok).mono ?_
    rintro e w2 ⟨A2, c2, rfl, hown2, hb2⟩
    have hr2 := Rd.of_own hown2
    clear hown2
    go_wp2_with fail
    refine (rmay_any A2 n c2 l _ (by omega) hr2 hok).mono ?_
    rintro e w3 ⟨rfl, hb3⟩
    rw [HM.out]
    have hr3 := (hr1.to hb2).to hb3
    clear hr2 hr1
    go_wp2_with fail
    refine (May_any l A n cap _ hr3 hok hn).mono ?_
    rintro e w6 ⟨rfl, hb4⟩
    rw [HM.out]
    have hb : Below w.heap.size w w6 := bt (bt (bt hb1 hb2) hb3) hb4
    clear hr3 hb1 hb2 hb3 hb4
    go_wp2_with fail
    all_goals
      refine (dec_any s w6 (by omega)).mono ?_
      rintro e w7 ⟨A7, c7, rfl, hown7, hb7⟩
      have hr7 := Rd.of_own hown7
      clear hown7
      go_wp2_with fail
      refine (rdec_any s w7 (by omega)).mono ?_
      rintro e w8 ⟨A8, c8, rfl, hown8, hb8⟩
      have hr8 := Rd.of_own hown8
      clear hown8
      have hml := decL_le s
      have hlo := decL_ok s
      have hbb : Below w.heap.size w w8 := bt (bt hb hb7) hb8
      have hr7' := hr7.to hb8
      clear hr7 hb hb7 hb8
      have hd : (decOk s = true ∧ decE s = 0) ∨ (decOk s = false ∧ decE s = 3) := by
        unfold decE
        cases decOk s <;> simp
      generalize hL : decL s = L at *
      generalize decOk s = dk at *
      generalize decE s = de at *
      clear hL
      generalize hm : L.length = m at *
      have HLm := Lib.hid hm
      clear hm
      rcases hd with ⟨rfl, rfl⟩ | ⟨rfl, rfl⟩
      all_goals
        go_wp2_with fail
        refine (of_any A7 m c7 L w8 (by omega) hr7' hlo).mono ?_
        rintro e w9 ⟨A9, c9, rfl, hown9, hb9⟩
        have hr9 := Rd.of_own hown9
        have hr8' := hr8.to hb9
        have hb := bt hbb hb9
        clear hown9 hr7' hr8 hb9 hbb
        go_wp2_with fail
        go_loopw [13] (fun i wr => ∃ k : Nat, k ≤ m ∧ i = .int .i64 k ∧ Below w9.heap.size w9 wr) (fun i _ => m - (intOf i).toNat)
        case atStart => exact ⟨0, Nat.zero_le _, rfl, Below.refl _ _⟩
        case round =>
          obtain ⟨k, hk, rfl, hbr⟩ := hrel
          by_cases hlt : k < m
          · obtain ⟨b, o, x, rfl, hbl, hx, g0, g1, g2, g3, g4⟩ := (hr9.below hbr).insI hlt
            obtain ⟨b', o', x', rfl, hbl', hx', g0', g1', g2', g3', g4'⟩ := (hr8'.below hbr).insI hlt
            obtain rfl : x = x' := Option.some.inj (hx.symm.trans hx')
            clear hx hx'
            go_wp2
            go_quiet (fail)
            go_wp2
            go_roundw
            case rel => exact ⟨k + 1, by omega, by go_num, below_drewN hbr _⟩
            case measure => simp [intOf]; omega
          · go_wp2_with fail
            refine (wakes13_any wr).mono ?_
            rintro e w10 ⟨rfl, hb10⟩
            go_wp2
            go_ret
            exact ⟨rfl, (bt hb hbr).trans (hb10.mono (bt hb hbr).size)⟩
  · go_enter Try.func3, Try.ntmps3
    go_wp2_with fail
    all_goals
      refine (wakes13_any w).mono ?_
      rintro e w1 ⟨rfl, hb1⟩
      go_wp2
      go_ret
      exact ⟨rfl, hb1⟩
end Go.Proofs.Ytnhnofiimidagaa
