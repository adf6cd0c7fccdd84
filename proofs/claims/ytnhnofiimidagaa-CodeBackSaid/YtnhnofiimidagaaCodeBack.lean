/-
  The walk of bailiwicklaw13.CodeBack, and what it leans on: programs and bytes answer each other.
-/
import Derived.Test.YtnhnofiimidagaaCodeLaw
namespace Go.Proofs.Ytnhnofiimidagaa
open Go.RowKit

theorem insOf_by8 {x : Ins} (h : x.ok) : insOf (by8 x.op) (by8 x.a) (by8 x.b) (by8 x.c) (by8 (x.n % 256)) (by8 (x.n / 256)) = x := by
  obtain ⟨op, a, b, c, n⟩ := x
  obtain ⟨⟨p0, q0⟩, ⟨p1, q1⟩, ⟨p2, q2⟩, ⟨p3, q3⟩, ⟨p4, q4⟩⟩ := h
  simp only [insOf] at *
  rw [by8_val _ p0 q0, by8_val _ p1 q1, by8_val _ p2 q2, by8_val _ p3 q3, by8_val _ (by omega) (by omega), by8_val _ (by omega) (by omega)]
  congr 1
  omega
theorem chunk_enc : ∀ (l : List Ins), (∀ x ∈ l, x.ok) → chunk (encB l) = l
  | [], _ => rfl
  | x :: l, h => by
    show chunk (encX x ++ encB l) = _
    simp only [encX, List.cons_append, List.nil_append]
    rw [chunk, insOf_by8 (h x (by simp)), chunk_enc l (fun y hy => h y (by simp [hy]))]
theorem by8_nat (u : UInt8) : by8 (u.toNat : Int) = u := by simp [by8]
theorem encX_insOf (b0 b1 b2 b3 b4 b5 : UInt8) : encX (insOf b0 b1 b2 b3 b4 b5) = [b0, b1, b2, b3, b4, b5] := by
  have h4 := b4.toNat_lt
  have h5 := b5.toNat_lt
  simp only [encX, insOf]
  rw [show ((b4.toNat : Int) + 256 * (b5.toNat : Int)) % 256 = (b4.toNat : Int) by omega, show ((b4.toNat : Int) + 256 * (b5.toNat : Int)) / 256 = (b5.toNat : Int) by omega]
  simp only [by8_nat]
theorem enc_chunk : ∀ (s : List UInt8), s.length % 6 = 0 → encB (chunk s) = s
  | b0 :: b1 :: b2 :: b3 :: b4 :: b5 :: r, h => by
    rw [chunk]
    show encX _ ++ encB (chunk r) = _
    rw [encX_insOf, enc_chunk r (by simp only [List.length_cons] at h; omega)]
    rfl
  | [], _ => rfl
  | [_], h => by simp at h
  | [_, _], h => by simp at h
  | [_, _, _], h => by simp at h
  | [_, _, _, _], h => by simp at h
  | [_, _, _, _, _], h => by simp at h
theorem decOk_enc {l : List Ins} (hok : ∀ x ∈ l, x.ok) (hm : mayP l = true) : decOk (encB l) = true := by
  unfold decOk
  rw [chunk_enc l hok, encB_length, hm]
  simp
theorem decL_enc {l : List Ins} (hok : ∀ x ∈ l, x.ok) (hm : mayP l = true) : decL (encB l) = l ∧ decE (encB l) = 0 := by
  have h := decE_ok (decOk_enc hok hm)
  exact ⟨h.2.trans (chunk_enc l hok), h.1⟩
theorem decOk_iff {s : List UInt8} (h : decOk s = true) : s.length % 6 = 0 ∧ mayP (chunk s) = true := by
  unfold decOk at h
  simpa using h
theorem encS_decL {s : List UInt8} (h : decOk s = true) : encS (decL s) = s ∧ encE (decL s) = 0 := by
  obtain ⟨h6, hm⟩ := decOk_iff h
  rw [(decE_ok h).2]
  unfold encS encE
  rw [hm]
  exact ⟨enc_chunk s h6, rfl⟩
theorem encS_decL_may {s : List UInt8} (h : decOk s = true) : ∀ x ∈ decL s, mayX x (decL s).length = true := by
  obtain ⟨_, hm⟩ := decOk_iff h
  rw [(decE_ok h).2]
  unfold mayP at hm
  rw [Bool.and_eq_true, List.all_eq_true] at hm
  exact hm.2
theorem mayP_le {l : List Ins} (h : mayP l = true) : l.length ≤ 64 := by
  unfold mayP at h
  rw [Bool.and_eq_true] at h
  simpa using h.1

set_option maxRecDepth 100000 in
set_option maxHeartbeats 8000000 in
theorem back_any (l : List Ins) (A : Option Addr) (n cap : Nat) (s : List UInt8) (w : World) (hr : Rd w w.heap.size 5 A n (l.flatMap Ins.cu)) (hok : ∀ x ∈ l, x.ok) (hn : n ≤ 140737488355328) (_hs : s.length ≤ 140737488355328) :
    Calls Try.prog 4 #[.slice A n cap, .string (S s)] w fun e w' => e = .returned (.bool true) ∧ Below w.heap.size w w' := by
  by_cases hg : n ≤ 200 ∧ s.length ≤ 1000
  · obtain ⟨hn2, hs2⟩ := hg
    have hd1 : decide (200 < (n : Int)) = false := decide_eq_false (by omega)
    have hd2 : decide (1000 < (s.length : Int)) = false := decide_eq_false (by omega)
    have hln := hr.lenU
    by_cases hm : mayP l = true
    · have hE : encS l = encB l := by unfold encS; rw [hm]; rfl
      have hEE : encE l = 0 := by unfold encE; rw [hm]; rfl
      have hbl6 : (encB l).length ≤ 384 := by rw [encB_length]; have := mayP_le hm; omega
      have HD1 := Lib.hid (decL_enc hok hm).1
      have HD2 := Lib.hid (decL_enc hok hm).2
      have HM := Lib.hid hm
      have HE := Lib.hid hE
      have HEE := Lib.hid hEE
      have HLN := Lib.hid hln
      clear hE hEE hm hln
      go_enter Try.func4, Try.ntmps4
      go_wp2_with fail
      refine (enc_any A n cap l _ hn hr hok).mono ?_
      rintro e w1 ⟨rfl, hb1⟩
      rw [HE.out, HEE.out]
      have hr1 := hr.to hb1
      go_wp2_with fail
      refine (May_any l A n cap _ hr1 hok hn).mono ?_
      rintro e w2 ⟨rfl, hb2⟩
      rw [HM.out]
      have hr2 := hr1.to hb2
      clear hr1
      go_wp2_with fail
      refine (dec_any (encB l) _ (by omega)).mono ?_
      rintro e w3 ⟨A3, c3, rfl, hown3, hb3⟩
      rw [HD1.out] at hown3 ⊢
      rw [HD2.out, HLN.out]
      rw [HLN.out] at hown3
      have hr3 := Rd.of_own hown3
      have hr2' := hr2.to hb3
      have hb13 := bt (bt hb1 hb2) hb3
      clear hown3 hr2 hb1 hb2 hb3
      go_wp2_with fail
      go_loopw [9] (fun i wr => ∃ k : Nat, k ≤ n ∧ i = .int .i64 k ∧ Below w3.heap.size w3 wr) (fun i _ => n - (intOf i).toNat)
      case atStart => exact ⟨0, Nat.zero_le _, rfl, Below.refl _ _⟩
      case round =>
        obtain ⟨k, hk, rfl, hbr⟩ := hrel
        by_cases hlt : k < n
        · obtain ⟨b, o, x, rfl, hbl, hx, g0, g1, g2, g3, g4⟩ := (hr3.below hbr).insU hlt
          obtain ⟨b', o', x', rfl, hbl', hx', g0', g1', g2', g3', g4'⟩ := (hr2'.below hbr).insU hlt
          obtain rfl : x = x' := Option.some.inj (hx.symm.trans hx')
          clear hx hx'
          go_wp2
          go_quiet (fail)
          go_wp2
          go_roundw
          case rel => exact ⟨k + 1, by omega, by go_num, below_drewN hbr _⟩
          case measure => simp [intOf]; omega
        · have hb := bt hb13 hbr
          clear hr2' hr3 hr
          go_wp2_with fail
          refine (dec_any s _ (by omega)).mono ?_
          rintro e w7 ⟨A7, c7, rfl, hown7, hb7⟩
          have hr7 := Rd.of_own hown7
          have hbb := bt hb hb7
          clear hown7 hb hb7
          have hlo := decL_ok s
          have hml := decL_le s
          by_cases hd : decOk s = true
          · have h1 := (decE_ok hd).1
            have h2 := (encS_decL hd).1
            have h3 := (encS_decL hd).2
            have h4 := (encS_decL_may hd)
            have H1 := Lib.hid h1
            have H2 := Lib.hid h2
            have H3 := Lib.hid h3
            have H4 := Lib.hid h4
            clear h1 h2 h3 h4 hd
            rw [H1.out]
            clear H1
            generalize decL s = L at *
            generalize hm : L.length = m at *
            clear hm
            go_wp2_with fail
            refine (enc_any A7 m c7 L _ (by omega) hr7 hlo).mono ?_
            rintro e w8 ⟨rfl, hb8⟩
            rw [H2.out, H3.out]
            have hr8 := hr7.to hb8
            have hb := bt hbb hb8
            clear hr7 hbb hb8
            go_wp2_with fail
            go_loopw [14] (fun i wr => ∃ k : Nat, k ≤ m ∧ i = .int .i64 k ∧ Below w8.heap.size w8 wr) (fun i _ => m - (intOf i).toNat)
            case atStart => exact ⟨0, Nat.zero_le _, rfl, Below.refl _ _⟩
            case round =>
              obtain ⟨k, hk, rfl, hbr⟩ := hrel
              by_cases hlt : k < m
              · obtain ⟨b, o, x, rfl, hbl, hx, g0, g1, g2, g3, g4⟩ := (hr8.below hbr).insU hlt
                have hxm : mayX x m = true := H4.out x (mem_of_get hx)
                have hxo := hlo x (mem_of_get hx)
                simp only [mayX, decide_eq_true_eq] at hxm
                obtain ⟨_, ⟨m1, m2, m3⟩, m4⟩ := hxm
                obtain ⟨⟨p0, q0⟩, ⟨p1, q1⟩, ⟨p2, q2⟩, ⟨p3, q3⟩, ⟨p4, q4⟩⟩ := hxo
                clear hx hlo
                by_cases hj : x.op = 5 ∨ x.op = 6
                · have m5 := m4 hj
                  clear m4
                  go_wp2
                  all_goals
                    go_roundw
                    case rel => exact ⟨k + 1, by omega, by go_num, hbr⟩
                    case measure => simp [intOf]; omega
                · clear m4
                  go_wp2
                  all_goals
                    go_roundw
                    case rel => exact ⟨k + 1, by omega, by go_num, hbr⟩
                    case measure => simp [intOf]; omega
              · go_wp2_with fail
                refine (wakes13_any wr).mono ?_
                rintro e w10 ⟨rfl, hb10⟩
                go_wp2
                go_ret
                exact ⟨rfl, (bt hb hbr).trans (hb10.mono (bt hb hbr).size)⟩
          · have hd' : decOk s = false := by simpa using hd
            have h1 := (decE_no hd').1
            have h2 := (decE_no hd').2
            rw [h1, h2]
            clear h1 h2 hd hd'
            go_wp2_with fail
            refine (wakes13_any _).mono ?_
            rintro e w10 ⟨rfl, hb10⟩
            go_wp2
            go_ret
            exact ⟨rfl, bt hbb hb10⟩
    · have hm' : mayP l = false := by simpa using hm
      have hE : encS l = [] := by unfold encS; rw [hm']; rfl
      have hEE : encE l = 3 := by unfold encE; rw [hm']; rfl
      have HM := Lib.hid hm'
      have HE := Lib.hid hE
      have HEE := Lib.hid hEE
      clear hE hEE hm hm' hln
      go_enter Try.func4, Try.ntmps4
      go_wp2_with fail
      refine (enc_any A n cap l _ hn hr hok).mono ?_
      rintro e w1 ⟨rfl, hb1⟩
      rw [HE.out, HEE.out]
      have hr1 := hr.to hb1
      go_wp2_with fail
      refine (May_any l A n cap _ hr1 hok hn).mono ?_
      rintro e w2 ⟨rfl, hb2⟩
      rw [HM.out]
      have hb := bt hb1 hb2
      clear hr1 hb1 hb2 hr
      go_wp2_with fail
      refine (dec_any s _ (by omega)).mono ?_
      rintro e w7 ⟨A7, c7, rfl, hown7, hb7⟩
      have hr7 := Rd.of_own hown7
      have hbb := bt hb hb7
      clear hown7 hb hb7
      have hlo := decL_ok s
      have hml := decL_le s
      by_cases hd : decOk s = true
      · have h1 := (decE_ok hd).1
        have h2 := (encS_decL hd).1
        have h3 := (encS_decL hd).2
        have h4 := (encS_decL_may hd)
        have H1 := Lib.hid h1
        have H2 := Lib.hid h2
        have H3 := Lib.hid h3
        have H4 := Lib.hid h4
        clear h1 h2 h3 h4 hd
        rw [H1.out]
        clear H1
        generalize decL s = L at *
        generalize hm : L.length = m at *
        clear hm
        go_wp2_with fail
        refine (enc_any A7 m c7 L _ (by omega) hr7 hlo).mono ?_
        rintro e w8 ⟨rfl, hb8⟩
        rw [H2.out, H3.out]
        have hr8 := hr7.to hb8
        have hb := bt hbb hb8
        clear hr7 hbb hb8
        go_wp2_with fail
        go_loopw [14] (fun i wr => ∃ k : Nat, k ≤ m ∧ i = .int .i64 k ∧ Below w8.heap.size w8 wr) (fun i _ => m - (intOf i).toNat)
        case atStart => exact ⟨0, Nat.zero_le _, rfl, Below.refl _ _⟩
        case round =>
          obtain ⟨k, hk, rfl, hbr⟩ := hrel
          by_cases hlt : k < m
          · obtain ⟨b, o, x, rfl, hbl, hx, g0, g1, g2, g3, g4⟩ := (hr8.below hbr).insU hlt
            have hxm : mayX x m = true := H4.out x (mem_of_get hx)
            have hxo := hlo x (mem_of_get hx)
            simp only [mayX, decide_eq_true_eq] at hxm
            obtain ⟨_, ⟨m1, m2, m3⟩, m4⟩ := hxm
            obtain ⟨⟨p0, q0⟩, ⟨p1, q1⟩, ⟨p2, q2⟩, ⟨p3, q3⟩, ⟨p4, q4⟩⟩ := hxo
            clear hx hlo
            by_cases hj : x.op = 5 ∨ x.op = 6
            · have m5 := m4 hj
              clear m4
              go_wp2
              all_goals
                go_roundw
                case rel => exact ⟨k + 1, by omega, by go_num, hbr⟩
                case measure => simp [intOf]; omega
            · clear m4
              go_wp2
              all_goals
                go_roundw
                case rel => exact ⟨k + 1, by omega, by go_num, hbr⟩
                case measure => simp [intOf]; omega
          · go_wp2_with fail
            refine (wakes13_any wr).mono ?_
            rintro e w10 ⟨rfl, hb10⟩
            go_wp2
            go_ret
            exact ⟨rfl, (bt hb hbr).trans (hb10.mono (bt hb hbr).size)⟩
      · have hd' : decOk s = false := by simpa using hd
        have h1 := (decE_no hd').1
        have h2 := (decE_no hd').2
        rw [h1, h2]
        clear h1 h2 hd hd'
        go_wp2_with fail
        refine (wakes13_any _).mono ?_
        rintro e w10 ⟨rfl, hb10⟩
        go_wp2
        go_ret
        exact ⟨rfl, bt hbb hb10⟩
  · go_enter Try.func4, Try.ntmps4
    go_wp2_with fail
    all_goals
      refine (wakes13_any w).mono ?_
      rintro e w1 ⟨rfl, hb1⟩
      go_wp2
      go_ret
      exact ⟨rfl, hb1⟩
end Go.Proofs.Ytnhnofiimidagaa
