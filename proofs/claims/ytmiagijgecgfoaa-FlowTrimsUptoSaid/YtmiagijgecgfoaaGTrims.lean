/-
  The walk of bailiwicklaw24.FlowTrims, where what comes in is no longer than any machine holds.
-/
import Derived.Test.YtmiagijgecgfoaaGTrim
import Derived.Test.YtmiagijgecgfoaaGRules
import Derived.Test.YtmiagijgecgfoaaGOf
import Derived.Test.YtmiagijgecgfoaaFWakes
import Derived.Test.YtmiagijgecgfoaaCodeRef
namespace Go.Proofs.Ytmiagijgecgfoaa
open Go.RowKit

theorem trimX_ok {b : Nat → Bool} {x : Ins} (h : x.ok) : (trimX b x).ok := by
  unfold trimX
  split
  · obtain ⟨h0, h1, h2, h3, h4⟩ := h
    have := numB_le b x.n.toNat
    exact ⟨h0, h1, h2, h3, by simp only; omega⟩
  · exact h
theorem trimK_ok {l : List Ins} {b : Nat → Bool} (h : ∀ x ∈ l, x.ok) : ∀ k, ∀ x ∈ trimK l b k, x.ok
  | 0 => fun x hx => by cases hx
  | k + 1 => fun x hx => by
    have ih := trimK_ok (b := b) h k
    simp only [trimK, List.mem_append] at hx
    rcases hx with hx | hx
    · exact ih x hx
    · cases hl : l[k]? with
      | none => rw [hl] at hx; simp at hx
      | some y =>
        rw [hl] at hx
        simp only at hx
        split at hx
        · rw [List.mem_singleton] at hx; rw [hx]; exact trimX_ok (h y (mem_of_get hl))
        · cases hx

section
variable {l : List Ins} {A : Option Addr} {n c : Nat} {w : World}

set_option maxRecDepth 100000 in
set_option maxHeartbeats 8000000 in
theorem trims_any (hok : ∀ x ∈ l, x.ok) (hn : n ≤ 2000000) (hr : Rd w w.heap.size 5 A n (l.flatMap Ins.cu)) (a b : Int) :
    Calls Try.prog 6 #[.slice A n c, .int .i64 a, .int .i64 b] w fun e w' => e = .returned (.bool true) ∧ Below w.heap.size w w' := by
  have HO := hide (of_big A n c l w hn hr hok)
  by_cases hg : n ≤ 200
  · have hd1 : ¬ (200 : Int) < n := by omega
    cases hm : mayP l with
    | false =>
      have HM := hide (fun W A c h => rmay_any A n c l W (by omega) h hok)
      rw [hm] at HM
      clear hm hr hok
      go_enter Try.func6, Try.ntmps6
      go_wp2_with fail
      refine (unhide HO).mono ?_
      rintro e w1 ⟨A', c', rfl, hown, hb1⟩
      have hr1 := Rd.of_own hown
      clear hown HO
      go_wp2_with fail
      refine (unhide HM _ _ _ hr1).mono ?_
      rintro e w2 ⟨rfl, hb2⟩
      have hb := bt hb1 hb2
      clear hb1 hb2 HM hr1
      go_wp2_with fail
      refine (wakes24_any _).mono ?_
      rintro e w4 ⟨rfl, hb5⟩
      go_wp2
      go_ret
      exact ⟨rfl, bt hb hb5⟩
    | true =>
      have HM := hide (fun W A c h => rmay_any A n c l W (by omega) h hok)
      rw [hm] at HM
      have hp : Prog l := ⟨hok, hm⟩
      have hln := hr.lenU
      have hle := hp.le
      have hn64 : n ≤ 64 := by omega
      obtain ⟨rb, hrb⟩ := reached_ex l
      obtain ⟨ub, hub⟩ := round_ex l a
      have HR := hide (fun (W : World) (hb : Below w.heap.size w W) => hr.to hb)
      have HT := hide (fun W h => Trim_yes (w := W) (A := A) (n := n) (c := c) hp h hrb)
      have HRT := hide (fun W A c h => rTrim_any (w := W) (A := A) (n := n) (c := c) hp h hrb)
      have HU := hide (fun W h => Rules_yes (w := W) (A := A) (n := n) (c := c) hp h hrb a b hub)
      have HRU := hide (fun W A c h => rRules_any (w := W) (A := A) (n := n) (c := c) hp h hrb a b hub)
      have hTo := trimK_ok (b := rb) hok n
      have hTl := trimK_len l rb n
      unfold TrimOut at HT
      unfold RTrimOut at HRT
      obtain ⟨T, hT⟩ : ∃ T, trimK l rb n = T := ⟨_, rfl⟩
      rw [hT] at hTo hTl
      simp only [hT] at HT HRT
      obtain ⟨m, hmm⟩ : ∃ m, T.length = m := ⟨_, rfl⟩
      have HOT := hide (fun W A c h => of_any A m c T W (by omega) h hTo)
      rw [hmm] at hTl
      simp only [hmm] at HT HRT
      clear hm hr hok hp hrb hub hln hle hTo hT
      go_enter Try.func6, Try.ntmps6
      go_wp2_with fail
      refine (unhide HO).mono ?_
      rintro e w1 ⟨A', c', rfl, hown, hb1⟩
      have hr1 := Rd.of_own hown
      clear hown HO
      go_wp2_with fail
      refine (unhide HM _ _ _ hr1).mono ?_
      rintro e w2 ⟨rfl, hb2⟩
      have hb := bt hb1 hb2
      have hri := hr1.to hb2
      clear hb1 hb2 HM hr1
      go_wp2_with fail
      refine (unhide HT _ (unhide HR _ hb)).mono ?_
      rintro e w3 ⟨At, ct, rfl, hown, hb3⟩
      have hrt := Rd.of_own hown
      have hb4 := bt hb hb3
      have hri2 := hri.to hb3
      clear hown hb hb3 hri HT
      go_wp2_with fail
      refine (unhide HOT _ _ _ hrt).mono ?_
      rintro e w4 ⟨Au, cu, rfl, hown, hb5⟩
      have hru := Rd.of_own hown
      have hb6 := bt hb4 hb5
      have hri3 := hri2.to hb5
      clear hown hb4 hb5 hri2 hrt HOT
      go_wp2_with fail
      refine (unhide HRT _ _ _ hri3).mono ?_
      rintro e w5 ⟨Av, cv, rfl, hown, hb7⟩
      have hrv := Rd.of_own hown
      have hru2 := hru.to hb7
      have hri4 := hri3.to hb7
      have HB := hide (bt hb6 hb7)
      have HV := hide (fun (W : World) (h : Below w5.heap.size w5 W) => hrv.below h)
      have HUU := hide (fun (W : World) (h : Below w5.heap.size w5 W) => hru2.below h)
      have HI := hide (fun (W : World) (h : Below w5.heap.size w5 W) => hri4.to h)
      clear hown hb6 hb7 hri3 hri4 hru hru2 hrv HRT
      go_wp2
      go_loopw [12] (fun ii wr => ∃ k : Nat, k ≤ m ∧ ii = .int .i64 k ∧ Below w5.heap.size w5 wr) (fun ii _ => m - (intOf ii).toNat)
      case atStart => exact ⟨0, Nat.zero_le _, rfl, Below.refl _ _⟩
      case round =>
        obtain ⟨k, hk, rfl, hbq⟩ := hrel
        by_cases hlt : k < m
        · obtain ⟨bu, ou, xu, rfl, hbu, hxu, g0, g1, g2, g3, g4⟩ := (unhide HUU _ hbq).insI hlt
          obtain ⟨bt2, ot, xt, rfl, hbt, hxt, g0', g1', g2', g3', g4'⟩ := (unhide HV _ hbq).insI hlt
          obtain rfl := Option.some.inj (hxu.symm.trans hxt)
          have HBQ := hide hbq
          clear hxu hxt hbq
          go_wp2
          go_quiet (fail)
          go_wp2
          go_roundw
          case rel => exact ⟨k + 1, by omega, by go_num, (unhide HBQ).trans ((below_drewN (Below.refl _ _) _ : Below wr.heap.size wr _).mono (unhide HBQ).size)⟩
          case measure => simp [intOf]; omega
        · have kz : ¬ (k : Int) < m := by omega
          have hb8 := bt (unhide HB) hbq
          have hri := (unhide HI) _ hbq
          clear hbq hlt HB HI HV HUU
          go_wp2_with fail
          refine (unhide HU _ (unhide HR _ hb8)).mono ?_
          rintro e w6 ⟨rfl, hb9⟩
          have hri2 := hri.to hb9
          have hb10 := bt hb8 hb9
          clear hri hb8 hb9 HU
          go_wp2_with fail
          refine (unhide HRU _ _ _ hri2).mono ?_
          rintro e w7 ⟨rfl, hb11⟩
          have hb12 := bt hb10 hb11
          clear hri2 hb10 hb11 HRU
          go_wp2_with fail
          refine (wakes24_any _).mono ?_
          rintro e w8 ⟨rfl, hb13⟩
          go_wp2
          go_ret
          exact ⟨rfl, bt hb12 hb13⟩
  · have hd1 : (200 : Int) < n := by omega
    clear hr hok
    go_enter Try.func6, Try.ntmps6
    go_wp2_with fail
    refine (unhide HO).mono ?_
    rintro e w1 ⟨A', c', rfl, hown, hb1⟩
    clear hown HO
    go_wp2_with fail
    refine (wakes24_any _).mono ?_
    rintro e w4 ⟨rfl, hb5⟩
    go_wp2
    go_ret
    exact ⟨rfl, bt hb1 hb5⟩
end
end Go.Proofs.Ytmiagijgecgfoaa
