/-
  The walk of bailiwicklaw24.FlowLoops, where what comes in is no longer than any machine holds.
-/
import Derived.Test.YtmiagijgecgfoaaGLong
import Derived.Test.YtmiagijgecgfoaaGOf
import Derived.Test.YtmiagijgecgfoaaFWakes
import Derived.Test.YtmiagijgecgfoaaCodeRef
namespace Go.Proofs.Ytmiagijgecgfoaa
open Go.RowKit

section
variable {l : List Ins} {A : Option Addr} {n c : Nat} {w : World}

set_option maxRecDepth 100000 in
set_option maxHeartbeats 8000000 in
theorem floops_any (hok : ∀ x ∈ l, x.ok) (hn : n ≤ 2000000) (hr : Rd w w.heap.size 5 A n (l.flatMap Ins.cu)) :
    Calls Try.prog 5 #[.slice A n c] w fun e w' => e = .returned (.bool true) ∧ Below w.heap.size w w' := by
  have HO := hide (of_big A n c l w hn hr hok)
  by_cases hg : n ≤ 200
  · have hd1 : ¬ (200 : Int) < n := by omega
    cases hm : mayP l with
    | false =>
      have HM := hide (fun W A c h => rmay_any A n c l W (by omega) h hok)
      rw [hm] at HM
      clear hm hr hok
      go_enter Try.func5, Try.ntmps5
      go_wp2_with fail
      refine (unhide HO).mono ?_
      rintro e w1 ⟨A', c', rfl, hown, hb1⟩
      have hr1 := Rd.of_own hown
      clear hown HO
      go_wp2_with fail
      refine (unhide HM _ _ _ hr1).mono ?_
      rintro e w2 ⟨rfl, hb2⟩
      have hb := bt hb1 hb2
      have hri := hr1.to hb2
      clear hb1 hb2 HM hr1
      go_wp2_with fail
      refine (wakes24_any _).mono ?_
      rintro e w4 ⟨rfl, hb5⟩
      go_wp2
      go_ret
      exact ⟨rfl, bt hb hb5⟩
    | true =>
      have HM := hide (fun W A c h => rmay_any A n c l W (by omega) h hok)
      rw [hm] at HM
      have hp : Prog l := ⟨hok, hm⟩
      have hln := hr.lenU
      have hle := hp.le
      have hn64 : n ≤ 64 := by omega
      obtain ⟨lb, hlb⟩ := loops_ex l
      have HR := hide (fun (W : World) (hb : Below w.heap.size w W) => hr.to hb)
      have HL := hide (fun W h => Loops_yes (w := W) (A := A) (n := n) (c := c) hp h hlb)
      have HRL := hide (fun W A c h => rLoops_any (w := W) (A := A) (n := n) (c := c) hp h hlb)
      have HRE := hide (fun W A c h => rEnds_any (w := W) (A := A) (n := n) (c := c) hp h hlb)
      cases hany : anyB lb (n + 1) with
      | true =>
        have HK := hide (fun W h => Longest_loop (w := W) (A := A) (n := n) (c := c) hp h hlb hany)
        rw [hany] at HRE
        clear hm hr hok hp hlb hln hle hany
        go_enter Try.func5, Try.ntmps5
        go_wp2_with fail
        refine (unhide HO).mono ?_
        rintro e w1 ⟨A', c', rfl, hown, hb1⟩
        have hr1 := Rd.of_own hown
        clear hown HO
        go_wp2_with fail
        refine (unhide HM _ _ _ hr1).mono ?_
        rintro e w2 ⟨rfl, hb2⟩
        have hb := bt hb1 hb2
        have hri := hr1.to hb2
        clear hb1 hb2 HM hr1
        go_wp2_with fail
        refine (unhide HL _ (unhide HR _ hb)).mono ?_
        rintro e w3 ⟨Ao, co, rfl, hown, hb3⟩
        have hro := Rd.of_own hown
        have hb4 := bt hb hb3
        have hri2 := hri.to hb3
        clear hown hb hb3 hri HL
        go_wp2_with fail
        refine (unhide HK _ (unhide HR _ hb4)).mono ?_
        rintro e w4 ⟨rfl, hb5⟩
        have hro2 := hro.to hb5
        have hb6 := bt hb4 hb5
        have hri3 := hri2.to hb5
        clear hb4 hb5 hri2 hro
        go_wp2_with fail
        refine (unhide HRL _ _ _ hri3).mono ?_
        rintro e w5 ⟨Ap, cp, rfl, hown, hb7⟩
        have hrp := Rd.of_own hown
        have hro3 := hro2.to hb7
        have hb8 := bt hb6 hb7
        have hri4 := hri3.to hb7
        clear hown hb6 hb7 hri3 hro2 HRL
        go_wp2_with fail
        refine (row_same (by omega) hro3 hrp).mono ?_
        rintro e w6 ⟨rfl, hb9⟩
        have hb10 := bt hb8 hb9
        have hri5 := hri4.to hb9
        clear hb8 hb9 hri4 hro3 hrp
        go_wp2_with fail
        refine (unhide HRE _ _ _ hri5).mono ?_
        rintro e w7 ⟨rfl, hb11⟩
        have hb12 := bt hb10 hb11
        have hri6 := hri5.to hb11
        clear hb10 hb11 hri5 HRE
        go_wp2_with fail
        refine (wakes24_any _).mono ?_
        rintro e w8 ⟨rfl, hb13⟩
        go_wp2
        go_ret
        exact ⟨rfl, bt hb12 hb13⟩
      | false =>
        have HK := hide (fun W h => Longest_way (w := W) (A := A) (n := n) (c := c) hp h hlb hany)
        have HRK := hide (fun W A c h k hk => rLongest_any (w := W) (A := A) (n := n) (c := c) (M := k) hp h hk (by
          have : k ≤ 66 := hk.le66 hp (fun i hi a ha hra => by
            have h1 : lb i = true := (hlb i).2 ⟨hi, a, ha, hra⟩
            have h2 := hi.le hp (Nat.zero_le _)
            rw [anyB_false hany i (by omega)] at h1
            cases h1) (.refl (by omega))
          omega))
        rw [hany] at HRE
        clear hm hr hok hp hlb hln hle hany
        go_enter Try.func5, Try.ntmps5
        go_wp2_with fail
        refine (unhide HO).mono ?_
        rintro e w1 ⟨A', c', rfl, hown, hb1⟩
        have hr1 := Rd.of_own hown
        clear hown HO
        go_wp2_with fail
        refine (unhide HM _ _ _ hr1).mono ?_
        rintro e w2 ⟨rfl, hb2⟩
        have hb := bt hb1 hb2
        have hri := hr1.to hb2
        clear hb1 hb2 HM hr1
        go_wp2_with fail
        refine (unhide HL _ (unhide HR _ hb)).mono ?_
        rintro e w3 ⟨Ao, co, rfl, hown, hb3⟩
        have hro := Rd.of_own hown
        have hb4 := bt hb hb3
        have hri2 := hri.to hb3
        clear hown hb hb3 hri HL
        go_wp2_with fail
        refine (unhide HK _ (unhide HR _ hb4)).mono ?_
        rintro e w4 ⟨k, hLk, rfl, hb5⟩
        have HLK := hide hLk
        clear hLk
        have hro2 := hro.to hb5
        have hb6 := bt hb4 hb5
        have hri3 := hri2.to hb5
        clear hb4 hb5 hri2 hro
        go_wp2_with fail
        refine (unhide HRL _ _ _ hri3).mono ?_
        rintro e w5 ⟨Ap, cp, rfl, hown, hb7⟩
        have hrp := Rd.of_own hown
        have hro3 := hro2.to hb7
        have hb8 := bt hb6 hb7
        have hri4 := hri3.to hb7
        clear hown hb6 hb7 hri3 hro2 HRL
        go_wp2_with fail
        refine (row_same (by omega) hro3 hrp).mono ?_
        rintro e w6 ⟨rfl, hb9⟩
        have hb10 := bt hb8 hb9
        have hri5 := hri4.to hb9
        clear hb8 hb9 hri4 hro3 hrp
        go_wp2_with fail
        refine (unhide HRE _ _ _ hri5).mono ?_
        rintro e w7 ⟨rfl, hb11⟩
        have hb12 := bt hb10 hb11
        have hri6 := hri5.to hb11
        clear hb10 hb11 hri5 HRE
        go_wp2_with fail
        refine (unhide HRK _ _ _ hri6 k (unhide HLK)).mono ?_
        rintro e w8 ⟨rfl, hb13⟩
        have hb14 := bt hb12 hb13
        clear hb12 hb13 hri6 HRK
        go_wp2_with fail
        refine (wakes24_any _).mono ?_
        rintro e w9 ⟨rfl, hb15⟩
        go_wp2
        go_ret
        exact ⟨rfl, bt hb14 hb15⟩
  · have hd1 : (200 : Int) < n := by omega
    clear hr hok
    go_enter Try.func5, Try.ntmps5
    go_wp2_with fail
    refine (unhide HO).mono ?_
    rintro e w1 ⟨A', c', rfl, hown, hb1⟩
    clear hown HO
    go_wp2_with fail
    refine (wakes24_any _).mono ?_
    rintro e w4 ⟨rfl, hb5⟩
    go_wp2
    go_ret
    exact ⟨rfl, bt hb1 hb5⟩
end
end Go.Proofs.Ytmiagijgecgfoaa
