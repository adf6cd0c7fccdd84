/-
  The walk of flow.Rules.
-/
import Derived.Test.YtmiagijgecgfoaaFEach
namespace Go.Proofs.Ytmiagijgecgfoaa
open Go.RowKit

/-- is a place of the program reached? -/
def thereB (rb : Nat → Bool) (n : Nat) (a : Int) : Bool := decide (0 ≤ a ∧ a ≤ n) && rb a.toNat
/-- does a place rule another one? ub: what one comes to, but not through it -/
def rulesB (rb ub : Nat → Bool) (n : Nat) (a b : Int) : Bool := thereB rb n a && thereB rb n b && (decide (a = b) || !ub b.toNat)
/-- what one comes to from the place 0, but not through a -/
def IsRound (l : List Ins) (a : Int) (ub : Nat → Bool) : Prop := ∀ i, ub i = true ↔ RE l a 0 i
theorem round_ex (l : List Ins) (a : Int) : ∃ b, IsRound l a b := by
  obtain ⟨b, hb⟩ := reB_ex l a [0]
  exact ⟨b, fun i => (hb i).trans (by simp)⟩

section
variable {l : List Ins} {A : Option Addr} {n c : Nat} {w : World}

set_option maxRecDepth 100000 in
set_option maxHeartbeats 4000000 in
theorem there_any (hp : Prog l) (hr : Rd w w.heap.size 5 A n (l.flatMap Ins.cu)) {rb : Nat → Bool} (hb : IsReached l rb) {g : Nat} (hg : Bx w g #[.slice A n c]) (a : Int) :
    Calls Try.prog 63 #[.int .i64 a, .pointer (some ⟨g, 0, none⟩)] w fun e w' => e = .returned (.bool (thereB rb n a)) ∧ Below w.heap.size w w' := by
  have hln := hr.lenU
  have hle := hp.le
  have g0 := hg.cell 0
  by_cases h0 : 0 ≤ a
  · by_cases h1 : a ≤ n
    · have e1 : thereB rb n a = rb a.toNat := by unfold thereB; rw [decide_eq_true ⟨h0, h1⟩]; rfl
      obtain ⟨k, rfl⟩ : ∃ k : Nat, a = k := ⟨a.toNat, by omega⟩
      rw [e1, Int.toNat_natCast]
      have hC := reached_any (c := c) hp hr hb
      have hix := fun w => idxPl rb (show k < 65 by omega) w
      have hd : decide (k ≤ n) = true := decide_eq_true (by omega)
      have HC := hide hC
      unfold placesV at HC
      clear hC hr hb hg e1 hp hln
      go_enter Try.func63, Try.ntmps63
      go_wp2_with fail
      refine (unhide HC).mono ?_
      rintro e w1 ⟨rfl, hb1⟩
      go_wp2
      go_ret
      exact ⟨rfl, hb1⟩
    · have e1 : thereB rb n a = false := by unfold thereB; rw [decide_eq_false (fun h => h1 h.2)]; rfl
      rw [e1]
      have hd : decide (0 ≤ a) = true := decide_eq_true h0
      have hd1 : decide (a ≤ (n : Int)) = false := decide_eq_false h1
      clear e1 hb hr hp hg hln
      go_enter Try.func63, Try.ntmps63
      go_wp2
      go_ret
      exact ⟨rfl, Below.refl _ _⟩
  · have e1 : thereB rb n a = false := by unfold thereB; rw [decide_eq_false (fun h => h0 h.1)]; rfl
    rw [e1]
    have hd : decide (0 ≤ a) = false := decide_eq_false h0
    clear e1 hb hr hp hg hln
    go_enter Try.func63, Try.ntmps63
    go_wp2
    go_ret
    exact ⟨rfl, Below.refl _ _⟩

set_option maxRecDepth 100000 in
set_option maxHeartbeats 4000000 in
theorem Rules_yes (hp : Prog l) (hr : Rd w w.heap.size 5 A n (l.flatMap Ins.cu)) {rb ub : Nat → Bool} (hrb : IsReached l rb) (a b : Int) (hub : IsRound l a ub) :
    Calls Try.prog 33 #[.slice A n c, .int .i64 a, .int .i64 b] w fun e w' => e = .returned (.tuple #[.bool (rulesB rb ub n a b), .int .i64 0]) ∧ Below w.heap.size w w' := by
  have hln := hr.lenU
  have hle := hp.le
  have hmf : ∀ (fn : Fn) (first cap : Array Value) (w : World), (Instr.makeFunc fn first cap).run Try.prog w = .ok (.func fn first cap) w := fun _ _ _ _ => rfl
  have hO := of_yes (c := c) hp hr
  have HO := hide hO
  have HR := hide hr
  have HT := hide (fun W h g hg a => there_any (w := W) (A := A) (n := n) (c := c) hp h hrb (g := g) hg a)
  have HU := hide hub
  have hn64 : n ≤ 64 := by omega
  obtain ⟨ta, hta⟩ : ∃ t, thereB rb n a = t := ⟨_, rfl⟩
  obtain ⟨tb, htb⟩ : ∃ t, thereB rb n b = t := ⟨_, rfl⟩
  obtain ⟨R, hR⟩ : ∃ R, rulesB rb ub n a b = R := ⟨_, rfl⟩
  have HTA := Lib.hid hta
  have HTB := Lib.hid htb
  have hRB : R = (ta && tb && (decide (a = b) || !ub b.toNat)) := by rw [← hR]; unfold rulesB; rw [hta, htb]
  rw [hR]
  have HRB := Lib.hid hRB
  clear hO hr hrb hub hln hta htb hRB hR
  go_enter Try.func33, Try.ntmps33
  go_wp2_with fail
  refine (unhide HO).mono ?_
  rintro e w1 ⟨rfl, hb1⟩
  go_upto_region 4 with fail
  refine nameW ?_
  intro W1 hW1
  have hby : Below w1.heap.size w1 W1 := by rw [hW1]; exact (Below.refl _ _).alloc (Nat.le_refl _) _
  have hx1 : Bx W1 w1.heap.size #[.slice A n c] := by rw [hW1]; exact Bx.new _ _ _ _ rfl
  have hb2 := bt hb1 hby
  clear hW1 hb1 hby HO
  have hr2 := (unhide HR).to hb2
  go_wp2_with fail
  refine (unhide HT _ hr2 _ hx1 a).mono ?_
  rintro e w2 ⟨rfl, hb3⟩
  rw [HTA.out]
  have hx2 := hx1.to hb3
  have hb4 := bt hb2 hb3
  have hr3 := hr2.to hb3
  clear hx1 hb2 hb3 hr2
  cases ta
  · have hR : R = false := by rw [HRB.out]; rfl
    subst hR
    go_wp2
    go_ret2
    exact ⟨rfl, hb4⟩
  · go_wp2_with fail
    refine (unhide HT _ hr3 _ hx2 b).mono ?_
    rintro e w3 ⟨rfl, hb5⟩
    rw [HTB.out]
    have hx3 := hx2.to hb5
    have hb6 := bt hb4 hb5
    have hr4 := hr3.to hb5
    clear hx2 hb4 hb5 hr3
    cases tb
    · have hR : R = false := by rw [HRB.out]; rfl
      subst hR
      go_wp2
      go_ret2
      exact ⟨rfl, hb6⟩
    · have htb := HTB.out
      unfold thereB at htb
      simp only [Bool.and_eq_true, decide_eq_true_eq] at htb
      obtain ⟨k, hk⟩ : ∃ k : Nat, b = k := ⟨b.toNat, by omega⟩
      by_cases hab : a = b
      · have hd : decide (a = b) = true := decide_eq_true hab
        have hd2 : (a == b) = true := by simpa using hab
        have hR : R = true := by rw [HRB.out, hd]; rfl
        subst hR
        clear hab hk htb
        go_wp2
        go_ret2
        exact ⟨rfl, hb6⟩
      · have hkn : k ≤ n := by omega
        subst hk
        have hd : decide (a = (k : Int)) = false := decide_eq_false hab
        have hd2 : (a == (k : Int)) = false := by simpa using hab
        have c0 := hx3.cell 0
        have hR : R = !ub k := by rw [HRB.out, hd, Int.toNat_natCast]; simp
        subst hR
        have HX3 := hide hx3
        have HR4 := hide hr4
        clear hab htb hx3 hr4
        go_wp2_with fail
        have hby : Below w3.heap.size w3 (w3.alloc (.cells #[.int .i64 0] 3)) := (Below.refl _ _).alloc (Nat.le_refl _) _
        have h2 : Rd (w3.alloc (.cells #[.int .i64 0] 3)) (w3.alloc (.cells #[.int .i64 0] 3)).heap.size 1 (some ⟨w3.heap.size, 0, none⟩) 1 ([0].map intV) :=
          (Rd.of_new w3 ([0].map intV) 3 w3.heap.size rfl rfl).mono (by simp)
        refine (from_any (out := a) (ps := [0]) hp ((unhide HR4).to hby) h2 (by simp) (by omega)).mono ?_
        rintro e w4 ⟨m, rfl, hm, hb7⟩
        unfold placesV
        have e1 : m k = ub k := by
          refine bool_ext ?_
          rw [hm k, (unhide HU) k]
          simp
        have g1 := fun w => idxPl m (show k < 65 by omega) w
        rw [e1] at g1
        have HB := hide (bt (bt hb6 hby) hb7)
        clear e1 hm hb7 hby h2 hb6
        go_wp2
        go_ret2
        exact ⟨rfl, HB.out⟩

set_option maxRecDepth 100000 in
set_option maxHeartbeats 4000000 in
theorem Rules_no (hok : ∀ x ∈ l, x.ok) (hm : mayP l = false) (hn : n ≤ 140737488355328) (hr : Rd w w.heap.size 5 A n (l.flatMap Ins.cu)) (a b : Int) :
    Calls Try.prog 33 #[.slice A n c, .int .i64 a, .int .i64 b] w fun e w' => e = .returned (.tuple #[.bool false, .int .i64 3]) ∧ Below w.heap.size w w' := by
  have hO := of_no (c := c) hok hm hn hr
  have HO := hide hO
  clear hO hr hok hm
  go_enter Try.func33, Try.ntmps33
  go_wp2_with fail
  refine (unhide HO).mono ?_
  rintro e w1 ⟨rfl, hb1⟩
  go_wp2
  go_ret2
  exact ⟨rfl, hb1.alloc hb1.size _⟩
end
end Go.Proofs.Ytmiagijgecgfoaa
