/-
  The walk of bailiwickref24.Rules.
-/
import Derived.Test.YtmiagijgecgfoaaGEach
import Derived.Test.YtmiagijgecgfoaaFRules
namespace Go.Proofs.Ytmiagijgecgfoaa
open Go.RowKit

theorem Try.info110 : (Try.prog.info? 110).map (fun i => i.size) = some 65 := by kernel_rfl
theorem mW_row (M : Nat → Nat → Bool) {i : Nat} (hi : i < 65) : (mW M).extract (i * 65) (i * 65 + 65) = mC (M i) := by
  apply Array.ext_getElem?
  intro j
  rw [Array.getElem?_extract]
  by_cases hj : j < 65
  · rw [mC_get _ hj, if_pos (by rw [mW_size]; omega), mW_at M hi hj]
  · have h2 : (mC (M i))[j]? = none := Array.getElem?_eq_none (by rw [mC_size]; omega)
    rw [h2, if_neg (by omega)]
theorem idxW (M : Nat → Nat → Bool) {k : Nat} (hk : k < 65) (w : World) : (Instr.index 111 (.agg (mW M)) (.int .i64 k)).run Try.prog w = .ok (.agg (mC (M k))) w := by
  have hi := Try.info110
  cases hq : Try.prog.info? 110 with
  | none => rw [hq] at hi; simp at hi
  | some i =>
    have hc : Try.prog.cellsOf 110 = 65 := by kernel_rfl
    have hp : (part 110 (mW M) (k * 65)).run Try.prog w = .ok (.agg (mC (M k))) w := by
      simp [part, isAgg, run_underlying Try.underlying110, mW_row M hk]
    have h1 : (0 : Int) ≤ k ∧ (k : Int) < ((65 : Nat) : Int) := by omega
    simp [Instr.index, asIntOf, run_underlying Try.underlying111, hk, run_sizeOf w hq, hc, hp]
theorem idxR (m : Nat → Bool) {k : Nat} (hk : k < 65) (w : World) : (Instr.index 110 (.agg (mC m)) (.int .i64 k)).run Try.prog w = .ok (.bool (m k)) w := by
  have hi := Try.infoB
  cases hq : Try.prog.info? 4 with
  | none => rw [hq] at hi; simp at hi
  | some i =>
    have hc : Try.prog.cellsOf 4 = 1 := by kernel_rfl
    have hp : (part 4 (mC m) k).run Try.prog w = .ok (.bool (m k)) w := run_part_plain w (by kernel_rfl) (mC_get m hk)
    have h1 : (0 : Int) ≤ k ∧ (k : Int) < ((65 : Nat) : Int) := by omega
    simp [Instr.index, asIntOf, run_underlying Try.underlying110, hk, run_sizeOf w hq, hc, hp]

theorem re_head' {l : List Ins} {out : Int} {a i : Nat} : RE l out a i ↔ (a : Int) ≠ out ∧ (a = i ∨ ∃ b ∈ nextL l a, RE l out b i) := by
  constructor
  · intro h
    induction h with
    | refl h => exact ⟨h, .inl rfl⟩
    | step h1 h2 h3 ih =>
      rcases ih with ⟨g, rfl | ⟨b, hb, hr⟩⟩
      · exact ⟨g, .inr ⟨_, h2, .refl h3⟩⟩
      · exact ⟨g, .inr ⟨b, hb, .step hr h2 h3⟩⟩
  · rintro ⟨g, rfl | ⟨b, hb, hr⟩⟩
    · exact .refl g
    · exact .cons g hb hr
theorem round_ways {l : List Ins} {a : Int} {M : Nat → Nat → Bool} {ub : Nat → Bool} (hM : IsWays l a M) (hu : IsRound l a ub) {b : Nat} (hb : b ≠ 0) : ub b = M 0 b := by
  refine bool_ext ?_
  rw [hu b, re_head', hM 0 b]
  exact ⟨fun h => ⟨h.1, by rcases h.2 with e | e; omega; exact e⟩, fun h => ⟨h.1, .inr h.2⟩⟩

section
variable {l : List Ins} {A : Option Addr} {n c : Nat} {w : World}

set_option maxRecDepth 100000 in
set_option maxHeartbeats 4000000 in
theorem rRules_any (hp : Prog l) (hr : Rd w w.heap.size 5 A n (l.flatMap Ins.ci)) {rb ub : Nat → Bool} (hrb : IsReached l rb) (a b : Int) (hub : IsRound l a ub) :
    Calls Try.prog 34 #[.slice A n c, .int .i64 a, .int .i64 b] w fun e w' => e = .returned (.bool (rulesB rb ub n a b)) ∧ Below w.heap.size w w' := by
  have hln := hr.lenI
  have hle := hp.le
  have hn64 : n ≤ 64 := by omega
  have HRR := hide (rReached_any (c := c) hp hr hrb)
  have HW := hide (fun (W : World) (hb : Below w.heap.size w W) => ways_any (c := c) (out := a) hp (hr.to hb))
  have HU := hide hub
  obtain ⟨R, hR⟩ : ∃ R, rulesB rb ub n a b = R := ⟨_, rfl⟩
  have hRB : R = (thereB rb n a && thereB rb n b && (decide (a = b) || !ub b.toNat)) := by rw [← hR]; rfl
  rw [hR]
  clear hr hp hub hln hle hR hrb
  by_cases ha : 0 ≤ a ∧ a ≤ n
  · by_cases hb : 0 ≤ b ∧ b ≤ n
    · obtain ⟨p, rfl⟩ : ∃ p : Nat, a = p := ⟨a.toNat, by omega⟩
      obtain ⟨q, rfl⟩ : ∃ q : Nat, b = q := ⟨b.toNat, by omega⟩
      have ta : thereB rb n (p : Int) = rb p := by unfold thereB; rw [decide_eq_true ha, Bool.true_and]; rfl
      have tb : thereB rb n (q : Int) = rb q := by unfold thereB; rw [decide_eq_true hb, Bool.true_and]; rfl
      rw [ta, tb, Int.toNat_natCast] at hRB
      have y1 : decide ((p : Int) < 0) = false := decide_eq_false (by omega)
      have y2 : decide ((q : Int) < 0) = false := decide_eq_false (by omega)
      have z1 : ¬ (n : Int) < p := by omega
      have z2 : ¬ (n : Int) < q := by omega
      have z3 : (p : Int) < (n : Int) + 1 := by omega
      have z4 : (q : Int) < (n : Int) + 1 := by omega
      have z5 : p < n + 1 := by omega
      have z6 : q < n + 1 := by omega
      have z7 : p ≤ n := by omega
      have z8 : q ≤ n := by omega
      have HRB := Lib.hid hRB
      clear ta tb hRB ha hb
      go_enter Try.func34, Try.ntmps34
      go_wp2_with fail
      refine (unhide HRR).mono ?_
      rintro e w1 ⟨A', c', rfl, hown, hb1⟩
      obtain ⟨b2, o2, rfl, _, hcs⟩ := (Rd.of_own hown).2 (by omega)
      have r1 := hcs p _ (rowV_get rb z5)
      have r2 := hcs q _ (rowV_get rb z6)
      clear hown hcs HRR
      cases hp : rb p
      · rw [hp] at r1
        have hR : R = false := by rw [HRB.out, hp]; rfl
        subst hR
        clear HRB hp
        go_wp2
        go_ret
        exact ⟨rfl, hb1⟩
      · rw [hp] at r1
        cases hq : rb q
        · rw [hq] at r2
          have hR : R = false := by rw [HRB.out, hp, hq]; rfl
          subst hR
          clear HRB hp hq
          go_wp2
          go_ret
          exact ⟨rfl, hb1⟩
        · rw [hq] at r2
          have hR : R = (decide ((p : Int) = q) || !ub q) := by rw [HRB.out, hp, hq]; rfl
          clear hp hq HRB
          by_cases e1 : p = q
          · subst e1
            replace hR : R = true := by rw [hR, decide_eq_true rfl]; rfl
            subst hR
            clear HU HW
            go_wp2
            go_ret
            exact ⟨rfl, hb1⟩
          · have d1 : ((p : Int) == q) = false := by simpa using (fun h => e1 (by omega) : ¬ (p : Int) = q)
            have d2 : decide ((p : Int) = q) = false := decide_eq_false (by omega)
            have d3 : decide (p = q) = false := decide_eq_false e1
            have d4 : (p == q) = false := by simpa using e1
            rw [d2, Bool.false_or] at hR
            by_cases e2 : p = 0
            · subst e2
              have hu0 : ub q = false := by
                cases h : ub q with
                | false => rfl
                | true => exact absurd (re_head'.1 ((unhide HU q).1 h)).1 (by simp)
              replace hR : R = true := by rw [hR, hu0]; rfl
              subst hR
              rw [Nat.add_zero] at r1
              have x0 : (0 : Int) ≠ q := by omega
              have x1 : ((0 : Int) == q) = false := by simpa using x0
              have x2 : decide ((n : Int) < 0) = false := decide_eq_false (by omega)
              clear hu0 HU HW z3 z5 z7 e1 d1 d2 d3 d4 x0
              go_wp2
              go_ret
              exact ⟨rfl, hb1⟩
            · have d5 : ((p : Int) == 0) = false := by simpa using e2
              by_cases e3 : q = 0
              · subst e3
                have hu0 : ub 0 = true := (unhide HU 0).2 (.refl (by omega))
                replace hR : R = false := by rw [hR, hu0]; rfl
                subst hR
                rw [Nat.add_zero] at r2
                clear hu0 HU HW z4 z6 z8
                go_wp2
                go_ret
                exact ⟨rfl, hb1⟩
              · have d6 : ((q : Int) == 0) = false := by simpa using e3
                have d7 : ((q : Int) != 0) = true := by simpa using e3
                have HR2 := Lib.hid hR
                clear hR
                go_wp2_with fail
                refine (unhide HW _ hb1).mono ?_
                rintro e w2 ⟨M, rfl, hM, hb2⟩
                unfold waysV
                have hb3 := bt hb1 hb2
                have hu0 := round_ways hM (unhide HU) e3
                have g0 := fun w => idxW M (show 0 < 65 by omega) w
                have g1 := fun w => idxR (M 0) (show q < 65 by omega) w
                have HR3 := Lib.hid (show R = !(M 0 q) by rw [HR2.out, hu0])
                clear hM HW HU hb1 hb2 hu0 HR2
                simp only [Int.natCast_zero] at g0
                go_wp2
                go_ret
                exact ⟨by rw [HR3.out]; rfl, hb3⟩
    · have hR : R = false := by
        rw [hRB]
        have : thereB rb n b = false := by unfold thereB; rw [decide_eq_false hb, Bool.false_and]
        rw [this, Bool.and_false, Bool.false_and]
      obtain ⟨p, rfl⟩ : ∃ p : Nat, a = p := ⟨a.toNat, by omega⟩
      subst hR
      have y0 : decide ((p : Int) < 0) = false := decide_eq_false (by omega)
      have z1 : ¬ (n : Int) < p := by omega
      clear hRB
      go_enter Try.func34, Try.ntmps34
      go_wp2_with fail
      refine (unhide HRR).mono ?_
      rintro e w1 ⟨A', c', rfl, hown, hb1⟩
      clear hown HRR
      by_cases h0 : b < 0
      · have y1 : decide (b < 0) = true := decide_eq_true h0
        go_wp2
        go_ret
        exact ⟨rfl, hb1⟩
      · have y2 : (n : Int) < b := by omega
        have y1 : decide (b < 0) = false := decide_eq_false h0
        have y3 : decide ((n : Int) < b) = true := decide_eq_true y2
        go_wp2
        go_ret
        exact ⟨rfl, hb1⟩
  · have hR : R = false := by
      rw [hRB]
      have : thereB rb n a = false := by unfold thereB; rw [decide_eq_false ha, Bool.false_and]
      rw [this, Bool.false_and, Bool.false_and]
    subst hR
    clear hRB
    go_enter Try.func34, Try.ntmps34
    go_wp2_with fail
    refine (unhide HRR).mono ?_
    rintro e w1 ⟨A', c', rfl, hown, hb1⟩
    clear hown HRR
    by_cases h0 : a < 0
    · have y1 : decide (a < 0) = true := decide_eq_true h0
      go_wp2
      go_ret
      exact ⟨rfl, hb1⟩
    · have y2 : (n : Int) < a := by omega
      have y1 : decide (a < 0) = false := decide_eq_false h0
      have y3 : decide ((n : Int) < a) = true := decide_eq_true y2
      by_cases h4 : b < 0
      · have y4 : decide (b < 0) = true := decide_eq_true h4
        go_wp2
        go_ret
        exact ⟨rfl, hb1⟩
      · have y4 : decide (b < 0) = false := decide_eq_false h4
        go_wp2
        go_ret
        exact ⟨rfl, hb1⟩
end
end Go.Proofs.Ytmiagijgecgfoaa
