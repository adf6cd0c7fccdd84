/-
  The walk of bailiwicklaw24.wakes.
-/
import Derived.Test.YtmiagijgecgfoaaFLong2
namespace Go.Proofs.Ytmiagijgecgfoaa
open Go.RowKit

theorem RE_inv {l : List Ins} {S : Nat → Bool} {out : Int} {a i : Nat} (h : ∀ b, b < l.length → S b = true → ∀ c ∈ nextL l b, S c = true) (ha : S a = true) (hr : RE l out a i) : S i = true := by
  induction hr with
  | refl _ => exact ha
  | @step b c _ h1 _ ih =>
    by_cases hb : b < l.length
    · exact h b hb ih c h1
    · have e : nextL l b = [] := by unfold nextL; rw [List.getElem?_eq_none (by omega)]
      rw [e] at h1
      simp at h1

def kn24 : List Ins := [⟨6, 0, 0, 0, 2⟩, ⟨0, 0, 0, 0, 0⟩, ⟨5, 0, 0, 0, 0⟩]
def lw24 : List Ins := [⟨1, 0, 0, 0, 0⟩, ⟨0, 0, 0, 0, 0⟩, ⟨1, 0, 0, 0, 0⟩]
def tr24 : List Ins := [⟨5, 0, 0, 0, 2⟩, ⟨1, 0, 0, 0, 0⟩, ⟨6, 0, 0, 0, 0⟩]
theorem kn24_prog : Prog kn24 := ⟨by intro x hx; simp only [kn24, List.mem_cons, List.not_mem_nil, or_false] at hx; rcases hx with rfl | rfl | rfl <;> (unfold Ins.ok; decide), by decide⟩
theorem lw24_prog : Prog lw24 := ⟨by intro x hx; simp only [lw24, List.mem_cons, List.not_mem_nil, or_false] at hx; rcases hx with rfl | rfl | rfl <;> (unfold Ins.ok; decide), by decide⟩
theorem tr24_prog : Prog tr24 := ⟨by intro x hx; simp only [tr24, List.mem_cons, List.not_mem_nil, or_false] at hx; rcases hx with rfl | rfl | rfl <;> (unfold Ins.ok; decide), by decide⟩
theorem kn_n0 : nextL kn24 0 = [1, 2] := by decide
theorem kn_n1 : nextL kn24 1 = [] := by decide
theorem kn_n2 : nextL kn24 2 = [0] := by decide
theorem lw_n0 : nextL lw24 0 = [1] := by decide
theorem lw_n1 : nextL lw24 1 = [] := by decide
theorem tr_n0 : nextL tr24 0 = [2] := by decide
theorem kn_re02 : RE kn24 (-1) 0 2 := .step (.refl (by omega)) (by rw [kn_n0]; simp) (by omega)
theorem kn_reached {b : Nat → Bool} (h : IsReached kn24 b) : b 0 = true ∧ b 2 = true ∧ b 3 = false := by
  refine ⟨(h 0).2 (.refl (by omega)), (h 2).2 kn_re02, ?_⟩
  cases hb : b 3 with
  | false => rfl
  | true =>
    have := RE_inv (S := fun i => decide (i < 3)) (by decide) (by decide) ((h 3).1 hb)
    simp at this
theorem kn_loops {b : Nat → Bool} (h : IsLoops kn24 b) : b 0 = true ∧ b 1 = false ∧ b 2 = true := by
  refine ⟨(h 0).2 ⟨.refl (by omega), 2, by rw [kn_n0]; simp, .step (.refl (by omega)) (by rw [kn_n2]; simp) (by omega)⟩, ?_, (h 2).2 ⟨kn_re02, 0, by rw [kn_n2]; simp, kn_re02⟩⟩
  cases hb : b 1 with
  | false => rfl
  | true =>
    obtain ⟨_, a, ha, _⟩ := (h 1).1 hb
    rw [kn_n1] at ha
    simp at ha
theorem kn_any {b : Nat → Bool} (h : IsLoops kn24 b) : anyB b 4 = true := anyB_yes (show 0 < 4 by omega) (kn_loops h).1
theorem lw_any {b : Nat → Bool} (h : IsLoops lw24 b) : anyB b 4 = false := by
  refine anyB_no fun i hi => ?_
  cases hb : b i with
  | false => rfl
  | true =>
    obtain ⟨h0, a, ha, hr⟩ := (h i).1 hb
    have hi2 : i < 2 := by
      have := RE_inv (S := fun i => decide (i < 2)) (by decide) (by decide) h0
      simpa using this
    have hc : i = 0 ∨ i = 1 := by omega
    rcases hc with rfl | rfl
    · rw [lw_n0] at ha
      obtain rfl := List.mem_singleton.1 ha
      have := RE_inv (S := fun i => decide (i = 1)) (by decide) (by decide) hr
      simp at this
    · rw [lw_n1] at ha
      simp at ha
theorem lw_long : Long lw24 0 2 := by
  have h1 : Long lw24 1 1 := Long.into (a := 1) [] (by decide) (by rw [lw_n1]) (fun i x y h => by rw [lw_n1] at h; simp at h)
  refine Long.into (a := 0) [1] (by decide) (by rw [lw_n0]; try rfl) (fun i x y h1' h2' => ?_)
  rw [lw_n0] at h1'
  have hi : i < 1 := (List.getElem?_eq_some_iff.1 h1').1
  obtain rfl : i = 0 := by omega
  obtain rfl := Option.some.inj h1'
  obtain rfl := Option.some.inj h2'
  exact h1
theorem tr_reached {b : Nat → Bool} (h : IsReached tr24 b) : b 0 = true ∧ b 1 = false ∧ b 2 = true := by
  refine ⟨(h 0).2 (.refl (by omega)), ?_, (h 2).2 (.step (.refl (by omega)) (by rw [tr_n0]; simp) (by omega))⟩
  cases hb : b 1 with
  | false => rfl
  | true =>
    have := RE_inv (S := fun i => decide (i ≠ 1)) (by decide) (by decide) ((h 1).1 hb)
    simp at this
theorem tr_trim {b : Nat → Bool} (h : IsReached tr24 b) : trimK tr24 b 3 = [⟨5, 0, 0, 0, 1⟩, ⟨6, 0, 0, 0, 0⟩] := by
  obtain ⟨h0, h1, h2⟩ := tr_reached h
  rw [trimK_yes (l := tr24) (b := b) (k := 2) (x := ⟨6, 0, 0, 0, 0⟩) rfl h2, trimK_no (l := tr24) h1, trimK_yes (l := tr24) (b := b) (k := 0) (x := ⟨5, 0, 0, 0, 2⟩) rfl h0]
  have e1 : numB b 2 = 1 := by rw [numB_no h1, numB_yes h0]; rfl
  have e2 : trimX b ⟨5, 0, 0, 0, 2⟩ = ⟨5, 0, 0, 0, 1⟩ := by
    unfold trimX
    rw [if_pos (.inl rfl)]
    show (⟨5, 0, 0, 0, ((numB b 2 : Nat) : Int)⟩ : Ins) = _
    rw [e1]
    rfl
  have e3 : trimX b ⟨6, 0, 0, 0, 0⟩ = ⟨6, 0, 0, 0, 0⟩ := by
    unfold trimX
    rw [if_pos (.inr rfl)]
    rfl
  rw [e2, e3]
  rfl
theorem kn_rules {rb ub : Nat → Bool} (h : IsReached kn24 rb) (hu : IsRound kn24 0 ub) : rulesB rb ub 3 0 2 = true := by
  obtain ⟨h0, h2, _⟩ := kn_reached h
  have hu2 : ub 2 = false := by
    cases hb : ub 2 with
    | false => rfl
    | true =>
      have := (hu 2).1 hb
      have h00 : ∀ i, ¬ RE kn24 0 0 i := fun i hi => by
        induction hi with
        | refl h => exact h rfl
        | step _ _ _ ih => exact ih
      exact absurd this (h00 2)
  have e0 : rb (0 : Int).toNat = true := h0
  have e2 : rb (2 : Int).toNat = true := h2
  have e3 : ub (2 : Int).toNat = false := hu2
  unfold rulesB thereB
  rw [e0, e2, e3]
  rfl

set_option maxRecDepth 100000 in
set_option maxHeartbeats 4000000 in
theorem known_any (w : World) : Calls Try.prog 54 #[] w fun e w' => ∃ A c, e = .returned (.slice A 3 c) ∧ Rd w' w'.heap.size 5 A 3 (kn24.flatMap Ins.cu) ∧ Below w.heap.size w w' := by
  have hb0 : Below w.heap.size w (w.alloc (.cells (kn24.flatMap Ins.cu).toArray 85)) := (Below.refl _ _).alloc (Nat.le_refl _) _
  have hr0 : Rd (w.alloc (.cells (kn24.flatMap Ins.cu).toArray 85)) (w.alloc (.cells (kn24.flatMap Ins.cu).toArray 85)).heap.size 5 (some ⟨w.heap.size, 0, none⟩) 3 (kn24.flatMap Ins.cu) :=
    (Rd.of_new w (kn24.flatMap Ins.cu) 85 w.heap.size rfl rfl).mono (by simp)
  go_enter Try.func54, Try.ntmps54
  go_wp2
  go_ret
  exact ⟨some ⟨w.heap.size, 0, none⟩, 3, rfl, hr0, hb0⟩

set_option maxRecDepth 100000 in
set_option maxHeartbeats 8000000 in
theorem wakes24_any (w : World) : Calls Try.prog 24 #[] w fun e w' => e = .returned (.bool true) ∧ Below w.heap.size w w' := by
  obtain ⟨rb, hrb⟩ := reached_ex kn24
  obtain ⟨lb, hlb⟩ := loops_ex kn24
  obtain ⟨lb2, hlb2⟩ := loops_ex lw24
  obtain ⟨rb3, hrb3⟩ := reached_ex tr24
  obtain ⟨ub, hub⟩ := round_ex kn24 0
  have H1 := hide (fun W A n c h => Reached_yes (w := W) (A := A) (n := n) (c := c) kn24_prog h hrb)
  have H2 := hide (fun W A n c h => Loops_yes (w := W) (A := A) (n := n) (c := c) kn24_prog h hlb)
  have H3 := hide (fun W A c h => Longest_loop (w := W) (A := A) (n := 3) (c := c) kn24_prog h hlb (kn_any hlb))
  have H4 := hide (fun W A c h => Longest_way (w := W) (A := A) (n := 3) (c := c) lw24_prog h hlb2 (lw_any hlb2))
  have H5 := hide (fun W A c h => Trim_yes (w := W) (A := A) (n := 3) (c := c) tr24_prog h hrb3)
  have H6 := hide (fun W A c h => Rules_yes (w := W) (A := A) (n := 3) (c := c) kn24_prog h hrb 0 2 hub)
  have H7 := hide (kn_rules hrb hub)
  have HT := Lib.hid (tr_trim hrb3)
  obtain ⟨_, r2, r3⟩ := kn_reached hrb
  obtain ⟨l0, l1, l2⟩ := kn_loops hlb
  have R2 := Lib.hid r2
  have R3 := Lib.hid r3
  have L0 := Lib.hid l0
  have L1 := Lib.hid l1
  have L2 := Lib.hid l2
  clear hrb hlb hlb2 hrb3 hub r2 r3 l0 l1 l2
  go_enter Try.func24, Try.ntmps24
  go_wp2_with fail
  refine (known_any w).mono ?_
  rintro e w1 ⟨A1, c1, rfl, hr1, hb1⟩
  go_wp2_with fail
  refine (unhide H1 _ _ _ _ hr1).mono ?_
  rintro e w2 ⟨A2, c2, rfl, hown2, hb2⟩
  have hd2 := Rd.of_own hown2
  have hbx := bt hb1 hb2
  clear hown2 hr1 hb1 hb2
  go_wp2_with fail
  refine (known_any w2).mono ?_
  rintro e w3 ⟨A3, c3, rfl, hr3, hb3⟩
  go_wp2_with fail
  refine (unhide H2 _ _ _ _ hr3).mono ?_
  rintro e w4 ⟨A4, c4, rfl, hown4, hb4⟩
  have hd4 := Rd.of_own hown4
  have hbz := bt hb3 hb4
  have hd2 := hd2.to hbz
  have hbx := bt hbx hbz
  clear hown4 hr3 hb3 hb4 hbz
  go_wp2_with fail
  refine (known_any w4).mono ?_
  rintro e w5 ⟨A5, c5, rfl, hr5, hb5⟩
  go_wp2_with fail
  refine (unhide H3 _ _ _ hr5).mono ?_
  rintro e w6 ⟨rfl, hb6⟩
  have hbz := bt hb5 hb6
  have hd2 := hd2.to hbz
  have hd4 := hd4.to hbz
  have hbx := bt hbx hbz
  clear hr5 hb5 hb6 hbz
  have hb7 : Below w6.heap.size w6 (w6.alloc (.cells (lw24.flatMap Ins.cu).toArray 85)) := (Below.refl _ _).alloc (Nat.le_refl _) _
  have hr7 : Rd (w6.alloc (.cells (lw24.flatMap Ins.cu).toArray 85)) (w6.alloc (.cells (lw24.flatMap Ins.cu).toArray 85)).heap.size 5 (some ⟨w6.heap.size, 0, none⟩) 3 (lw24.flatMap Ins.cu) :=
    (Rd.of_new w6 (lw24.flatMap Ins.cu) 85 w6.heap.size rfl rfl).mono (by simp)
  go_wp2_with fail
  refine (unhide H4 _ _ _ hr7).mono ?_
  rintro e w8 ⟨k8, hL, rfl, hb8⟩
  obtain rfl := hL.unique lw_long
  have hbz := bt hb7 hb8
  have hd2 := hd2.to hbz
  have hd4 := hd4.to hbz
  have hbx := bt hbx hbz
  clear hL hr7 hb7 hb8 hbz
  have hb9 : Below w8.heap.size w8 (w8.alloc (.cells (tr24.flatMap Ins.cu).toArray 85)) := (Below.refl _ _).alloc (Nat.le_refl _) _
  have hr9 : Rd (w8.alloc (.cells (tr24.flatMap Ins.cu).toArray 85)) (w8.alloc (.cells (tr24.flatMap Ins.cu).toArray 85)).heap.size 5 (some ⟨w8.heap.size, 0, none⟩) 3 (tr24.flatMap Ins.cu) :=
    (Rd.of_new w8 (tr24.flatMap Ins.cu) 85 w8.heap.size rfl rfl).mono (by simp)
  go_wp2_with fail
  refine (unhide H5 _ _ _ hr9).mono ?_
  rintro e w10 ⟨A10, c10, rfl, hown10, hb10⟩
  have hd10 := Rd.of_own hown10
  rw [HT.out] at hd10 ⊢
  rw [show ([⟨5, 0, 0, 0, 1⟩, ⟨6, 0, 0, 0, 0⟩] : List Ins).length = 2 from rfl] at hd10 ⊢
  have hbz := bt hb9 hb10
  have hd2 := hd2.to hbz
  have hd4 := hd4.to hbz
  have hbx := bt hbx hbz
  clear hown10 hr9 hb9 hb10 hbz
  go_wp2_with fail
  refine (known_any w10).mono ?_
  rintro e w11 ⟨A11, c11, rfl, hr11, hb11⟩
  go_wp2_with fail
  refine (unhide H6 _ _ _ hr11).mono ?_
  rintro e w12 ⟨rfl, hb12⟩
  rw [unhide H7]
  have hbz := bt hb11 hb12
  have hd2 := hd2.to hbz
  have hd4 := hd4.to hbz
  have hd10 := hd10.to hbz
  have hbx := bt hbx hbz
  clear hr11 hb11 hb12 hbz
  obtain ⟨p2, o2, rfl, _, hc2⟩ := hd2.2 (by omega)
  obtain ⟨p4, o4, rfl, _, hc4⟩ := hd4.2 (by omega)
  obtain ⟨p10, o10, rfl, _, hc10⟩ := hd10.2 (by omega)
  have q2 := hc2 2 _ (rowV_get rb (by omega))
  have q3 := hc2 3 _ (rowV_get rb (by omega))
  have s0 := hc4 0 _ (rowV_get lb (by omega))
  have s1 := hc4 1 _ (rowV_get lb (by omega))
  have s2 := hc4 2 _ (rowV_get lb (by omega))
  have t4 := hc10 4 (.int .u16 1) rfl
  rw [R2.out] at q2
  rw [R3.out] at q3
  rw [L0.out, Nat.add_zero] at s0
  rw [L1.out] at s1
  rw [L2.out] at s2
  clear hd2 hd4 hd10 hc2 hc4 hc10
  go_wp2
  go_ret
  exact ⟨rfl, hbx⟩
end Go.Proofs.Ytmiagijgecgfoaa
