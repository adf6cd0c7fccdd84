/-
  The walk of bailiwicklaw27.same.
-/
import Derived.Test.YtnhnofiimidagaaJWakes
import Derived.Test.YtnhnofiimidagaaJRRead2
namespace Go.Proofs.Ytnhnofiimidagaa
open Go.RowKit

theorem rread_any (j : List UInt8) (w : World) (hj : j.length ≤ 1000000) : Calls Try.prog 39 #[.string (S j)] w (RRPost j w) := by
  cases h : headO j with
  | none => exact rread_no h w hj
  | some q =>
    obtain ⟨⟨pg, ps, pk⟩, a0⟩ := q
    obtain rfl : pk = [] := headO_pk h
    exact rread_yes h w hj
theorem rreadY {j : List UInt8} {pg : Int} {ps : List (List UInt8)} {pk : List UInt8} {b : Nat} (h : readO j = some ((pg, ps, pk), b)) (w : World) (hj : j.length ≤ 1000000) :
    Calls Try.prog 39 #[.string (S j)] w fun e w' => ∃ A c, e = .returned (.agg #[.int .i64 pg, .slice A ps.length c, .string (S pk), .int .i64 b, .bool true]) ∧ Rd w' w'.heap.size 1 A ps.length (ps.map strV) ∧ Below w.heap.size w w' := by
  refine (rread_any j w hj).mono ?_
  rintro e w' ⟨A, n, c, rfl, h1, hb⟩
  obtain ⟨g1, _, _⟩ := read_some h
  rw [g1] at h1 ⊢
  rw [h]
  have hn := h1.lenOne
  simp only at hn h1 ⊢
  subst hn
  exact ⟨A, c, rfl, h1, hb⟩
theorem rreadN {j : List UInt8} (h : readO j = none) (w : World) (hj : j.length ≤ 1000000) :
    Calls Try.prog 39 #[.string (S j)] w fun e w' => ∃ A c, e = .returned (.agg #[.int .i64 0, .slice A 0 c, .string (S []), .int .i64 0, .bool false]) ∧ Below w.heap.size w w' := by
  refine (rread_any j w hj).mono ?_
  rintro e w' ⟨A, n, c, rfl, h1, hb⟩
  obtain ⟨g1, _, _⟩ := read_none h
  rw [g1] at h1 ⊢
  rw [h]
  have hn := h1.lenOne
  simp only [List.length_nil] at hn h1 ⊢
  subst hn
  exact ⟨A, c, rfl, hb⟩

set_option maxRecDepth 100000 in
set_option maxHeartbeats 4000000 in
theorem same27_no {j : List UInt8} (h : readO j = none) (A A2 : Option Addr) (c c2 : Nat) (w : World) (hj : j.length ≤ 1000000) :
    Calls Try.prog 37 #[.string (S j), .agg #[.int .i64 0, .slice A 0 c, .slice A2 0 c2, .int .i64 0, .bool false], .int .i64 3] w fun e w' => e = .returned (.bool true) ∧ Below w.heap.size w w' := by
  have hb0 : Below w.heap.size w (w.alloc (.cells #[.int .i64 0, .slice A 0 c, .slice A2 0 c2, .int .i64 0, .bool false] 61)) := (Below.refl _ _).alloc (Nat.le_refl _) _
  have hbx := Bx.new w #[.int .i64 0, .slice A 0 c, .slice A2 0 c2, .int .i64 0, .bool false] 61 w.heap.size rfl
  go_enter Try.func37, Try.ntmps37
  go_wp2_with fail
  refine (rreadN h _ hj).mono ?_
  rintro e w1 ⟨A3, c3, rfl, hb1⟩
  have hb2 : Below w1.heap.size w1 (w1.alloc (.cells #[.int .i64 0, .slice A3 0 c3, .string (S []), .int .i64 0, .bool false] 68)) := (Below.refl _ _).alloc (Nat.le_refl _) _
  have hbF := bt (bt hb0 hb1) hb2
  have x1 := (hbx.to hb1).to hb2
  have c1 := x1.cell 1
  have c3' := x1.cell 3
  have c4 := x1.cell 4
  clear hb0 hbx hb1 hb2 x1
  go_wp2
  go_ret
  exact ⟨rfl, hbF⟩

set_option maxRecDepth 100000 in
set_option maxHeartbeats 4000000 in
theorem same27_yes {j : List UInt8} {pg : Int} {ps : List (List UInt8)} {pk : List UInt8} {b : Nat} (h : readO j = some ((pg, ps, pk), b)) (A A2 : Option Addr) (n m c c2 : Nat) (w : World) (hj : j.length ≤ 1000000)
    (hn : ps.length = n) (hn2 : n ≤ 140737488355328) (hr : Rd w w.heap.size 1 A n (ps.map strV)) (hr2 : Rd w w.heap.size 1 A2 m (pk.map byteV)) :
    Calls Try.prog 37 #[.string (S j), .agg #[.int .i64 pg, .slice A n c, .slice A2 m c2, .int .i64 b, .bool (decide (b < j.length))], .int .i64 0] w fun e w' => e = .returned (.bool true) ∧ Below w.heap.size w w' := by
  have hb0 : Below w.heap.size w (w.alloc (.cells #[.int .i64 pg, .slice A n c, .slice A2 m c2, .int .i64 b, .bool (decide (b < j.length))] 61)) := (Below.refl _ _).alloc (Nat.le_refl _) _
  have hbx := Bx.new w #[.int .i64 pg, .slice A n c, .slice A2 m c2, .int .i64 b, .bool (decide (b < j.length))] 61 w.heap.size rfl
  have hR := fun w => rreadY h w hj
  rw [hn] at hR
  have HR := hide hR
  have hra := hr.to hb0
  have hrb := hr2.to hb0
  clear h hn hR hr hr2
  by_cases hbj : b < j.length
  all_goals
    first | rw [decide_eq_true hbj] at * | rw [decide_eq_false hbj] at *
    go_enter Try.func37, Try.ntmps37
    go_wp2_with fail
    refine (unhide HR _).mono ?_
    rintro e w1 ⟨A3, c3, rfl, h3, hb1⟩
    have hb2 : Below w1.heap.size w1 (w1.alloc (.cells #[.int .i64 pg, .slice A3 n c3, .string (S pk), .int .i64 b, .bool true] 68)) := (Below.refl _ _).alloc (Nat.le_refl _) _
    have y2 := Bx.new w1 #[.int .i64 pg, .slice A3 n c3, .string (S pk), .int .i64 b, .bool true] 68 w1.heap.size rfl
    have hbF := bt (bt hb0 hb1) hb2
    have x1 := (hbx.to hb1).to hb2
    have r1 := (hra.to hb1).to hb2
    have r2 := (hrb.to hb1).to hb2
    have r3 := h3.to hb2
    have c0 := x1.cell 0
    have c1 := x1.cell 1
    have c2' := x1.cell 2
    have c3' := x1.cell 3
    have c4 := x1.cell 4
    have d0 := y2.cell 0
    have d1 := y2.cell 1
    have d2 := y2.cell 2
    have d3 := y2.cell 3
    have d4 := y2.cell 4
    have hsm := same_any pg ps pk A A2 A3 n c m c2 c3 _ r1 r2 r3 hn2
    simp only [scrV, rscrV] at hsm
    have HSM := hide hsm
    clear hb0 hbx hb1 hb2 x1 y2 r1 r2 r3 h3 hra hrb HR hsm
    go_wp2_with fail
    refine (unhide HSM).mono ?_
    rintro e w2 ⟨rfl, hb3⟩
    go_wp2
    go_ret
    exact ⟨rfl, bt hbF hb3⟩
end Go.Proofs.Ytnhnofiimidagaa
