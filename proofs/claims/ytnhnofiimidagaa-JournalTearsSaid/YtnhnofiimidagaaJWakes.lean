/-
  journal.Read's contract case by case; the walk of bailiwicklaw27.wakes.
-/
import Derived.Test.YtnhnofiimidagaaJWkPlain
namespace Go.Proofs.Ytnhnofiimidagaa
open Go.RowKit

theorem readY {j : List UInt8} {pg : Int} {ps : List (List UInt8)} {pk : List UInt8} {b : Nat} (h : readO j = some ((pg, ps, pk), b)) (w : World) (hj : j.length ≤ 1000000) :
    Calls Try.prog 36 #[.string (S j)] w fun e w' => ∃ A c A2 c2, e = .returned (.tuple #[.agg #[.int .i64 pg, .slice A ps.length c, .slice A2 pk.length c2, .int .i64 b, .bool (decide (b < j.length))], .int .i64 0]) ∧
      Rd w' w'.heap.size 1 A ps.length (ps.map strV) ∧ Rd w' w'.heap.size 1 A2 pk.length (pk.map byteV) ∧ Below w.heap.size w w' := by
  refine (readE_any j w hj).mono ?_
  rintro e w' ⟨A, n, c, A2, m, c2, rfl, h1, h2, hm, hb⟩
  obtain ⟨g1, g2, g3⟩ := read_some h
  rw [g1] at h1 h2 hm ⊢
  rw [g2, g3]
  have hn := h1.lenOne
  simp only at hn hm h1 h2 ⊢
  subst hn hm
  exact ⟨A, c, A2, c2, rfl, h1, h2, hb⟩
theorem readN {j : List UInt8} (h : readO j = none) (w : World) (hj : j.length ≤ 1000000) :
    Calls Try.prog 36 #[.string (S j)] w fun e w' => ∃ A c A2 c2, e = .returned (.tuple #[.agg #[.int .i64 0, .slice A 0 c, .slice A2 0 c2, .int .i64 0, .bool false], .int .i64 3]) ∧ Below w.heap.size w w' := by
  refine (readE_any j w hj).mono ?_
  rintro e w' ⟨A, n, c, A2, m, c2, rfl, h1, h2, hm, hb⟩
  obtain ⟨g1, g2, g3⟩ := read_none h
  rw [g1] at h1 h2 hm ⊢
  rw [g2, g3]
  have hn := h1.lenOne
  simp only [List.length_nil] at hn hm h1 h2 ⊢
  subst hn hm
  exact ⟨A, c, A2, c2, rfl, hb⟩
theorem S_x (l : List UInt8) : S l ++ ByteArray.mk #[120] = S (l ++ [120]) := S_append l [120]

set_option maxRecDepth 100000 in
set_option maxHeartbeats 4000000 in
theorem wakes27_any (w : World) : Calls Try.prog 31 #[] w fun e w' => e = .returned (.bool true) ∧ Below w.heap.size w w' := by
  have hb0 : Below w.heap.size w (w.alloc (.cells (([[]] : List (List UInt8)).map strV).toArray 9)) := (Below.refl _ _).alloc (Nat.le_refl _) _
  have hr0 : Rd (w.alloc (.cells (([[]] : List (List UInt8)).map strV).toArray 9)) (w.alloc (.cells (([[]] : List (List UInt8)).map strV).toArray 9)).heap.size 1 (some ⟨w.heap.size, 0, none⟩) 1 (([[]] : List (List UInt8)).map strV) :=
    (Rd.of_new w (([[]] : List (List UInt8)).map strV) 9 w.heap.size rfl rfl).mono (by simp)
  have L1 := Lib.hid wkB_len
  have L2 := Lib.hid wkK2_len
  have L3 : Hid ((wkK2 ++ [120]).length = 21) := by
    have : (wkK2 ++ [120]).length = 21 := by rw [List.length_append, wkK2_len]; rfl
    exact this
  go_enter Try.func31, Try.ntmps31
  go_wp2_with fail
  refine (begin_any 1 [[]] (some ⟨w.heap.size, 0, none⟩) none 1 1 0 0 _ hr0 (by simp) (by omega)).mono ?_
  rintro e w1 ⟨rfl, hb1⟩
  rw [wkB_S.1, wkB_S.2]
  have hb01 := bt hb0 hb1
  have hr1 : Rd (w1.alloc (.cells (([0, 8] : List UInt8).map byteV).toArray 5)) (w1.alloc (.cells (([0, 8] : List UInt8).map byteV).toArray 5)).heap.size 1 (some ⟨w1.heap.size, 0, none⟩) 2 (([0, 8] : List UInt8).map byteV) :=
    (Rd.of_new w1 (([0, 8] : List UInt8).map byteV) 5 w1.heap.size rfl rfl).mono (by simp)
  have hb02 := hb01.alloc hb01.size (.cells (([0, 8] : List UInt8).map byteV).toArray 5)
  clear hr0 hb0 hb1 hb01
  go_wp2_with fail
  refine (add_any wkB [0, 8] (some ⟨w1.heap.size, 0, none⟩) 2 2 _ hr1 (by have := L1.out; omega) (by omega)).mono ?_
  rintro e w2 ⟨rfl, hb2⟩
  rw [wkB_add.1, wkB_add.2]
  have hb03 := bt hb02 hb2
  clear hr1 hb02 hb2
  go_wp2_with fail
  refine (readY wkK2_read w2 (by have := L2.out; omega)).mono ?_
  rintro e w3 ⟨A, c, A2, c2, rfl, h1, h2, hb3⟩
  rw [show decide (20 < wkK2.length) = false by rw [L2.out]; rfl]
  have hb04 := bt hb03 hb3
  have hb4 : Below w3.heap.size w3 (w3.alloc (.cells #[.int .i64 1, .slice A 1 c, .slice A2 2 c2, .int .i64 20, .bool false] 61)) := (Below.refl _ _).alloc (Nat.le_refl _) _
  have x1 := Bx.new w3 #[.int .i64 1, .slice A 1 c, .slice A2 2 c2, .int .i64 20, .bool false] 61 w3.heap.size rfl
  have r1 := h2.to hb4
  have hb05 := bt hb04 hb4
  clear h1 h2 hb03 hb3 hb04 hb4
  have hx := S_x wkK2
  go_wp2_with fail
  refine (readY wkT_read _ (by have := L3.out; omega)).mono ?_
  rintro e w4 ⟨A3, c3, A4, c4, rfl, _, _, hb4⟩
  rw [show decide (20 < (wkK2 ++ [120] : List UInt8).length) = true by rw [L3.out]; rfl]
  have x2 := x1.to hb4
  have r2 := r1.to hb4
  have hb06 := bt hb05 hb4
  have hb5 : Below w4.heap.size w4 (w4.alloc (.cells #[.int .i64 1, .slice A3 1 c3, .slice A4 2 c4, .int .i64 20, .bool true] 61)) := (Below.refl _ _).alloc (Nat.le_refl _) _
  have y2 := Bx.new w4 #[.int .i64 1, .slice A3 1 c3, .slice A4 2 c4, .int .i64 20, .bool true] 61 w4.heap.size rfl
  have x3 := x2.to hb5
  have r3 := r2.to hb5
  have hb07 := bt hb06 hb5
  have hb6 : Below (w4.alloc (.cells #[.int .i64 1, .slice A3 1 c3, .slice A4 2 c4, .int .i64 20, .bool true] 61)).heap.size (w4.alloc (.cells #[.int .i64 1, .slice A3 1 c3, .slice A4 2 c4, .int .i64 20, .bool true] 61))
      ((w4.alloc (.cells #[.int .i64 1, .slice A3 1 c3, .slice A4 2 c4, .int .i64 20, .bool true] 61)).alloc (.cells (([0] : List UInt8).map byteV).toArray 5)) := (Below.refl _ _).alloc (Nat.le_refl _) _
  have hr5 : Rd ((w4.alloc (.cells #[.int .i64 1, .slice A3 1 c3, .slice A4 2 c4, .int .i64 20, .bool true] 61)).alloc (.cells (([0] : List UInt8).map byteV).toArray 5)) ((w4.alloc (.cells #[.int .i64 1, .slice A3 1 c3, .slice A4 2 c4, .int .i64 20, .bool true] 61)).alloc (.cells (([0] : List UInt8).map byteV).toArray 5)).heap.size 1 (some ⟨w4.heap.size + 1, 0, none⟩) 1 (([0] : List UInt8).map byteV) :=
    (Rd.of_new (w4.alloc (.cells #[.int .i64 1, .slice A3 1 c3, .slice A4 2 c4, .int .i64 20, .bool true] 61)) (([0] : List UInt8).map byteV) 5 (w4.heap.size + 1) (by simp) rfl).mono (by simp)
  have x4 := x3.to hb6
  have y4 := y2.to hb6
  have r4 := r3.to hb6
  have hb08 := bt hb07 hb6
  clear x1 r1 hb05 hb4 x2 r2 hb06 hb5 y2 x3 r3 hb07 hb6
  go_wp2_with fail
  refine (add_any (wkK2 ++ [120]) [0] (some ⟨w4.heap.size + 1, 0, none⟩) 1 1 _ hr5 (by have := L3.out; omega) (by omega)).mono ?_
  rintro e w5 ⟨rfl, hb5⟩
  have ht : readT (wkK2 ++ [120]) = true := by rw [(read_some wkT_read).2.2, L3.out]; rfl
  rw [(add_torn (pk := [0]) ht).1, (add_torn (pk := [0]) ht).2]
  have x5 := x4.to hb5
  have y5 := y4.to hb5
  have r5 := r4.to hb5
  have hb09 := bt hb08 hb5
  clear hr5 x4 y4 r4 hb08 hb5 ht
  go_wp2_with fail
  refine (readN wkM_read w5 (by simp)).mono ?_
  rintro e w6 ⟨A5, c5, A6, c6, rfl, hb6⟩
  have hb7 : Below w6.heap.size w6 (w6.alloc (.cells #[.int .i64 0, .slice A5 0 c5, .slice A6 0 c6, .int .i64 0, .bool false] 61)) := (Below.refl _ _).alloc (Nat.le_refl _) _
  have x7 := (x5.to hb6).to hb7
  have y7 := (y5.to hb6).to hb7
  have r7 := (r5.to hb6).to hb7
  have hb10 := bt (bt hb09 hb6) hb7
  have X0 := x7.cell 2
  have X1 := x7.cell 4
  have Y0 := y7.cell 3
  have Y1 := y7.cell 4
  have hcv := run_str (P := Try.prog) (l := [0, 8]) (n := 2) r7 _ _ _ c2 Try.underlying47 Try.underlying5 Try.underlying9
  have l1 := L1.out
  have l2 := L2.out
  have l4 := wkB_take
  clear x5 y5 r5 hb09 hb6 hb7 x7 y7 r7 L1 L2 L3
  go_wp2_with fail
  refine (sum_any [] _ (by simp)).mono ?_
  rintro e w8 ⟨rfl, rfl⟩
  go_wp2
  go_ret
  exact ⟨rfl, hb10⟩
end Go.Proofs.Ytnhnofiimidagaa
