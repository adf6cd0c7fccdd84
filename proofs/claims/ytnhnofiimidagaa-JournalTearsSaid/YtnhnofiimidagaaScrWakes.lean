/-
  The walk of bailiwicklaw18.wakes, and the decoders' contracts case by case.
-/
import Derived.Test.YtnhnofiimidagaaScrPlain
import Derived.Test.YtnhnofiimidagaaScrSame
import Derived.Test.YtnhnofiimidagaaScrRBytes
namespace Go.Proofs.Ytnhnofiimidagaa
open Go.RowKit

theorem scrDec_yes {l : List UInt8} {pg : Int} {ps : List (List UInt8)} {pk : List UInt8} (h : scO l = some (pg, ps, pk)) (w : World) (hl : l.length ≤ 1000000) :
    Calls Try.prog 27 #[.string (S l)] w
      fun e w' => ∃ A c A2 c2, e = .returned (.tuple #[.agg #[.int .i64 pg, .slice A ps.length c, .slice A2 pk.length c2], .int .i64 0]) ∧
        Rd w' w'.heap.size 1 A ps.length (ps.map strV) ∧ Rd w' w'.heap.size 1 A2 pk.length (pk.map byteV) ∧ Below w.heap.size w w' := by
  refine (scrDec_any l w hl).mono ?_
  rintro e w' ⟨A, n, c, A2, m, c2, rfl, h1, h2, hb⟩
  have e1 := (scr_yes h).1
  have e2 := (scr_yes h).2
  rw [e1] at h1 h2 ⊢
  rw [e2]
  have hn := h1.lenOne
  have hm := h2.lenOne
  simp only at hn hm h1 h2
  subst hn hm
  exact ⟨A, c, A2, c2, rfl, h1, h2, hb⟩
theorem scrDec_no {l : List UInt8} (h : scO l = none) (w : World) (hl : l.length ≤ 1000000) :
    Calls Try.prog 27 #[.string (S l)] w
      fun e w' => ∃ A c A2 c2, e = .returned (.tuple #[.agg #[.int .i64 0, .slice A 0 c, .slice A2 0 c2], .int .i64 3]) ∧ Below w.heap.size w w' := by
  refine (scrDec_any l w hl).mono ?_
  rintro e w' ⟨A, n, c, A2, m, c2, rfl, h1, h2, hb⟩
  have e1 := (scr_no h).1
  have e2 := (scr_no h).2
  rw [e1] at h1 h2 ⊢
  rw [e2]
  have hn := h1.lenOne
  have hm := h2.lenOne
  simp only [List.length_nil] at hn hm
  subst hn hm
  exact ⟨A, c, A2, c2, rfl, hb⟩
theorem rscDec_yes {l : List UInt8} {pg : Int} {ps : List (List UInt8)} {pk : List UInt8} (h : scO l = some (pg, ps, pk)) (w : World) (hl : l.length ≤ 1000000) :
    Calls Try.prog 28 #[.string (S l)] w
      fun e w' => ∃ A c, e = .returned (.tuple #[.agg #[.int .i64 pg, .slice A ps.length c, .string (S pk)], .bool true]) ∧
        Rd w' w'.heap.size 1 A ps.length (ps.map strV) ∧ Below w.heap.size w w' := by
  refine (rscDec_any l w hl).mono ?_
  rintro e w' ⟨A, n, c, rfl, h1, hb⟩
  unfold rscD at h1 ⊢
  rw [rscO_eq, h] at h1 ⊢
  have hn := h1.lenOne
  simp only [Option.getD_some] at hn h1
  subst hn
  exact ⟨A, c, rfl, h1, hb⟩
theorem rscDec_no {l : List UInt8} (h : scO l = none) (w : World) (hl : l.length ≤ 1000000) :
    Calls Try.prog 28 #[.string (S l)] w
      fun e w' => ∃ A c, e = .returned (.tuple #[.agg #[.int .i64 0, .slice A 0 c, .string (S [])], .bool false]) ∧ Below w.heap.size w w' := by
  refine (rscDec_any l w hl).mono ?_
  rintro e w' ⟨A, n, c, rfl, h1, hb⟩
  unfold rscD at h1 ⊢
  rw [rscO_eq, h] at h1 ⊢
  have hn := h1.lenOne
  simp only [Option.getD_none, List.length_nil] at hn
  subst hn
  exact ⟨A, c, rfl, hb⟩

def wkP : List (List UInt8) := [[0, 0, 0, 0, 0, 0]]
def wkK : List UInt8 := [0, 8]
theorem wkS_may : mayS 4 wkP wkK = true := by decide
theorem wkS_bytes : scB 4 wkP wkK = [4, 1, 1, 0, 0, 0, 0, 0, 0, 0, 8] := by decide
theorem wkS_encS : scS 4 wkP wkK = [4, 1, 1, 0, 0, 0, 0, 0, 0, 0, 8] := by unfold scS; rw [wkS_may, ← wkS_bytes]; rfl
theorem wkS_encE : scE 4 wkP wkK = 0 := by unfold scE; rw [wkS_may]; rfl
theorem wkS_dec : scO [4, 1, 1, 0, 0, 0, 0, 0, 0, 0, 8] = some (4, wkP, wkK) := by rw [← wkS_bytes]; exact scO_scB wkS_may
theorem wkS_bad : scO [4, 1, 1, 0, 0, 0, 0, 0, 0, 0, 8, 9] = none := scO_no3 (ps := wkP) (pk := [0, 8, 9]) (by decide) (by decide)

set_option maxRecDepth 100000 in
set_option maxHeartbeats 2000000 in
theorem wakes18_any (w : World) : Calls Try.prog 21 #[] w fun e w' => e = .returned (.bool true) ∧ Below w.heap.size w w' := by
  have hb0 : Below w.heap.size w ((w.alloc (.cells (wkP.map strV).toArray 9)).alloc (.cells (wkK.map byteV).toArray 5)) := ((Below.refl _ _).alloc (Nat.le_refl _) _).alloc (by simp) _
  have hr0 : Rd ((w.alloc (.cells (wkP.map strV).toArray 9)).alloc (.cells (wkK.map byteV).toArray 5)) ((w.alloc (.cells (wkP.map strV).toArray 9)).alloc (.cells (wkK.map byteV).toArray 5)).heap.size 1 (some ⟨w.heap.size, 0, none⟩) 1 (wkP.map strV) :=
    ((Rd.of_new w (wkP.map strV) 9 w.heap.size rfl rfl).below ((Below.refl _ _).alloc (by simp) _)).mono (by simp)
  have hr1 : Rd ((w.alloc (.cells (wkP.map strV).toArray 9)).alloc (.cells (wkK.map byteV).toArray 5)) ((w.alloc (.cells (wkP.map strV).toArray 9)).alloc (.cells (wkK.map byteV).toArray 5)).heap.size 1 (some ⟨w.heap.size + 1, 0, none⟩) 2 (wkK.map byteV) :=
    (Rd.of_new (w.alloc (.cells (wkP.map strV).toArray 9)) (wkK.map byteV) 5 (w.heap.size + 1) (by simp) rfl).mono (by simp)
  go_enter Try.func21, Try.ntmps21
  go_wp2_with fail
  refine (scrEnc_any 4 wkP wkK (some ⟨w.heap.size, 0, none⟩) (some ⟨w.heap.size + 1, 0, none⟩) 1 1 2 2 _ hr0 hr1 (by decide) (by omega) (by omega)).mono ?_
  rintro e w1 ⟨rfl, hb1⟩
  rw [wkS_encS, wkS_encE]
  have hb01 := bt hb0 hb1
  clear hr0 hr1 hb0 hb1
  go_wp2_with fail
  refine (scrDec_yes wkS_dec w1 (by simp)).mono ?_
  rintro e w2 ⟨A, c, A2, c2, rfl, h1, h2, hb2⟩
  have hb02 := bt hb01 hb2
  have hb3 : Below w2.heap.size w2 (w2.alloc (.cells #[.int .i64 4, .slice A wkP.length c, .slice A2 wkK.length c2] 49)) := (Below.refl _ _).alloc (Nat.le_refl _) _
  have hbx3 := Bx.new w2 #[.int .i64 4, .slice A wkP.length c, .slice A2 wkK.length c2] 49 w2.heap.size rfl
  have h13 := h1.to hb3
  have h23 := h2.to hb3
  have hb03 := bt hb02 hb3
  clear h1 h2 hb01 hb2 hb02 hb3
  go_wp2_with fail
  refine (scrDec_no wkS_bad _ (by simp)).mono ?_
  rintro e w4 ⟨A4, c4, A5, c5, rfl, hb4⟩
  have hb04 := bt hb03 hb4
  have hbx4 := hbx3.to hb4
  have h14 := h13.to hb4
  have h24 := h23.to hb4
  have hb5 : Below w4.heap.size w4 (w4.alloc (.cells #[.int .i64 0, .slice A4 0 c4, .slice A5 0 c5] 49)) := (Below.refl _ _).alloc (Nat.le_refl _) _
  have hbx5 := hbx4.to hb5
  have h15 := h14.to hb5
  have h25 := h24.to hb5
  have hb05 := bt hb04 hb5
  have c50 := hbx5.cell 0
  have c51 := hbx5.cell 1
  have c52 := hbx5.cell 2
  clear hbx3 h13 h23 hb03 hb4 hb04 hbx4 h14 h24 hb5 hbx5
  have k1 : wkP.length = 1 := rfl
  have k2 : wkK.length = 2 := rfl
  rw [k1] at *
  rw [k2] at *
  go_wp2_with fail
  refine (scrMay_any 4 wkP wkK A A2 1 c 2 c2 _ h15 h25 (by decide) (by omega) (by omega)).mono ?_
  rintro e w6 ⟨rfl, hb6⟩
  rw [wkS_may]
  go_wp2
  go_ret
  exact ⟨rfl, bt hb05 hb6⟩
end Go.Proofs.Ytnhnofiimidagaa
