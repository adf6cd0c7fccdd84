/-
  The walk of bailiwicklaw14.wakes.
-/
import Derived.Test.YtmiagijgecgfoaaTRStep2
namespace Go.Proofs.Ytmiagijgecgfoaa
open Go.RowKit

def wk14 : List Ins := [⟨1, 6, 0, 0, 5⟩, ⟨17, 1, 0, 0, 0⟩]
theorem wk14_ok : ∀ x ∈ wk14, x.ok := by
  intro x hx
  simp only [wk14, List.mem_cons, List.not_mem_nil, or_false] at hx
  rcases hx with rfl | rfl <;> (unfold Ins.ok; decide)
theorem wk14_may : mayP wk14 = true := by decide
theorem wk14_prog : Prog wk14 := ⟨wk14_ok, wk14_may⟩
def rg0 : Nat → Int := fun _ => 0
def rg1 : Nat → Int := upd rg0 6 5
def rg2 : Nat → Int := upd (upd (upd rg1 1 3) 4 9) 7 0
theorem wk14_encS : encS wk14 = [1, 6, 0, 0, 5, 0, 17, 1, 0, 0, 0, 0] := by decide
theorem wk14_encE : encE wk14 = 0 := by decide
theorem wk14_decE : decE [1, 6, 0, 0, 5, 0, 17, 1, 0, 0, 0, 0] = 0 := by decide
theorem wk14_decL : decL [1, 6, 0, 0, 5, 0, 17, 1, 0, 0, 0, 0] = wk14 := by unfold decL; rw [if_pos (by decide)]; rfl

set_option maxRecDepth 100000 in
set_option maxHeartbeats 4000000 in
theorem wakes14_any (w : World) : Calls Try.prog 11 #[] w fun e w' => e = .returned (.bool true) ∧ Below w.heap.size w w' := by
  have hb0 : Below w.heap.size w (w.alloc (.cells (wk14.flatMap Ins.cu).toArray 85)) := (Below.refl _ _).alloc (Nat.le_refl _) _
  have hr0 : Rd (w.alloc (.cells (wk14.flatMap Ins.cu).toArray 85)) (w.alloc (.cells (wk14.flatMap Ins.cu).toArray 85)).heap.size 5 (some ⟨w.heap.size, 0, none⟩) 2 (wk14.flatMap Ins.cu) :=
    (Rd.of_new w (wk14.flatMap Ins.cu) 85 w.heap.size rfl rfl).mono (by simp)
  go_enter Try.func11, Try.ntmps11
  go_wp2_with fail
  refine (enc_any (some ⟨w.heap.size, 0, none⟩) 2 2 wk14 _ (by omega) hr0 wk14_ok).mono ?_
  rintro e w1 ⟨rfl, hb1⟩
  rw [wk14_encS, wk14_encE]
  have hb2 := bt hb0 hb1
  clear hr0 hb0 hb1
  go_wp2_with fail
  refine (of14_any [1, 6, 0, 0, 5, 0, 17, 1, 0, 0, 0, 0] w1 (by simp)).mono ?_
  rintro e w2 ⟨A, c, rfl, hr1, hb1⟩
  rw [wk14_decE]
  rw [wk14_decL] at hr1 ⊢
  rw [show wk14.length = 2 from rfl] at hr1 ⊢
  simp only [tskV, tskC]
  have hbw := bt hb2 hb1
  have HRD := hide (fun (W : World) (hb : Below w2.heap.size w2 W) => (hr1.below hb).mono hb.size)
  clear hr1 hb1 hb2
  go_upto_region 3 with fail
  refine nameW ?_
  intro W0 hW0
  have hb0 : Below w2.heap.size w2 W0 := by rw [hW0]; exact (Below.refl _ _).alloc (Nat.le_refl _) _
  have hx0 : Bx W0 w2.heap.size (tskC A 2 c 0 rg0) := by rw [hW0]; exact Bx.new _ _ _ _ rfl
  have hW1 := wants_any (A := A) (n := 2) (c := c) (nx := 0) (r := rg0) (w := W0) (l := wk14) wk14_prog (unhide HRD _ hb0)
  have e1 : wP wk14 0 rg0 = (0, 0, 0, 0, 0, 0) := by decide
  have e2 : wB wk14 0 = false := by decide
  rw [e1, e2] at hW1
  simp only [tskV, tskC, callP, callV] at hW1
  have HW := hide hW1
  clear hW0 hW1 e1 e2
  have a0 : (_ : Option Value) = some (.slice A 2 c) := hx0.cell 0
  have a1 : (_ : Option Value) = some (.int .i64 (0:Nat)) := hx0.cell 1
  have a2 : (_ : Option Value) = some (.int .u64 (rg0 0)) := hx0.cell 2
  have a3 : (_ : Option Value) = some (.int .u64 (rg0 1)) := hx0.cell 3
  have a4 : (_ : Option Value) = some (.int .u64 (rg0 2)) := hx0.cell 4
  have a5 : (_ : Option Value) = some (.int .u64 (rg0 3)) := hx0.cell 5
  have a6 : (_ : Option Value) = some (.int .u64 (rg0 4)) := hx0.cell 6
  have a7 : (_ : Option Value) = some (.int .u64 (rg0 5)) := hx0.cell 7
  have a8 : (_ : Option Value) = some (.int .u64 (rg0 6)) := hx0.cell 8
  have a9 : (_ : Option Value) = some (.int .u64 (rg0 7)) := hx0.cell 9
  go_wp2_with fail
  refine (unhide HW).mono ?_
  rintro e w3 ⟨rfl, hb1⟩
  clear a0 a1 a2 a3 a4 a5 a6 a7 a8 a9 HW
  go_upto_region 4 with fail
  refine nameW ?_
  intro W1 hW1
  have hby : Below w3.heap.size w3 W1 := by rw [hW1]; exact (Below.refl _ _).alloc (Nat.le_refl _) _
  have hx1 := (hx0.to hb1).to hby
  have hb2 := bt (bt hb0 hb1) hby
  have hS := step_any (A := A) (n := 2) (c := c) (nx := 0) (r := rg0) (w := W1) (l := wk14) wk14_prog (unhide HRD _ hb2) (by omega)
  have e1 : sN wk14 0 rg0 = 1 := by decide
  have e2 : sR wk14 0 rg0 = rg1 := rfl
  rw [e1, e2] at hS
  simp only [tskV, tskC] at hS
  have HS := hide hS
  clear hW1 hb0 hb1 hby hx0 e1 e2 hS
  have a0 : (_ : Option Value) = some (.slice A 2 c) := hx1.cell 0
  have a1 : (_ : Option Value) = some (.int .i64 (0:Nat)) := hx1.cell 1
  have a2 : (_ : Option Value) = some (.int .u64 (rg0 0)) := hx1.cell 2
  have a3 : (_ : Option Value) = some (.int .u64 (rg0 1)) := hx1.cell 3
  have a4 : (_ : Option Value) = some (.int .u64 (rg0 2)) := hx1.cell 4
  have a5 : (_ : Option Value) = some (.int .u64 (rg0 3)) := hx1.cell 5
  have a6 : (_ : Option Value) = some (.int .u64 (rg0 4)) := hx1.cell 6
  have a7 : (_ : Option Value) = some (.int .u64 (rg0 5)) := hx1.cell 7
  have a8 : (_ : Option Value) = some (.int .u64 (rg0 6)) := hx1.cell 8
  have a9 : (_ : Option Value) = some (.int .u64 (rg0 7)) := hx1.cell 9
  go_wp2_with fail
  refine (unhide HS).mono ?_
  rintro e w4 ⟨rfl, hb1⟩
  clear a0 a1 a2 a3 a4 a5 a6 a7 a8 a9 HS
  have hx2 := hx1.to hb1
  have hb4 := bt hb2 hb1
  clear hx1 hb1 hb2
  have a0 : (_ : Option Value) = some (.slice A 2 c) := hx2.cell 0
  have af0 := hx2.frozen 0
  have a1 : (_ : Option Value) = some (.int .i64 (0:Nat)) := hx2.cell 1
  have af1 := hx2.frozen 1
  have a2 : (_ : Option Value) = some (.int .u64 (rg0 0)) := hx2.cell 2
  have af2 := hx2.frozen 2
  have a3 : (_ : Option Value) = some (.int .u64 (rg0 1)) := hx2.cell 3
  have af3 := hx2.frozen 3
  have a4 : (_ : Option Value) = some (.int .u64 (rg0 2)) := hx2.cell 4
  have af4 := hx2.frozen 4
  have a5 : (_ : Option Value) = some (.int .u64 (rg0 3)) := hx2.cell 5
  have af5 := hx2.frozen 5
  have a6 : (_ : Option Value) = some (.int .u64 (rg0 4)) := hx2.cell 6
  have af6 := hx2.frozen 6
  have a7 : (_ : Option Value) = some (.int .u64 (rg0 5)) := hx2.cell 7
  have af7 := hx2.frozen 7
  have a8 : (_ : Option Value) = some (.int .u64 (rg0 6)) := hx2.cell 8
  have af8 := hx2.frozen 8
  have a9 : (_ : Option Value) = some (.int .u64 (rg0 7)) := hx2.cell 9
  have af9 := hx2.frozen 9
  go_upto_region 5 with fail
  refine nameW ?_
  intro W2 hW2
  have hx3 := hx2.ten (.slice A 2 c) (.int .i64 (1:Int)) (.int .u64 (rg1 0)) (.int .u64 (rg1 1)) (.int .u64 (rg1 2)) (.int .u64 (rg1 3)) (.int .u64 (rg1 4)) (.int .u64 (rg1 5)) (.int .u64 (rg1 6)) (.int .u64 (rg1 7))
  have hb5 := below_ten (w0 := w2) (g := w2.heap.size) hb4 (Nat.le_refl _) (.slice A 2 c) (.int .i64 (1:Int)) (.int .u64 (rg1 0)) (.int .u64 (rg1 1)) (.int .u64 (rg1 2)) (.int .u64 (rg1 3)) (.int .u64 (rg1 4)) (.int .u64 (rg1 5)) (.int .u64 (rg1 6)) (.int .u64 (rg1 7))
  rw [← hW2] at hx3 hb5
  clear hW2 hx2 hb4 a0 a1 a2 a3 a4 a5 a6 a7 a8 a9 af0 af1 af2 af3 af4 af5 af6 af7 af8 af9
  have hW1 := wants_any (A := A) (n := 2) (c := c) (nx := 1) (r := rg1) (w := W2) (l := wk14) wk14_prog (unhide HRD _ hb5)
  have e1 : wP wk14 1 rg1 = (1, 0, 0, 5, 0, 0) := by decide
  have e2 : wB wk14 1 = true := by decide
  rw [e1, e2] at hW1
  simp only [tskV, tskC, callP, callV] at hW1
  have HW := hide hW1
  clear hW1 e1 e2
  have a0 : (_ : Option Value) = some (.slice A 2 c) := hx3.cell 0
  have a1 : (_ : Option Value) = some (.int .i64 (1:Int)) := hx3.cell 1
  have a2 : (_ : Option Value) = some (.int .u64 (rg1 0)) := hx3.cell 2
  have a3 : (_ : Option Value) = some (.int .u64 (rg1 1)) := hx3.cell 3
  have a4 : (_ : Option Value) = some (.int .u64 (rg1 2)) := hx3.cell 4
  have a5 : (_ : Option Value) = some (.int .u64 (rg1 3)) := hx3.cell 5
  have a6 : (_ : Option Value) = some (.int .u64 (rg1 4)) := hx3.cell 6
  have a7 : (_ : Option Value) = some (.int .u64 (rg1 5)) := hx3.cell 7
  have a8 : (_ : Option Value) = some (.int .u64 (rg1 6)) := hx3.cell 8
  have a9 : (_ : Option Value) = some (.int .u64 (rg1 7)) := hx3.cell 9
  go_wp2_with fail
  refine (unhide HW).mono ?_
  rintro e w5 ⟨rfl, hb1⟩
  clear a0 a1 a2 a3 a4 a5 a6 a7 a8 a9 HW
  go_upto_region 6 with fail
  refine nameW ?_
  intro W3 hW3
  have hby : Below w5.heap.size w5 W3 := by rw [hW3]; exact (Below.refl _ _).alloc (Nat.le_refl _) _
  have hy3 : Bx W3 w5.heap.size #[.int .u8 1, .int .u32 0, .int .u32 0, .int .u32 5, .int .u32 0, .int .u64 0] := by rw [hW3]; exact Bx.new _ _ _ _ rfl
  have hx4 := (hx3.to hb1).to hby
  have hb6 := bt (bt hb5 hb1) hby
  have hne : w5.heap.size ≠ w2.heap.size := by have := (hx3.to hb1).lt; omega
  clear hW3 hx3 hb1 hby hb5
  have hS := takes_any (A := A) (n := 2) (c := c) (nx := 1) (r := rg1) (w := W3) (l := wk14) wk14_prog (unhide HRD _ hb6) (by decide) 0 3 9 (by omega) (by omega)
  have e1 : tN wk14 1 = 2 := by decide
  have e2 : tR wk14 1 rg1 0 3 9 = rg2 := rfl
  rw [e1, e2] at hS
  simp only [tskV, tskC, resV] at hS
  have HS := hide hS
  clear e1 e2 hS
  have a0 : (_ : Option Value) = some (.slice A 2 c) := hx4.cell 0
  have a1 : (_ : Option Value) = some (.int .i64 (1:Int)) := hx4.cell 1
  have a2 : (_ : Option Value) = some (.int .u64 (rg1 0)) := hx4.cell 2
  have a3 : (_ : Option Value) = some (.int .u64 (rg1 1)) := hx4.cell 3
  have a4 : (_ : Option Value) = some (.int .u64 (rg1 2)) := hx4.cell 4
  have a5 : (_ : Option Value) = some (.int .u64 (rg1 3)) := hx4.cell 5
  have a6 : (_ : Option Value) = some (.int .u64 (rg1 4)) := hx4.cell 6
  have a7 : (_ : Option Value) = some (.int .u64 (rg1 5)) := hx4.cell 7
  have a8 : (_ : Option Value) = some (.int .u64 (rg1 6)) := hx4.cell 8
  have a9 : (_ : Option Value) = some (.int .u64 (rg1 7)) := hx4.cell 9
  go_wp2_with fail
  refine (unhide HS).mono ?_
  rintro e w6 ⟨rfl, hb1⟩
  clear a0 a1 a2 a3 a4 a5 a6 a7 a8 a9 HS
  have hx5 := hx4.to hb1
  have hy5 := hy3.to hb1
  have hb7 := bt hb6 hb1
  clear hx4 hb1 hb6 hy3
  have a0 : (_ : Option Value) = some (.slice A 2 c) := hx5.cell 0
  have af0 := hx5.frozen 0
  have a1 : (_ : Option Value) = some (.int .i64 (1:Int)) := hx5.cell 1
  have af1 := hx5.frozen 1
  have a2 : (_ : Option Value) = some (.int .u64 (rg1 0)) := hx5.cell 2
  have af2 := hx5.frozen 2
  have a3 : (_ : Option Value) = some (.int .u64 (rg1 1)) := hx5.cell 3
  have af3 := hx5.frozen 3
  have a4 : (_ : Option Value) = some (.int .u64 (rg1 2)) := hx5.cell 4
  have af4 := hx5.frozen 4
  have a5 : (_ : Option Value) = some (.int .u64 (rg1 3)) := hx5.cell 5
  have af5 := hx5.frozen 5
  have a6 : (_ : Option Value) = some (.int .u64 (rg1 4)) := hx5.cell 6
  have af6 := hx5.frozen 6
  have a7 : (_ : Option Value) = some (.int .u64 (rg1 5)) := hx5.cell 7
  have af7 := hx5.frozen 7
  have a8 : (_ : Option Value) = some (.int .u64 (rg1 6)) := hx5.cell 8
  have af8 := hx5.frozen 8
  have a9 : (_ : Option Value) = some (.int .u64 (rg1 7)) := hx5.cell 9
  have af9 := hx5.frozen 9
  go_upto_region 7 with fail
  refine nameW ?_
  intro W4 hW4
  have hx6 := hx5.ten (.slice A 2 c) (.int .i64 (2:Int)) (.int .u64 (rg2 0)) (.int .u64 (rg2 1)) (.int .u64 (rg2 2)) (.int .u64 (rg2 3)) (.int .u64 (rg2 4)) (.int .u64 (rg2 5)) (.int .u64 (rg2 6)) (.int .u64 (rg2 7))
  have hb8 := below_ten (w0 := w2) (g := w2.heap.size) hb7 (Nat.le_refl _) (.slice A 2 c) (.int .i64 (2:Int)) (.int .u64 (rg2 0)) (.int .u64 (rg2 1)) (.int .u64 (rg2 2)) (.int .u64 (rg2 3)) (.int .u64 (rg2 4)) (.int .u64 (rg2 5)) (.int .u64 (rg2 6)) (.int .u64 (rg2 7))
  have hy6 := (((((((((hy5.far (p := ⟨w2.heap.size, 0, none⟩) hne.symm (.slice A 2 c)).far (p := ⟨w2.heap.size, 1, none⟩) hne.symm (.int .i64 2)).far (p := ⟨w2.heap.size, 2, none⟩) hne.symm (.int .u64 (rg2 0))).far (p := ⟨w2.heap.size, 3, none⟩) hne.symm (.int .u64 (rg2 1))).far (p := ⟨w2.heap.size, 4, none⟩) hne.symm (.int .u64 (rg2 2))).far (p := ⟨w2.heap.size, 5, none⟩) hne.symm (.int .u64 (rg2 3))).far (p := ⟨w2.heap.size, 6, none⟩) hne.symm (.int .u64 (rg2 4))).far (p := ⟨w2.heap.size, 7, none⟩) hne.symm (.int .u64 (rg2 5))).far (p := ⟨w2.heap.size, 8, none⟩) hne.symm (.int .u64 (rg2 6))).far (p := ⟨w2.heap.size, 9, none⟩) hne.symm (.int .u64 (rg2 7))
  rw [← hW4] at hx6 hb8 hy6
  clear hW4 hx5 hb7 hy5 a0 a1 a2 a3 a4 a5 a6 a7 a8 a9 af0 af1 af2 af3 af4 af5 af6 af7 af8 af9
  have hW1 := wants_any (A := A) (n := 2) (c := c) (nx := 2) (r := rg2) (w := W4) (l := wk14) wk14_prog (unhide HRD _ hb8)
  have e1 : wP wk14 2 rg2 = (20, 0, 0, 0, 0, 0) := by decide
  have e2 : wB wk14 2 = true := by decide
  rw [e1, e2] at hW1
  simp only [tskV, tskC, callP, callV] at hW1
  have HW := hide hW1
  clear hW1 e1 e2
  have a0 : (_ : Option Value) = some (.slice A 2 c) := hx6.cell 0
  have a1 : (_ : Option Value) = some (.int .i64 (2:Int)) := hx6.cell 1
  have a2 : (_ : Option Value) = some (.int .u64 (rg2 0)) := hx6.cell 2
  have a3 : (_ : Option Value) = some (.int .u64 (rg2 1)) := hx6.cell 3
  have a4 : (_ : Option Value) = some (.int .u64 (rg2 2)) := hx6.cell 4
  have a5 : (_ : Option Value) = some (.int .u64 (rg2 3)) := hx6.cell 5
  have a6 : (_ : Option Value) = some (.int .u64 (rg2 4)) := hx6.cell 6
  have a7 : (_ : Option Value) = some (.int .u64 (rg2 5)) := hx6.cell 7
  have a8 : (_ : Option Value) = some (.int .u64 (rg2 6)) := hx6.cell 8
  have a9 : (_ : Option Value) = some (.int .u64 (rg2 7)) := hx6.cell 9
  go_wp2_with fail
  refine (unhide HW).mono ?_
  rintro e w7 ⟨rfl, hb1⟩
  clear a0 a1 a2 a3 a4 a5 a6 a7 a8 a9 HW
  go_upto_region 8 with fail
  refine nameW ?_
  intro W5 hW5
  have hby : Below w7.heap.size w7 W5 := by rw [hW5]; exact (Below.refl _ _).alloc (Nat.le_refl _) _
  have hz5 : Bx W5 w7.heap.size #[.int .u8 20, .int .u32 0, .int .u32 0, .int .u32 0, .int .u32 0, .int .u64 0] := by rw [hW5]; exact Bx.new _ _ _ _ rfl
  have hx7 := (hx6.to hb1).to hby
  have hy7 := (hy6.to hb1).to hby
  have hb9 := bt (bt hb8 hb1) hby
  have hbF := bt hbw hb9
  clear hW5 hx6 hy6 hb1 hby hb8 hb9 hbw HRD hne
  have c4 : (_ : Option Value) = some (.int .u64 9) := hx7.cell 6
  have c1 : (_ : Option Value) = some (.int .u64 3) := hx7.cell 3
  have y0 := hy7.cell 0
  have y1 := hy7.cell 1
  have y2 := hy7.cell 2
  have y3 := hy7.cell 3
  have y4 := hy7.cell 4
  have y5 := hy7.cell 5
  have z0 := hz5.cell 0
  clear hx7 hy7 hz5
  go_wp2
  go_ret
  exact ⟨rfl, hbF⟩
end Go.Proofs.Ytmiagijgecgfoaa
