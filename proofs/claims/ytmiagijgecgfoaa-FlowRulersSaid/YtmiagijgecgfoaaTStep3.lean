/-
  The walk of task.Step at a call; task.Step under one contract.
-/
import Derived.Test.YtmiagijgecgfoaaTPlain
namespace Go.Proofs.Ytmiagijgecgfoaa
open Go.RowKit

section
variable {l : List Ins} {A : Option Addr} {n c nx : Nat} {r : Nat → Int} {w : World}

set_option maxRecDepth 100000 in
set_option maxHeartbeats 2000000 in
theorem step_call (hp : Prog l) (hr : Rd w w.heap.size 5 A n (l.flatMap Ins.cu)) (hc : wB l nx = true) :
    Calls Try.prog 17 #[tskV A n c nx r] w fun e w' => e = .returned (tskV A n c nx r) ∧ Below w.heap.size w w' := by
  have hb0 : Below w.heap.size w ((w.alloc (.cells (tskC A n c nx r) 28)).alloc (.cells (tskC none 0 0 0 (fun _ => 0)) 28)) := ((Below.refl _ _).alloc (Nat.le_refl _) _).alloc (by simp) _
  have hx0 : Bx ((w.alloc (.cells (tskC A n c nx r) 28)).alloc (.cells (tskC none 0 0 0 (fun _ => 0)) 28)) w.heap.size (tskC A n c nx r) := (Bx.new _ _ _ _ rfl).alloc _
  have hy0 : Bx ((w.alloc (.cells (tskC A n c nx r) 28)).alloc (.cells (tskC none 0 0 0 (fun _ => 0)) 28)) (w.heap.size + 1) (tskC none 0 0 0 (fun _ => 0)) := Bx.new _ _ _ _ (by simp)
  have hr0 := hr.to hb0
  have hW := fun w h => wants_any (A := A) (n := n) (c := c) (nx := nx) (r := r) (w := w) (l := l) hp h
  rw [hc] at hW
  obtain ⟨⟨p0, p1, p2, p3, p4, p5⟩, hq⟩ : ∃ q, wP l nx r = q := ⟨_, rfl⟩
  rw [hq] at hW
  simp only [tskV, tskC, callP, callV] at hW hx0 hy0 hr0 hb0 ⊢
  have HW := hide hW
  clear hW hr hq hc
  go_enter Try.func17, Try.ntmps17
  go_wp2_with fail
  refine (unhide HW _ hr0).mono ?_
  rintro e w1 ⟨rfl, hb1⟩
  have hby : Below w1.heap.size w1 (w1.alloc (.cells #[.int .u8 p0, .int .u32 p1, .int .u32 p2, .int .u32 p3, .int .u32 p4, .int .u64 p5] 40)) := (Below.refl _ _).alloc (Nat.le_refl _) _
  have hx1 := (hx0.to hb1).to hby
  have hy1 := (hy0.to hb1).to hby
  have hb2 := bt (bt hb0 hb1) hby
  have a0 := hx1.cell 0
  have a1 := hx1.cell 1
  have a2 := hx1.cell 2
  have a3 := hx1.cell 3
  have a4 := hx1.cell 4
  have a5 := hx1.cell 5
  have a6 := hx1.cell 6
  have a7 := hx1.cell 7
  have a8 := hx1.cell 8
  have a9 := hx1.cell 9
  have e0 := hy1.cell 0
  have ef0 := hy1.frozen 0
  have e1 := hy1.cell 1
  have ef1 := hy1.frozen 1
  have e2 := hy1.cell 2
  have ef2 := hy1.frozen 2
  have e3 := hy1.cell 3
  have ef3 := hy1.frozen 3
  have e4 := hy1.cell 4
  have ef4 := hy1.frozen 4
  have e5 := hy1.cell 5
  have ef5 := hy1.frozen 5
  have e6 := hy1.cell 6
  have ef6 := hy1.frozen 6
  have e7 := hy1.cell 7
  have ef7 := hy1.frozen 7
  have e8 := hy1.cell 8
  have ef8 := hy1.frozen 8
  have e9 := hy1.cell 9
  have ef9 := hy1.frozen 9
  have hyF := hy1.ten (.slice A n c) (.int .i64 nx) (.int .u64 (r 0)) (.int .u64 (r 1)) (.int .u64 (r 2)) (.int .u64 (r 3)) (.int .u64 (r 4)) (.int .u64 (r 5)) (.int .u64 (r 6)) (.int .u64 (r 7))
  have hbF := below_ten (g := w.heap.size + 1) hb2 (by omega) (.slice A n c) (.int .i64 nx) (.int .u64 (r 0)) (.int .u64 (r 1)) (.int .u64 (r 2)) (.int .u64 (r 3)) (.int .u64 (r 4)) (.int .u64 (r 5)) (.int .u64 (r 6)) (.int .u64 (r 7))
  have HFX := hide hyF
  have HBF := hide hbF
  clear hb0 hx0 hy0 hr0 hb1 hby hyF hbF hx1 hy1 hb2
  go_wp2
  have x0 := (unhide HFX).cell 0
  have x1 := (unhide HFX).cell 1
  have x2 := (unhide HFX).cell 2
  have x3 := (unhide HFX).cell 3
  have x4 := (unhide HFX).cell 4
  have x5 := (unhide HFX).cell 5
  have x6 := (unhide HFX).cell 6
  have x7 := (unhide HFX).cell 7
  have x8 := (unhide HFX).cell 8
  have x9 := (unhide HFX).cell 9
  refine bodyPost_ret (v := .agg #[.slice A n c, .int .i64 nx, .int .u64 (r 0), .int .u64 (r 1), .int .u64 (r 2), .int .u64 (r 3), .int .u64 (r 4), .int .u64 (r 5), .int .u64 (r 6), .int .u64 (r 7)]) (by simp [results, Try.results17, go_sem, x0, x1, x2, x3, x4, x5, x6, x7, x8, x9]) rfl ⟨rfl, HBF.out⟩

theorem step_any (hp : Prog l) (hr : Rd w w.heap.size 5 A n (l.flatMap Ins.cu)) (hn : n ≤ 1000) :
    Calls Try.prog 17 #[tskV A n c nx r] w fun e w' => e = .returned (tskV A n c (sN l nx r) (sR l nx r)) ∧ Below w.heap.size w w' := by
  by_cases hB : wB l nx = true
  · have e1 : sN l nx r = nx := by
      unfold wB at hB; unfold sN
      split
      · rfl
      · rename_i x hx
        rw [hx] at hB
        simp only [decide_eq_true_eq] at hB
        rw [if_pos hB]
    have e2 : sR l nx r = r := by
      unfold wB at hB; unfold sR
      split
      · rfl
      · rename_i x hx
        rw [hx] at hB
        simp only [decide_eq_true_eq] at hB
        rw [if_neg (by omega), if_neg (by omega), if_neg (by omega), if_neg (by omega)]
    rw [e1, e2]
    exact step_call hp hr hB
  · cases hx : l[nx]? with
    | none => exact absurd (by unfold wB; rw [hx]) hB
    | some x =>
      obtain ⟨xo, ka, kb, kc, kn, rfl, ha, hb, hc, hk, ho, hj⟩ := hp.get hx
      have hB' : ¬ ((xo : Int) = 0 ∨ 16 < (xo : Int)) := fun h => hB (by unfold wB; rw [hx]; simpa using h)
      have hN : sN l nx r = if (xo : Int) = 5 ∨ (xo : Int) = 6 ∧ r ka ≠ 0 then kn else nx + 1 := by
        unfold sN; rw [hx]; simp only [Int.toNat_natCast]; rw [if_neg hB']
      have hR : sR l nx r = if (xo : Int) = 1 then upd r ka kn else if (xo : Int) = 2 then upd r ka (IntKind.u64.wrap (r kb + r kc)) else if (xo : Int) = 3 then upd r ka (IntKind.u64.wrap (r kb - r kc)) else if (xo : Int) = 4 then upd r ka (shlV (r kb) kn) else r := by
        unfold sR; rw [hx]; simp only [Int.toNat_natCast]
      rw [hN, hR]
      have hc6 : xo = 1 ∨ xo = 2 ∨ xo = 3 ∨ xo = 4 ∨ xo = 5 ∨ xo = 6 := by omega
      clear hN hR hB hB' ho
      rcases hc6 with rfl | rfl | rfl | rfl | rfl | rfl
      · exact step_set hr hx hn ha (by omega) (by omega)
      · exact step_add hr hx hn ha hb hc
      · exact step_sub hr hx hn ha hb hc
      · exact step_shl hr hx hn ha hb (by omega)
      · exact step_jump hr hx hn ha (by omega) (by omega) kn rfl
      · by_cases hz : r ka = 0
        · rw [if_neg (by simp [hz])]
          exact step_else hr hx hn ha hz
        · rw [if_pos (by simp [hz])]
          exact step_if hr hx hn ha (by omega) (by omega) kn rfl hz
end
end Go.Proofs.Ytmiagijgecgfoaa
