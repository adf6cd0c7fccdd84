/-
  The walk of bailiwickref14.Task.Takes, at a call.
-/
import Derived.Test.YtmiagijgecgfoaaTRWants
namespace Go.Proofs.Ytmiagijgecgfoaa
open Go.RowKit

def rresV (e v h : Int) : Value := .agg #[.int .i64 e, .int .u64 v, .int .i64 h]

section
variable {l : List Ins} {A : Option Addr} {n c nx : Nat} {r : Nat → Int} {w : World}

set_option maxRecDepth 100000 in
set_option maxHeartbeats 4000000 in
theorem rtakes_in (hp : Prog l) (hr : Rd w w.heap.size 5 A n (l.flatMap Ins.ci)) (hu : U64 r) (hc : wB l nx = true) {xo ka kb kc kn : Nat} (hx : l[nx]? = some ⟨xo, ka, kb, kc, kn⟩) (hka : ka < 8) (e v h : Int) (hh : 0 ≤ h ∧ h ≤ 4294967295) (hn : n ≤ 1000) :
    Calls Try.prog 21 #[tskV A n c nx r, rresV e v h] w fun e' w' => e' = .returned (tskV A n c (nx + 1) (upd (upd (upd r ka v) 4 h) 7 (IntKind.u64.wrap e))) ∧ Below w.heap.size w w' := by
  have hln := hr.lenI
  have hlt : nx < n := by have := (List.getElem?_eq_some_iff.1 hx).1; omega
  have hW := fun w h => rwants_any (A := A) (n := n) (c := c) (nx := nx) (r := r) (w := w) (l := l) hp h hu
  rw [hc] at hW
  obtain ⟨⟨p0, p1, p2, p3, p4, p5⟩, hq⟩ : ∃ q, wP l nx r = q := ⟨_, rfl⟩
  rw [hq] at hW
  have wh : IntKind.u64.wrap h = h := IntWalk.u64_in _ (by omega)
  simp only [tskV, tskC, rcallV, rcallP, rresV] at hW ⊢
  have HW := hide hW
  have HR := hide hr
  have HX := hide hx
  clear hW hr hq hc hx hln hu
  go_enter Try.func21, Try.ntmps21
  go_upto_region 1 with fail
  refine nameW ?_
  intro W0 hW0
  have hb0 : Below w.heap.size w W0 := by rw [hW0]; exact (((Below.refl _ _).alloc (Nat.le_refl _) _).alloc (by simp) _).alloc (by simp; omega) _
  have hx0 : Bx W0 w.heap.size (tskC A n c nx r) := by rw [hW0]; exact ((Bx.new _ _ _ _ rfl).alloc _).alloc _
  have hy0 : Bx W0 (w.heap.size + 1) #[.int .i64 e, .int .u64 v, .int .i64 h] := by rw [hW0]; exact (Bx.new _ _ _ _ (by simp)).alloc _
  have hz0 : Bx W0 (w.heap.size + 1 + 1) (tskC none 0 0 0 (fun _ => 0)) := by rw [hW0]; exact Bx.new _ _ _ _ (by simp)
  have hr0 := (unhide HR).to hb0
  clear hW0 HR
  have a0 : (_ : Option Value) = some (.slice A n c) := hx0.cell 0
  have a1 : (_ : Option Value) = some (.int .i64 nx) := hx0.cell 1
  have a2 : (_ : Option Value) = some (.int .u64 (r 0)) := hx0.cell 2
  have a3 : (_ : Option Value) = some (.int .u64 (r 1)) := hx0.cell 3
  have a4 : (_ : Option Value) = some (.int .u64 (r 2)) := hx0.cell 4
  have a5 : (_ : Option Value) = some (.int .u64 (r 3)) := hx0.cell 5
  have a6 : (_ : Option Value) = some (.int .u64 (r 4)) := hx0.cell 6
  have a7 : (_ : Option Value) = some (.int .u64 (r 5)) := hx0.cell 7
  have a8 : (_ : Option Value) = some (.int .u64 (r 6)) := hx0.cell 8
  have a9 : (_ : Option Value) = some (.int .u64 (r 7)) := hx0.cell 9
  go_wp2_with fail
  refine (unhide HW _ hr0).mono ?_
  rintro e w1 ⟨rfl, hb1⟩
  clear a0 a1 a2 a3 a4 a5 a6 a7 a8 a9
  go_upto_region 2 with fail
  refine nameW ?_
  intro W1 hW1
  have hby : Below w1.heap.size w1 W1 := by rw [hW1]; exact (Below.refl _ _).alloc (Nat.le_refl _) _
  have hx1 := (hx0.to hb1).to hby
  have hy1 := (hy0.to hb1).to hby
  have hz1 := (hz0.to hb1).to hby
  have hr1 := (hr0.to hb1).to hby
  have hb2 := bt (bt hb0 hb1) hby
  clear hx0 hy0 hz0 hr0 hb1 hby hb0 hW1
  have a0 : (_ : Option Value) = some (.slice A n c) := hx1.cell 0
  have a1 : (_ : Option Value) = some (.int .i64 nx) := hx1.cell 1
  have a2 : (_ : Option Value) = some (.int .u64 (r 0)) := hx1.cell 2
  have a3 : (_ : Option Value) = some (.int .u64 (r 1)) := hx1.cell 3
  have a4 : (_ : Option Value) = some (.int .u64 (r 2)) := hx1.cell 4
  have a5 : (_ : Option Value) = some (.int .u64 (r 3)) := hx1.cell 5
  have a6 : (_ : Option Value) = some (.int .u64 (r 4)) := hx1.cell 6
  have a7 : (_ : Option Value) = some (.int .u64 (r 5)) := hx1.cell 7
  have a8 : (_ : Option Value) = some (.int .u64 (r 6)) := hx1.cell 8
  have a9 : (_ : Option Value) = some (.int .u64 (r 7)) := hx1.cell 9
  go_upto_region 4 with fail
  refine wp_still_tail_drew 11 (by kernel_rfl) (by kernel_rfl) ?_
  obtain ⟨W2, hW2⟩ : ∃ W2, W1.drew = W2 := ⟨_, rfl⟩
  rw [hW2]
  have hbd : Below W1.heap.size W1 W2 := by rw [← hW2]; exact (Below.refl _ _).drew
  have hx2 := hx1.to hbd
  have hy2 := hy1.to hbd
  have hz2 := hz1.to hbd
  have hr2 := hr1.to hbd
  have hb3 := bt hb2 hbd
  clear a0 a1 a2 a3 a4 a5 a6 a7 a8 a9 hW2 hx1 hy1 hz1 hr1 hb2 hbd
  obtain ⟨b, o, y, rfl, hbl, hy, g0, g1, g2, g3, g4⟩ := hr2.insI hlt
  obtain rfl := Option.some.inj ((unhide HX).symm.trans hy)
  clear hr2 hy HX g0 g2 g3 g4
  simp only at g1
  have a0 : (_ : Option Value) = some (.slice (some ⟨b, o, none⟩) n c) := hx2.cell 0
  have a1 : (_ : Option Value) = some (.int .i64 nx) := hx2.cell 1
  have y1 := hy2.cell 1
  have jn : (nx : Int) < n := by omega
  have jn1 : ((nx : Int)).toNat = nx := by omega
  have ja : (ka : Int) < 8 := by omega
  have ja1 : ((ka : Int)).toNat = ka := by omega
  simp only [List.take_succ_cons, List.take_zero, List.drop_succ_cons, List.drop_zero]
  repeat still_step
  refine wpStill_nil ?_
  have q1 := (hx2.cell (2 + ka)).trans (tsk_get _ n c nx r ka hka)
  have q2 := hx2.frozen (2 + ka)
  clear jn jn1 ja ja1 g1 a0 a1 y1
  go_upto_region 5 with fail
  refine nameW ?_
  intro W4 hW4
  have hx4 := hx2.set_ (2 + ka) (.int .u64 v)
  rw [tsk_set _ n c nx r ka v hka] at hx4
  have hy4 := hy2.far (p := ⟨w.heap.size, 2 + ka, none⟩) (by simp) (.int .u64 v)
  have hz4 := hz2.far (p := ⟨w.heap.size, 2 + ka, none⟩) (by simp; omega) (.int .u64 v)
  have hb4 := hb3.setCell (p := ⟨w.heap.size, 2 + ka, none⟩) (by simp) (.int .u64 v)
  rw [← hW4] at hx4 hy4 hz4 hb4
  clear hW4 hx2 hy2 hz2 hb3 q1 q2
  obtain ⟨R, hR⟩ : ∃ R, upd r ka v = R := ⟨_, rfl⟩
  rw [hR] at hx4
  have HRR := Lib.hid hR
  clear hR
  have y0 := hy4.cell 0
  have y2 := hy4.cell 2
  have a0 : (_ : Option Value) = some (.slice (some ⟨b,o,none⟩) n c) := hx4.cell 0
  have af0 := hx4.frozen 0
  have a1 : (_ : Option Value) = some (.int .i64 nx) := hx4.cell 1
  have af1 := hx4.frozen 1
  have a2 : (_ : Option Value) = some (.int .u64 (R 0)) := hx4.cell 2
  have af2 := hx4.frozen 2
  have a3 : (_ : Option Value) = some (.int .u64 (R 1)) := hx4.cell 3
  have af3 := hx4.frozen 3
  have a4 : (_ : Option Value) = some (.int .u64 (R 2)) := hx4.cell 4
  have af4 := hx4.frozen 4
  have a5 : (_ : Option Value) = some (.int .u64 (R 3)) := hx4.cell 5
  have af5 := hx4.frozen 5
  have a6 : (_ : Option Value) = some (.int .u64 (R 4)) := hx4.cell 6
  have af6 := hx4.frozen 6
  have a7 : (_ : Option Value) = some (.int .u64 (R 5)) := hx4.cell 7
  have af7 := hx4.frozen 7
  have a8 : (_ : Option Value) = some (.int .u64 (R 6)) := hx4.cell 8
  have af8 := hx4.frozen 8
  have a9 : (_ : Option Value) = some (.int .u64 (R 7)) := hx4.cell 9
  have af9 := hx4.frozen 9
  go_upto_region 8 with fail
  refine nameW ?_
  intro W5 hW5
  have hx5 := ((hx4.set_ 6 (.int .u64 h)).set_ 9 (.int .u64 (IntKind.u64.wrap e))).set_ 1 (.int .i64 ((nx : Int) + 1))
  have s1 := tsk_set (some ⟨b, o, none⟩) n c nx R 4 h (by omega)
  have s2 := tsk_set (some ⟨b, o, none⟩) n c nx (upd R 4 h) 7 (IntKind.u64.wrap e) (by omega)
  have s3 := tsk_next (some ⟨b, o, none⟩) n c nx (upd (upd R 4 h) 7 (IntKind.u64.wrap e)) (nx + 1)
  rw [show (2 + 4 : Nat) = 6 from rfl] at s1
  rw [show (2 + 7 : Nat) = 9 from rfl] at s2
  rw [show (((nx + 1 : Nat)) : Int) = (nx : Int) + 1 from by omega] at s3
  rw [s1, s2, s3] at hx5
  have hz5 := ((hz4.far (p := ⟨w.heap.size, 6, none⟩) (by simp; omega) (.int .u64 h)).far (p := ⟨w.heap.size, 9, none⟩) (by simp; omega) (.int .u64 (IntKind.u64.wrap e))).far (p := ⟨w.heap.size, 1, none⟩) (by simp; omega) (.int .i64 ((nx : Int) + 1))
  have hb5 := ((hb4.setCell (p := ⟨w.heap.size, 6, none⟩) (by simp) (.int .u64 h)).setCell (p := ⟨w.heap.size, 9, none⟩) (by simp) (.int .u64 (IntKind.u64.wrap e))).setCell (p := ⟨w.heap.size, 1, none⟩) (by simp) (.int .i64 ((nx : Int) + 1))
  rw [← hW5] at hx5 hz5 hb5
  obtain ⟨R2, hR2⟩ : ∃ R2, upd (upd R 4 h) 7 (IntKind.u64.wrap e) = R2 := ⟨_, rfl⟩
  rw [hR2] at hx5
  have HR2 := Lib.hid hR2
  clear hW5 hx4 hy4 hz4 hb4 s1 s2 s3 hR2 y0 y2 a0 a1 a2 a3 a4 a5 a6 a7 a8 a9 af0 af1 af2 af3 af4 af5 af6 af7 af8 af9
  have a0 : (_ : Option Value) = some (.slice (some ⟨b,o,none⟩) n c) := hx5.cell 0
  have a1 : (_ : Option Value) = some (.int .i64 ((nx+1:Nat):Int)) := hx5.cell 1
  have a2 : (_ : Option Value) = some (.int .u64 (R2 0)) := hx5.cell 2
  have a3 : (_ : Option Value) = some (.int .u64 (R2 1)) := hx5.cell 3
  have a4 : (_ : Option Value) = some (.int .u64 (R2 2)) := hx5.cell 4
  have a5 : (_ : Option Value) = some (.int .u64 (R2 3)) := hx5.cell 5
  have a6 : (_ : Option Value) = some (.int .u64 (R2 4)) := hx5.cell 6
  have a7 : (_ : Option Value) = some (.int .u64 (R2 5)) := hx5.cell 7
  have a8 : (_ : Option Value) = some (.int .u64 (R2 6)) := hx5.cell 8
  have a9 : (_ : Option Value) = some (.int .u64 (R2 7)) := hx5.cell 9
  have z0 : (_ : Option Value) = some (.slice none 0 0) := hz5.cell 0
  have zf0 := hz5.frozen 0
  have z1 : (_ : Option Value) = some (.int .i64 0) := hz5.cell 1
  have zf1 := hz5.frozen 1
  have z2 : (_ : Option Value) = some (.int .u64 ((fun _=>(0:Int)) 0)) := hz5.cell 2
  have zf2 := hz5.frozen 2
  have z3 : (_ : Option Value) = some (.int .u64 ((fun _=>(0:Int)) 1)) := hz5.cell 3
  have zf3 := hz5.frozen 3
  have z4 : (_ : Option Value) = some (.int .u64 ((fun _=>(0:Int)) 2)) := hz5.cell 4
  have zf4 := hz5.frozen 4
  have z5 : (_ : Option Value) = some (.int .u64 ((fun _=>(0:Int)) 3)) := hz5.cell 5
  have zf5 := hz5.frozen 5
  have z6 : (_ : Option Value) = some (.int .u64 ((fun _=>(0:Int)) 4)) := hz5.cell 6
  have zf6 := hz5.frozen 6
  have z7 : (_ : Option Value) = some (.int .u64 ((fun _=>(0:Int)) 5)) := hz5.cell 7
  have zf7 := hz5.frozen 7
  have z8 : (_ : Option Value) = some (.int .u64 ((fun _=>(0:Int)) 6)) := hz5.cell 8
  have zf8 := hz5.frozen 8
  have z9 : (_ : Option Value) = some (.int .u64 ((fun _=>(0:Int)) 7)) := hz5.cell 9
  have zf9 := hz5.frozen 9
  rw [show (((nx + 1 : Nat)) : Int) = (nx : Int) + 1 from by omega] at a1
  have hzF := hz5.ten (.slice (some ⟨b,o,none⟩) n c) (.int .i64 ((nx:Int)+1)) (.int .u64 (R2 0)) (.int .u64 (R2 1)) (.int .u64 (R2 2)) (.int .u64 (R2 3)) (.int .u64 (R2 4)) (.int .u64 (R2 5)) (.int .u64 (R2 6)) (.int .u64 (R2 7))
  have hbF := below_ten (g := w.heap.size + 1 + 1) hb5 (by omega) (.slice (some ⟨b,o,none⟩) n c) (.int .i64 ((nx:Int)+1)) (.int .u64 (R2 0)) (.int .u64 (R2 1)) (.int .u64 (R2 2)) (.int .u64 (R2 3)) (.int .u64 (R2 4)) (.int .u64 (R2 5)) (.int .u64 (R2 6)) (.int .u64 (R2 7))
  have HFX := hide hzF
  have HBF := hide hbF
  clear hx5 hz5 hb5 hzF hbF
  go_wp2
  have x0 := (unhide HFX).cell 0
  have x1 := (unhide HFX).cell 1
  have x2 := (unhide HFX).cell 2
  have x3 := (unhide HFX).cell 3
  have x4 := (unhide HFX).cell 4
  have x5 := (unhide HFX).cell 5
  have x6 := (unhide HFX).cell 6
  have x7 := (unhide HFX).cell 7
  have x8 := (unhide HFX).cell 8
  have x9 := (unhide HFX).cell 9
  refine bodyPost_ret (v := .agg #[.slice (some ⟨b,o,none⟩) n c, .int .i64 ((nx:Int)+1), .int .u64 (R2 0), .int .u64 (R2 1), .int .u64 (R2 2), .int .u64 (R2 3), .int .u64 (R2 4), .int .u64 (R2 5), .int .u64 (R2 6), .int .u64 (R2 7)]) (by simp [results, Try.results21, go_sem, x0, x1, x2, x3, x4, x5, x6, x7, x8, x9]) rfl ⟨?_, HBF.out⟩
  rw [HRR.out, HR2.out]

set_option maxRecDepth 100000 in
set_option maxHeartbeats 4000000 in
theorem rtakes_out (hnx : n ≤ nx) (e v h : Int) :
    Calls Try.prog 21 #[tskV A n c nx r, rresV e v h] w fun e' w' => e' = .returned (tskV A n c nx r) ∧ Below w.heap.size w w' := by
  have hW := fun w => rwants_out (A := A) (n := n) (c := c) (nx := nx) (r := r) (w := w) hnx
  simp only [tskV, tskC, rcallV, rresV] at hW ⊢
  have HW := hide hW
  clear hW
  go_enter Try.func21, Try.ntmps21
  go_upto_region 1 with fail
  refine nameW ?_
  intro W0 hW0
  have hb0 : Below w.heap.size w W0 := by rw [hW0]; exact (((Below.refl _ _).alloc (Nat.le_refl _) _).alloc (by simp) _).alloc (by simp; omega) _
  have hx0 : Bx W0 w.heap.size (tskC A n c nx r) := by rw [hW0]; exact ((Bx.new _ _ _ _ rfl).alloc _).alloc _
  have hz0 : Bx W0 (w.heap.size + 1 + 1) (tskC none 0 0 0 (fun _ => 0)) := by rw [hW0]; exact Bx.new _ _ _ _ (by simp)
  clear hW0
  have a0 : (_ : Option Value) = some (.slice A n c) := hx0.cell 0
  have a1 : (_ : Option Value) = some (.int .i64 nx) := hx0.cell 1
  have a2 : (_ : Option Value) = some (.int .u64 (r 0)) := hx0.cell 2
  have a3 : (_ : Option Value) = some (.int .u64 (r 1)) := hx0.cell 3
  have a4 : (_ : Option Value) = some (.int .u64 (r 2)) := hx0.cell 4
  have a5 : (_ : Option Value) = some (.int .u64 (r 3)) := hx0.cell 5
  have a6 : (_ : Option Value) = some (.int .u64 (r 4)) := hx0.cell 6
  have a7 : (_ : Option Value) = some (.int .u64 (r 5)) := hx0.cell 7
  have a8 : (_ : Option Value) = some (.int .u64 (r 6)) := hx0.cell 8
  have a9 : (_ : Option Value) = some (.int .u64 (r 7)) := hx0.cell 9
  go_wp2_with fail
  refine (unhide HW _).mono ?_
  rintro e w1 ⟨rfl, hb1⟩
  clear a0 a1 a2 a3 a4 a5 a6 a7 a8 a9
  go_upto_region 2 with fail
  refine nameW ?_
  intro W1 hW1
  have hby : Below w1.heap.size w1 W1 := by rw [hW1]; exact (Below.refl _ _).alloc (Nat.le_refl _) _
  have hx3 := (hx0.to hb1).to hby
  have hz3 := (hz0.to hb1).to hby
  have hb3 := bt (bt hb0 hb1) hby
  clear hx0 hz0 hb1 hby hb0 hW1
  have a0 : (_ : Option Value) = some (.slice A n c) := hx3.cell 0
  have a1 : (_ : Option Value) = some (.int .i64 nx) := hx3.cell 1
  have a2 : (_ : Option Value) = some (.int .u64 (r 0)) := hx3.cell 2
  have a3 : (_ : Option Value) = some (.int .u64 (r 1)) := hx3.cell 3
  have a4 : (_ : Option Value) = some (.int .u64 (r 2)) := hx3.cell 4
  have a5 : (_ : Option Value) = some (.int .u64 (r 3)) := hx3.cell 5
  have a6 : (_ : Option Value) = some (.int .u64 (r 4)) := hx3.cell 6
  have a7 : (_ : Option Value) = some (.int .u64 (r 5)) := hx3.cell 7
  have a8 : (_ : Option Value) = some (.int .u64 (r 6)) := hx3.cell 8
  have a9 : (_ : Option Value) = some (.int .u64 (r 7)) := hx3.cell 9
  have z0 : (_ : Option Value) = some (.slice none 0 0) := hz3.cell 0
  have zf0 := hz3.frozen 0
  have z1 : (_ : Option Value) = some (.int .i64 0) := hz3.cell 1
  have zf1 := hz3.frozen 1
  have z2 : (_ : Option Value) = some (.int .u64 ((fun _=>(0:Int)) 0)) := hz3.cell 2
  have zf2 := hz3.frozen 2
  have z3 : (_ : Option Value) = some (.int .u64 ((fun _=>(0:Int)) 1)) := hz3.cell 3
  have zf3 := hz3.frozen 3
  have z4 : (_ : Option Value) = some (.int .u64 ((fun _=>(0:Int)) 2)) := hz3.cell 4
  have zf4 := hz3.frozen 4
  have z5 : (_ : Option Value) = some (.int .u64 ((fun _=>(0:Int)) 3)) := hz3.cell 5
  have zf5 := hz3.frozen 5
  have z6 : (_ : Option Value) = some (.int .u64 ((fun _=>(0:Int)) 4)) := hz3.cell 6
  have zf6 := hz3.frozen 6
  have z7 : (_ : Option Value) = some (.int .u64 ((fun _=>(0:Int)) 5)) := hz3.cell 7
  have zf7 := hz3.frozen 7
  have z8 : (_ : Option Value) = some (.int .u64 ((fun _=>(0:Int)) 6)) := hz3.cell 8
  have zf8 := hz3.frozen 8
  have z9 : (_ : Option Value) = some (.int .u64 ((fun _=>(0:Int)) 7)) := hz3.cell 9
  have zf9 := hz3.frozen 9
  have hzF := hz3.ten (.slice A n c) (.int .i64 nx) (.int .u64 (r 0)) (.int .u64 (r 1)) (.int .u64 (r 2)) (.int .u64 (r 3)) (.int .u64 (r 4)) (.int .u64 (r 5)) (.int .u64 (r 6)) (.int .u64 (r 7))
  have hbF := below_ten (g := w.heap.size + 1 + 1) hb3 (by omega) (.slice A n c) (.int .i64 nx) (.int .u64 (r 0)) (.int .u64 (r 1)) (.int .u64 (r 2)) (.int .u64 (r 3)) (.int .u64 (r 4)) (.int .u64 (r 5)) (.int .u64 (r 6)) (.int .u64 (r 7))
  have HFX := hide hzF
  have HBF := hide hbF
  clear hx3 hz3 hb3 hzF hbF
  go_wp2
  have x0 := (unhide HFX).cell 0
  have x1 := (unhide HFX).cell 1
  have x2 := (unhide HFX).cell 2
  have x3 := (unhide HFX).cell 3
  have x4 := (unhide HFX).cell 4
  have x5 := (unhide HFX).cell 5
  have x6 := (unhide HFX).cell 6
  have x7 := (unhide HFX).cell 7
  have x8 := (unhide HFX).cell 8
  have x9 := (unhide HFX).cell 9
  refine bodyPost_ret (v := .agg #[.slice A n c, .int .i64 nx, .int .u64 (r 0), .int .u64 (r 1), .int .u64 (r 2), .int .u64 (r 3), .int .u64 (r 4), .int .u64 (r 5), .int .u64 (r 6), .int .u64 (r 7)]) (by simp [results, Try.results21, go_sem, x0, x1, x2, x3, x4, x5, x6, x7, x8, x9]) rfl ⟨rfl, HBF.out⟩

theorem rtakes_any (hp : Prog l) (hr : Rd w w.heap.size 5 A n (l.flatMap Ins.ci)) (hu : U64 r) (hc : wB l nx = true) (e v h : Int) (hh : 0 ≤ h ∧ h ≤ 4294967295) (hn : n ≤ 1000) :
    Calls Try.prog 21 #[tskV A n c nx r, rresV e v h] w fun e' w' => e' = .returned (tskV A n c (tN l nx) (tR l nx r e v h)) ∧ Below w.heap.size w w' := by
  have hln := hr.lenI
  cases hx : l[nx]? with
  | none =>
    have : n ≤ nx := by have := List.getElem?_eq_none_iff.1 hx; omega
    unfold tN tR
    rw [hx]
    exact rtakes_out this e v h
  | some x =>
    obtain ⟨xo, ka, kb, kc, kn, rfl, ha, hb, hcc, hk, ho, hj⟩ := hp.get hx
    unfold tN tR
    rw [hx]
    exact rtakes_in hp hr hu hc hx ha e v h hh hn
end
end Go.Proofs.Ytmiagijgecgfoaa
