/-
  The walk of bailiwickref14.Task.Step.
-/
import Derived.Test.YtmiagijgecgfoaaTRTakes
namespace Go.Proofs.Ytmiagijgecgfoaa
open Go.RowKit


section
variable {l : List Ins} {A : Option Addr} {n c nx : Nat} {r : Nat → Int} {w : World}

set_option maxRecDepth 100000 in
set_option maxHeartbeats 4000000 in
theorem rstep_set (hp : Prog l) (hr : Rd w w.heap.size 5 A n (l.flatMap Ins.ci)) (hu : U64 r) {ka kb kc kn : Nat} (hx : l[nx]? = some ⟨1, ka, kb, kc, kn⟩) (hka : ka < 8) (hkb : kb < 8) (hkc : kc < 8) (hn : n ≤ 1000) (hkn : kn ≤ 65535) :
    Calls Try.prog 18 #[tskV A n c nx r] w fun e w' => e = .returned (tskV A n c (nx+1) (upd r ka kn)) ∧ Below w.heap.size w w' := by
  have hln := hr.lenI
  have hlt : nx < n := by have := (List.getElem?_eq_some_iff.1 hx).1; omega
  have hW := fun w h => rwants_any (A := A) (n := n) (c := c) (nx := nx) (r := r) (w := w) (l := l) hp h hu
  have hB : wB l nx = false := by unfold wB; rw [hx]; rfl
  rw [hB] at hW
  obtain ⟨⟨p0, p1, p2, p3, p4, p5⟩, hq⟩ : ∃ q, wP l nx r = q := ⟨_, rfl⟩
  rw [hq] at hW
  simp only [tskV, tskC, rcallV, rcallP] at hW ⊢
  have HW := hide hW
  have HR := hide hr
  have HX := hide hx
  clear hW hr hq hB hx hln hu
  go_enter Try.func18, Try.ntmps18
  go_upto_region 1 with fail
  refine nameW ?_
  intro W0 hW0
  have hb0 : Below w.heap.size w W0 := by rw [hW0]; exact ((Below.refl _ _).alloc (Nat.le_refl _) _).alloc (by simp) _
  have hx0 : Bx W0 w.heap.size (tskC A n c nx r) := by rw [hW0]; exact (Bx.new _ _ _ _ rfl).alloc _
  have hz0 : Bx W0 (w.heap.size + 1) (tskC none 0 0 0 (fun _ => 0)) := by rw [hW0]; exact Bx.new _ _ _ _ (by simp)
  have hr0 := (unhide HR).to hb0
  clear hW0 HR
  have a0 : (_ : Option Value) = some (.slice A n c) := hx0.cell 0
  have a1 : (_ : Option Value) = some (.int .i64 nx) := hx0.cell 1
  have a2 : (_ : Option Value) = some (.int .u64 (r 0)) := hx0.cell 2
  have a3 : (_ : Option Value) = some (.int .u64 (r 1)) := hx0.cell 3
  have a4 : (_ : Option Value) = some (.int .u64 (r 2)) := hx0.cell 4
  have a5 : (_ : Option Value) = some (.int .u64 (r 3)) := hx0.cell 5
  have a6 : (_ : Option Value) = some (.int .u64 (r 4)) := hx0.cell 6
  have a7 : (_ : Option Value) = some (.int .u64 (r 5)) := hx0.cell 7
  have a8 : (_ : Option Value) = some (.int .u64 (r 6)) := hx0.cell 8
  have a9 : (_ : Option Value) = some (.int .u64 (r 7)) := hx0.cell 9
  go_wp2_with fail
  refine (unhide HW _ hr0).mono ?_
  rintro e w1 ⟨rfl, hb1⟩
  clear a0 a1 a2 a3 a4 a5 a6 a7 a8 a9
  go_upto_region 2 with fail
  refine nameW ?_
  intro W1 hW1
  have hby : Below w1.heap.size w1 W1 := by rw [hW1]; exact (Below.refl _ _).alloc (Nat.le_refl _) _
  have hx1 := (hx0.to hb1).to hby
  have hz1 := (hz0.to hb1).to hby
  have hr1 := (hr0.to hb1).to hby
  have hb2 := bt (bt hb0 hb1) hby
  clear hx0 hz0 hr0 hb1 hby hb0 hW1
  obtain ⟨b, o, y, rfl, hbl, hy, g0, g1, g2, g3, g4⟩ := hr1.insI hlt
  obtain rfl := Option.some.inj ((unhide HX).symm.trans hy)
  clear hr1 hy HX
  simp only at g0 g1 g2 g3 g4
  have a0 : (_ : Option Value) = some (.slice (some ⟨b,o,none⟩) n c) := hx1.cell 0
  have a1 : (_ : Option Value) = some (.int .i64 nx) := hx1.cell 1
  have a2 : (_ : Option Value) = some (.int .u64 (r 0)) := hx1.cell 2
  have a3 : (_ : Option Value) = some (.int .u64 (r 1)) := hx1.cell 3
  have a4 : (_ : Option Value) = some (.int .u64 (r 2)) := hx1.cell 4
  have a5 : (_ : Option Value) = some (.int .u64 (r 3)) := hx1.cell 5
  have a6 : (_ : Option Value) = some (.int .u64 (r 4)) := hx1.cell 6
  have a7 : (_ : Option Value) = some (.int .u64 (r 5)) := hx1.cell 7
  have a8 : (_ : Option Value) = some (.int .u64 (r 6)) := hx1.cell 8
  have a9 : (_ : Option Value) = some (.int .u64 (r 7)) := hx1.cell 9
  go_upto_region 5 with fail
  refine nameW ?_
  intro W3 hW3
  have hby : Below W1.heap.size W1 W3 := by rw [hW3]; exact (Below.refl _ _).alloc (Nat.le_refl _) _
  have hi3 : Bx W3 W1.heap.size #[.int .i64 1, .int .i64 ka, .int .i64 kb, .int .i64 kc, .int .i64 kn] := by rw [hW3]; exact Bx.new _ _ _ _ rfl
  clear a0 a1 a2 a3 a4 a5 a6 a7 a8 a9 g0 g1 g2 g3 g4 hW3
  have hgi := hx1.lt
  have hx3 := hx1.to hby
  have hz3 := hz1.to hby
  have hb3' := bt hb2 hby
  have i0 := hi3.cell 0
  have i1 := hi3.cell 1
  have i2 := hi3.cell 2
  have i3 := hi3.cell 3
  have i4 := hi3.cell 4
  have k1 := (hx3.cell (2 + kb)).trans (tsk_get _ n c nx r kb hkb)
  have k2 := (hx3.cell (2 + kc)).trans (tsk_get _ n c nx r kc hkc)
  have jb : (kb : Int) < 8 := by omega
  have jb1 : ((kb : Int)).toNat = kb := by omega
  have jc : (kc : Int) < 8 := by omega
  have jc1 : ((kc : Int)).toNat = kc := by omega
  go_quiet (fail)
  go_upto_region 6 with fail
  refine nameW ?_
  intro W2 hW2
  have hbd : Below W3.heap.size W3 W2 := by rw [hW2]; exact below_drewN (Below.refl _ _) _
  have hx2 := hx3.to hbd
  have hz2 := hz3.to hbd
  have hi2 := hi3.to hbd
  have hb3 := bt hb3' hbd
  clear hW2 hx1 hz1 hb2 hby hbd hi3 hx3 hz3 hb3' k1 k2 jb jb1 jc jc1 i0 i1 i2 i3 i4
  have a1 : (_ : Option Value) = some (.int .i64 nx) := hx2.cell 1
  have i0 := hi2.cell 0
  have i1 := hi2.cell 1
  have i2 := hi2.cell 2
  have i3 := hi2.cell 3
  have i4 := hi2.cell 4
  have q0 := hx2.frozen 1
  have q1 := (hx2.cell (2 + ka)).trans (tsk_get _ n c nx r ka hka)
  have q2 := hx2.frozen (2 + ka)
  have hw : IntKind.u64.wrap kn = kn := IntWalk.u64_in _ (by omega)
  go_upto_region 25 with fail
  refine nameW ?_
  intro W4 hW4
  have hx4 := hx2.set_ (2 + ka) (.int .u64 kn)
  rw [tsk_set _ n c nx r ka kn hka] at hx4
  have hz4 := hz2.far (p := ⟨w.heap.size, 2 + ka, none⟩) (by simp) (.int .u64 kn)
  have hb4 := hb3.setCell (p := ⟨w.heap.size, 2 + ka, none⟩) (by simp) (.int .u64 kn)
  rw [← hW4] at hx4 hz4 hb4
  clear hx2 hz2 hi2 hb3 q0 q1 q2 a1 i0 i1 i2 i3 i4
  clear hW4
  obtain ⟨R, hR⟩ : ∃ R, (upd r ka kn) = R := ⟨_, rfl⟩
  rw [hR] at hx4
  have HRR := Lib.hid hR
  clear hR
  have hx5 := hx4.set_ 1 (.int .i64 ((nx:Int)+1))
  have s3 := tsk_next (some ⟨b, o, none⟩) n c nx R (nx+1)
  rw [show (((nx+1) : Nat) : Int) = ((nx:Int)+1) from by omega] at s3
  rw [s3] at hx5
  have hz5 := hz4.far (p := ⟨w.heap.size, 1, none⟩) (by simp) (.int .i64 ((nx:Int)+1))
  have hb5 := hb4.setCell (p := ⟨w.heap.size, 1, none⟩) (by simp) (.int .i64 ((nx:Int)+1))
  have a1 : (_ : Option Value) = some (.int .i64 nx) := hx4.cell 1
  have af1 := hx4.frozen 1
  go_upto_region 26 with fail
  refine nameW ?_
  intro W5 hW5
  rw [← hW5] at hx5 hz5 hb5
  clear hW5 hx4 hz4 hb4 a1 af1 s3
  have a0 : (_ : Option Value) = some (.slice (some ⟨b,o,none⟩) n c) := hx5.cell 0
  have a1 : (_ : Option Value) = some (.int .i64 (((nx+1):Nat):Int)) := hx5.cell 1
  have a2 : (_ : Option Value) = some (.int .u64 (R 0)) := hx5.cell 2
  have a3 : (_ : Option Value) = some (.int .u64 (R 1)) := hx5.cell 3
  have a4 : (_ : Option Value) = some (.int .u64 (R 2)) := hx5.cell 4
  have a5 : (_ : Option Value) = some (.int .u64 (R 3)) := hx5.cell 5
  have a6 : (_ : Option Value) = some (.int .u64 (R 4)) := hx5.cell 6
  have a7 : (_ : Option Value) = some (.int .u64 (R 5)) := hx5.cell 7
  have a8 : (_ : Option Value) = some (.int .u64 (R 6)) := hx5.cell 8
  have a9 : (_ : Option Value) = some (.int .u64 (R 7)) := hx5.cell 9
  have z0 : (_ : Option Value) = some (.slice none 0 0) := hz5.cell 0
  have zf0 := hz5.frozen 0
  have z1 : (_ : Option Value) = some (.int .i64 0) := hz5.cell 1
  have zf1 := hz5.frozen 1
  have z2 : (_ : Option Value) = some (.int .u64 ((fun _=>(0:Int)) 0)) := hz5.cell 2
  have zf2 := hz5.frozen 2
  have z3 : (_ : Option Value) = some (.int .u64 ((fun _=>(0:Int)) 1)) := hz5.cell 3
  have zf3 := hz5.frozen 3
  have z4 : (_ : Option Value) = some (.int .u64 ((fun _=>(0:Int)) 2)) := hz5.cell 4
  have zf4 := hz5.frozen 4
  have z5 : (_ : Option Value) = some (.int .u64 ((fun _=>(0:Int)) 3)) := hz5.cell 5
  have zf5 := hz5.frozen 5
  have z6 : (_ : Option Value) = some (.int .u64 ((fun _=>(0:Int)) 4)) := hz5.cell 6
  have zf6 := hz5.frozen 6
  have z7 : (_ : Option Value) = some (.int .u64 ((fun _=>(0:Int)) 5)) := hz5.cell 7
  have zf7 := hz5.frozen 7
  have z8 : (_ : Option Value) = some (.int .u64 ((fun _=>(0:Int)) 6)) := hz5.cell 8
  have zf8 := hz5.frozen 8
  have z9 : (_ : Option Value) = some (.int .u64 ((fun _=>(0:Int)) 7)) := hz5.cell 9
  have zf9 := hz5.frozen 9
  try rw [show (((nx+1) : Nat) : Int) = ((nx:Int)+1) from by omega] at a1
  have hzF := hz5.ten (.slice (some ⟨b,o,none⟩) n c) (.int .i64 ((nx:Int)+1)) (.int .u64 (R 0)) (.int .u64 (R 1)) (.int .u64 (R 2)) (.int .u64 (R 3)) (.int .u64 (R 4)) (.int .u64 (R 5)) (.int .u64 (R 6)) (.int .u64 (R 7))
  have hbF := below_ten (g := w.heap.size + 1) hb5 (by omega) (.slice (some ⟨b,o,none⟩) n c) (.int .i64 ((nx:Int)+1)) (.int .u64 (R 0)) (.int .u64 (R 1)) (.int .u64 (R 2)) (.int .u64 (R 3)) (.int .u64 (R 4)) (.int .u64 (R 5)) (.int .u64 (R 6)) (.int .u64 (R 7))
  have HFX := hide hzF
  have HBF := hide hbF
  clear hx5 hz5 hb5 hzF hbF
  go_wp2
  have x0 := (unhide HFX).cell 0
  have x1 := (unhide HFX).cell 1
  have x2 := (unhide HFX).cell 2
  have x3 := (unhide HFX).cell 3
  have x4 := (unhide HFX).cell 4
  have x5 := (unhide HFX).cell 5
  have x6 := (unhide HFX).cell 6
  have x7 := (unhide HFX).cell 7
  have x8 := (unhide HFX).cell 8
  have x9 := (unhide HFX).cell 9
  refine bodyPost_ret (v := .agg #[.slice (some ⟨b,o,none⟩) n c, .int .i64 ((nx:Int)+1), .int .u64 (R 0), .int .u64 (R 1), .int .u64 (R 2), .int .u64 (R 3), .int .u64 (R 4), .int .u64 (R 5), .int .u64 (R 6), .int .u64 (R 7)]) (by simp [results, Try.results18, go_sem, x0, x1, x2, x3, x4, x5, x6, x7, x8, x9]) rfl ⟨?_, HBF.out⟩
  rw [HRR.out]

set_option maxRecDepth 100000 in
set_option maxHeartbeats 4000000 in
theorem rstep_add (hp : Prog l) (hr : Rd w w.heap.size 5 A n (l.flatMap Ins.ci)) (hu : U64 r) {ka kb kc kn : Nat} (hx : l[nx]? = some ⟨2, ka, kb, kc, kn⟩) (hka : ka < 8) (hkb : kb < 8) (hkc : kc < 8) (hn : n ≤ 1000) :
    Calls Try.prog 18 #[tskV A n c nx r] w fun e w' => e = .returned (tskV A n c (nx+1) (upd r ka (IntKind.u64.wrap (r kb+r kc)))) ∧ Below w.heap.size w w' := by
  have hln := hr.lenI
  have hlt : nx < n := by have := (List.getElem?_eq_some_iff.1 hx).1; omega
  have hW := fun w h => rwants_any (A := A) (n := n) (c := c) (nx := nx) (r := r) (w := w) (l := l) hp h hu
  have hB : wB l nx = false := by unfold wB; rw [hx]; rfl
  rw [hB] at hW
  obtain ⟨⟨p0, p1, p2, p3, p4, p5⟩, hq⟩ : ∃ q, wP l nx r = q := ⟨_, rfl⟩
  rw [hq] at hW
  simp only [tskV, tskC, rcallV, rcallP] at hW ⊢
  have HW := hide hW
  have HR := hide hr
  have HX := hide hx
  clear hW hr hq hB hx hln hu
  go_enter Try.func18, Try.ntmps18
  go_upto_region 1 with fail
  refine nameW ?_
  intro W0 hW0
  have hb0 : Below w.heap.size w W0 := by rw [hW0]; exact ((Below.refl _ _).alloc (Nat.le_refl _) _).alloc (by simp) _
  have hx0 : Bx W0 w.heap.size (tskC A n c nx r) := by rw [hW0]; exact (Bx.new _ _ _ _ rfl).alloc _
  have hz0 : Bx W0 (w.heap.size + 1) (tskC none 0 0 0 (fun _ => 0)) := by rw [hW0]; exact Bx.new _ _ _ _ (by simp)
  have hr0 := (unhide HR).to hb0
  clear hW0 HR
  have a0 : (_ : Option Value) = some (.slice A n c) := hx0.cell 0
  have a1 : (_ : Option Value) = some (.int .i64 nx) := hx0.cell 1
  have a2 : (_ : Option Value) = some (.int .u64 (r 0)) := hx0.cell 2
  have a3 : (_ : Option Value) = some (.int .u64 (r 1)) := hx0.cell 3
  have a4 : (_ : Option Value) = some (.int .u64 (r 2)) := hx0.cell 4
  have a5 : (_ : Option Value) = some (.int .u64 (r 3)) := hx0.cell 5
  have a6 : (_ : Option Value) = some (.int .u64 (r 4)) := hx0.cell 6
  have a7 : (_ : Option Value) = some (.int .u64 (r 5)) := hx0.cell 7
  have a8 : (_ : Option Value) = some (.int .u64 (r 6)) := hx0.cell 8
  have a9 : (_ : Option Value) = some (.int .u64 (r 7)) := hx0.cell 9
  go_wp2_with fail
  refine (unhide HW _ hr0).mono ?_
  rintro e w1 ⟨rfl, hb1⟩
  clear a0 a1 a2 a3 a4 a5 a6 a7 a8 a9
  go_upto_region 2 with fail
  refine nameW ?_
  intro W1 hW1
  have hby : Below w1.heap.size w1 W1 := by rw [hW1]; exact (Below.refl _ _).alloc (Nat.le_refl _) _
  have hx1 := (hx0.to hb1).to hby
  have hz1 := (hz0.to hb1).to hby
  have hr1 := (hr0.to hb1).to hby
  have hb2 := bt (bt hb0 hb1) hby
  clear hx0 hz0 hr0 hb1 hby hb0 hW1
  obtain ⟨b, o, y, rfl, hbl, hy, g0, g1, g2, g3, g4⟩ := hr1.insI hlt
  obtain rfl := Option.some.inj ((unhide HX).symm.trans hy)
  clear hr1 hy HX
  simp only at g0 g1 g2 g3 g4
  have a0 : (_ : Option Value) = some (.slice (some ⟨b,o,none⟩) n c) := hx1.cell 0
  have a1 : (_ : Option Value) = some (.int .i64 nx) := hx1.cell 1
  have a2 : (_ : Option Value) = some (.int .u64 (r 0)) := hx1.cell 2
  have a3 : (_ : Option Value) = some (.int .u64 (r 1)) := hx1.cell 3
  have a4 : (_ : Option Value) = some (.int .u64 (r 2)) := hx1.cell 4
  have a5 : (_ : Option Value) = some (.int .u64 (r 3)) := hx1.cell 5
  have a6 : (_ : Option Value) = some (.int .u64 (r 4)) := hx1.cell 6
  have a7 : (_ : Option Value) = some (.int .u64 (r 5)) := hx1.cell 7
  have a8 : (_ : Option Value) = some (.int .u64 (r 6)) := hx1.cell 8
  have a9 : (_ : Option Value) = some (.int .u64 (r 7)) := hx1.cell 9
  go_upto_region 5 with fail
  refine nameW ?_
  intro W3 hW3
  have hby : Below W1.heap.size W1 W3 := by rw [hW3]; exact (Below.refl _ _).alloc (Nat.le_refl _) _
  have hi3 : Bx W3 W1.heap.size #[.int .i64 2, .int .i64 ka, .int .i64 kb, .int .i64 kc, .int .i64 kn] := by rw [hW3]; exact Bx.new _ _ _ _ rfl
  clear a0 a1 a2 a3 a4 a5 a6 a7 a8 a9 g0 g1 g2 g3 g4 hW3
  have hgi := hx1.lt
  have hx3 := hx1.to hby
  have hz3 := hz1.to hby
  have hb3' := bt hb2 hby
  have i0 := hi3.cell 0
  have i1 := hi3.cell 1
  have i2 := hi3.cell 2
  have i3 := hi3.cell 3
  have i4 := hi3.cell 4
  have k1 := (hx3.cell (2 + kb)).trans (tsk_get _ n c nx r kb hkb)
  have k2 := (hx3.cell (2 + kc)).trans (tsk_get _ n c nx r kc hkc)
  have jb : (kb : Int) < 8 := by omega
  have jb1 : ((kb : Int)).toNat = kb := by omega
  have jc : (kc : Int) < 8 := by omega
  have jc1 : ((kc : Int)).toNat = kc := by omega
  go_quiet (fail)
  go_upto_region 6 with fail
  refine nameW ?_
  intro W2 hW2
  have hbd : Below W3.heap.size W3 W2 := by rw [hW2]; exact below_drewN (Below.refl _ _) _
  have hx2 := hx3.to hbd
  have hz2 := hz3.to hbd
  have hi2 := hi3.to hbd
  have hb3 := bt hb3' hbd
  clear hW2 hx1 hz1 hb2 hby hbd hi3 hx3 hz3 hb3' k1 k2 jb jb1 jc jc1 i0 i1 i2 i3 i4
  have a1 : (_ : Option Value) = some (.int .i64 nx) := hx2.cell 1
  have i0 := hi2.cell 0
  have i1 := hi2.cell 1
  have i2 := hi2.cell 2
  have i3 := hi2.cell 3
  have i4 := hi2.cell 4
  have q0 := hx2.frozen 1
  have q1 := (hx2.cell (2 + ka)).trans (tsk_get _ n c nx r ka hka)
  have q2 := hx2.frozen (2 + ka)
  go_upto_region 25 with fail
  refine nameW ?_
  intro W4 hW4
  have hx4 := hx2.set_ (2 + ka) (.int .u64 (IntKind.u64.wrap (r kb+r kc)))
  rw [tsk_set _ n c nx r ka (IntKind.u64.wrap (r kb+r kc)) hka] at hx4
  have hz4 := hz2.far (p := ⟨w.heap.size, 2 + ka, none⟩) (by simp) (.int .u64 (IntKind.u64.wrap (r kb+r kc)))
  have hb4 := hb3.setCell (p := ⟨w.heap.size, 2 + ka, none⟩) (by simp) (.int .u64 (IntKind.u64.wrap (r kb+r kc)))
  rw [← hW4] at hx4 hz4 hb4
  clear hx2 hz2 hi2 hb3 q0 q1 q2 a1 i0 i1 i2 i3 i4
  clear hW4
  obtain ⟨R, hR⟩ : ∃ R, (upd r ka (IntKind.u64.wrap (r kb+r kc))) = R := ⟨_, rfl⟩
  rw [hR] at hx4
  have HRR := Lib.hid hR
  clear hR
  have hx5 := hx4.set_ 1 (.int .i64 ((nx:Int)+1))
  have s3 := tsk_next (some ⟨b, o, none⟩) n c nx R (nx+1)
  rw [show (((nx+1) : Nat) : Int) = ((nx:Int)+1) from by omega] at s3
  rw [s3] at hx5
  have hz5 := hz4.far (p := ⟨w.heap.size, 1, none⟩) (by simp) (.int .i64 ((nx:Int)+1))
  have hb5 := hb4.setCell (p := ⟨w.heap.size, 1, none⟩) (by simp) (.int .i64 ((nx:Int)+1))
  have a1 : (_ : Option Value) = some (.int .i64 nx) := hx4.cell 1
  have af1 := hx4.frozen 1
  go_upto_region 26 with fail
  refine nameW ?_
  intro W5 hW5
  rw [← hW5] at hx5 hz5 hb5
  clear hW5 hx4 hz4 hb4 a1 af1 s3
  have a0 : (_ : Option Value) = some (.slice (some ⟨b,o,none⟩) n c) := hx5.cell 0
  have a1 : (_ : Option Value) = some (.int .i64 (((nx+1):Nat):Int)) := hx5.cell 1
  have a2 : (_ : Option Value) = some (.int .u64 (R 0)) := hx5.cell 2
  have a3 : (_ : Option Value) = some (.int .u64 (R 1)) := hx5.cell 3
  have a4 : (_ : Option Value) = some (.int .u64 (R 2)) := hx5.cell 4
  have a5 : (_ : Option Value) = some (.int .u64 (R 3)) := hx5.cell 5
  have a6 : (_ : Option Value) = some (.int .u64 (R 4)) := hx5.cell 6
  have a7 : (_ : Option Value) = some (.int .u64 (R 5)) := hx5.cell 7
  have a8 : (_ : Option Value) = some (.int .u64 (R 6)) := hx5.cell 8
  have a9 : (_ : Option Value) = some (.int .u64 (R 7)) := hx5.cell 9
  have z0 : (_ : Option Value) = some (.slice none 0 0) := hz5.cell 0
  have zf0 := hz5.frozen 0
  have z1 : (_ : Option Value) = some (.int .i64 0) := hz5.cell 1
  have zf1 := hz5.frozen 1
  have z2 : (_ : Option Value) = some (.int .u64 ((fun _=>(0:Int)) 0)) := hz5.cell 2
  have zf2 := hz5.frozen 2
  have z3 : (_ : Option Value) = some (.int .u64 ((fun _=>(0:Int)) 1)) := hz5.cell 3
  have zf3 := hz5.frozen 3
  have z4 : (_ : Option Value) = some (.int .u64 ((fun _=>(0:Int)) 2)) := hz5.cell 4
  have zf4 := hz5.frozen 4
  have z5 : (_ : Option Value) = some (.int .u64 ((fun _=>(0:Int)) 3)) := hz5.cell 5
  have zf5 := hz5.frozen 5
  have z6 : (_ : Option Value) = some (.int .u64 ((fun _=>(0:Int)) 4)) := hz5.cell 6
  have zf6 := hz5.frozen 6
  have z7 : (_ : Option Value) = some (.int .u64 ((fun _=>(0:Int)) 5)) := hz5.cell 7
  have zf7 := hz5.frozen 7
  have z8 : (_ : Option Value) = some (.int .u64 ((fun _=>(0:Int)) 6)) := hz5.cell 8
  have zf8 := hz5.frozen 8
  have z9 : (_ : Option Value) = some (.int .u64 ((fun _=>(0:Int)) 7)) := hz5.cell 9
  have zf9 := hz5.frozen 9
  try rw [show (((nx+1) : Nat) : Int) = ((nx:Int)+1) from by omega] at a1
  have hzF := hz5.ten (.slice (some ⟨b,o,none⟩) n c) (.int .i64 ((nx:Int)+1)) (.int .u64 (R 0)) (.int .u64 (R 1)) (.int .u64 (R 2)) (.int .u64 (R 3)) (.int .u64 (R 4)) (.int .u64 (R 5)) (.int .u64 (R 6)) (.int .u64 (R 7))
  have hbF := below_ten (g := w.heap.size + 1) hb5 (by omega) (.slice (some ⟨b,o,none⟩) n c) (.int .i64 ((nx:Int)+1)) (.int .u64 (R 0)) (.int .u64 (R 1)) (.int .u64 (R 2)) (.int .u64 (R 3)) (.int .u64 (R 4)) (.int .u64 (R 5)) (.int .u64 (R 6)) (.int .u64 (R 7))
  have HFX := hide hzF
  have HBF := hide hbF
  clear hx5 hz5 hb5 hzF hbF
  go_wp2
  have x0 := (unhide HFX).cell 0
  have x1 := (unhide HFX).cell 1
  have x2 := (unhide HFX).cell 2
  have x3 := (unhide HFX).cell 3
  have x4 := (unhide HFX).cell 4
  have x5 := (unhide HFX).cell 5
  have x6 := (unhide HFX).cell 6
  have x7 := (unhide HFX).cell 7
  have x8 := (unhide HFX).cell 8
  have x9 := (unhide HFX).cell 9
  refine bodyPost_ret (v := .agg #[.slice (some ⟨b,o,none⟩) n c, .int .i64 ((nx:Int)+1), .int .u64 (R 0), .int .u64 (R 1), .int .u64 (R 2), .int .u64 (R 3), .int .u64 (R 4), .int .u64 (R 5), .int .u64 (R 6), .int .u64 (R 7)]) (by simp [results, Try.results18, go_sem, x0, x1, x2, x3, x4, x5, x6, x7, x8, x9]) rfl ⟨?_, HBF.out⟩
  rw [HRR.out]

set_option maxRecDepth 100000 in
set_option maxHeartbeats 4000000 in
theorem rstep_sub (hp : Prog l) (hr : Rd w w.heap.size 5 A n (l.flatMap Ins.ci)) (hu : U64 r) {ka kb kc kn : Nat} (hx : l[nx]? = some ⟨3, ka, kb, kc, kn⟩) (hka : ka < 8) (hkb : kb < 8) (hkc : kc < 8) (hn : n ≤ 1000) :
    Calls Try.prog 18 #[tskV A n c nx r] w fun e w' => e = .returned (tskV A n c (nx+1) (upd r ka (IntKind.u64.wrap (r kb-r kc)))) ∧ Below w.heap.size w w' := by
  have hln := hr.lenI
  have hlt : nx < n := by have := (List.getElem?_eq_some_iff.1 hx).1; omega
  have hW := fun w h => rwants_any (A := A) (n := n) (c := c) (nx := nx) (r := r) (w := w) (l := l) hp h hu
  have hB : wB l nx = false := by unfold wB; rw [hx]; rfl
  rw [hB] at hW
  obtain ⟨⟨p0, p1, p2, p3, p4, p5⟩, hq⟩ : ∃ q, wP l nx r = q := ⟨_, rfl⟩
  rw [hq] at hW
  simp only [tskV, tskC, rcallV, rcallP] at hW ⊢
  have HW := hide hW
  have HR := hide hr
  have HX := hide hx
  clear hW hr hq hB hx hln hu
  go_enter Try.func18, Try.ntmps18
  go_upto_region 1 with fail
  refine nameW ?_
  intro W0 hW0
  have hb0 : Below w.heap.size w W0 := by rw [hW0]; exact ((Below.refl _ _).alloc (Nat.le_refl _) _).alloc (by simp) _
  have hx0 : Bx W0 w.heap.size (tskC A n c nx r) := by rw [hW0]; exact (Bx.new _ _ _ _ rfl).alloc _
  have hz0 : Bx W0 (w.heap.size + 1) (tskC none 0 0 0 (fun _ => 0)) := by rw [hW0]; exact Bx.new _ _ _ _ (by simp)
  have hr0 := (unhide HR).to hb0
  clear hW0 HR
  have a0 : (_ : Option Value) = some (.slice A n c) := hx0.cell 0
  have a1 : (_ : Option Value) = some (.int .i64 nx) := hx0.cell 1
  have a2 : (_ : Option Value) = some (.int .u64 (r 0)) := hx0.cell 2
  have a3 : (_ : Option Value) = some (.int .u64 (r 1)) := hx0.cell 3
  have a4 : (_ : Option Value) = some (.int .u64 (r 2)) := hx0.cell 4
  have a5 : (_ : Option Value) = some (.int .u64 (r 3)) := hx0.cell 5
  have a6 : (_ : Option Value) = some (.int .u64 (r 4)) := hx0.cell 6
  have a7 : (_ : Option Value) = some (.int .u64 (r 5)) := hx0.cell 7
  have a8 : (_ : Option Value) = some (.int .u64 (r 6)) := hx0.cell 8
  have a9 : (_ : Option Value) = some (.int .u64 (r 7)) := hx0.cell 9
  go_wp2_with fail
  refine (unhide HW _ hr0).mono ?_
  rintro e w1 ⟨rfl, hb1⟩
  clear a0 a1 a2 a3 a4 a5 a6 a7 a8 a9
  go_upto_region 2 with fail
  refine nameW ?_
  intro W1 hW1
  have hby : Below w1.heap.size w1 W1 := by rw [hW1]; exact (Below.refl _ _).alloc (Nat.le_refl _) _
  have hx1 := (hx0.to hb1).to hby
  have hz1 := (hz0.to hb1).to hby
  have hr1 := (hr0.to hb1).to hby
  have hb2 := bt (bt hb0 hb1) hby
  clear hx0 hz0 hr0 hb1 hby hb0 hW1
  obtain ⟨b, o, y, rfl, hbl, hy, g0, g1, g2, g3, g4⟩ := hr1.insI hlt
  obtain rfl := Option.some.inj ((unhide HX).symm.trans hy)
  clear hr1 hy HX
  simp only at g0 g1 g2 g3 g4
  have a0 : (_ : Option Value) = some (.slice (some ⟨b,o,none⟩) n c) := hx1.cell 0
  have a1 : (_ : Option Value) = some (.int .i64 nx) := hx1.cell 1
  have a2 : (_ : Option Value) = some (.int .u64 (r 0)) := hx1.cell 2
  have a3 : (_ : Option Value) = some (.int .u64 (r 1)) := hx1.cell 3
  have a4 : (_ : Option Value) = some (.int .u64 (r 2)) := hx1.cell 4
  have a5 : (_ : Option Value) = some (.int .u64 (r 3)) := hx1.cell 5
  have a6 : (_ : Option Value) = some (.int .u64 (r 4)) := hx1.cell 6
  have a7 : (_ : Option Value) = some (.int .u64 (r 5)) := hx1.cell 7
  have a8 : (_ : Option Value) = some (.int .u64 (r 6)) := hx1.cell 8
  have a9 : (_ : Option Value) = some (.int .u64 (r 7)) := hx1.cell 9
  go_upto_region 5 with fail
  refine nameW ?_
  intro W3 hW3
  have hby : Below W1.heap.size W1 W3 := by rw [hW3]; exact (Below.refl _ _).alloc (Nat.le_refl _) _
  have hi3 : Bx W3 W1.heap.size #[.int .i64 3, .int .i64 ka, .int .i64 kb, .int .i64 kc, .int .i64 kn] := by rw [hW3]; exact Bx.new _ _ _ _ rfl
  clear a0 a1 a2 a3 a4 a5 a6 a7 a8 a9 g0 g1 g2 g3 g4 hW3
  have hgi := hx1.lt
  have hx3 := hx1.to hby
  have hz3 := hz1.to hby
  have hb3' := bt hb2 hby
  have i0 := hi3.cell 0
  have i1 := hi3.cell 1
  have i2 := hi3.cell 2
  have i3 := hi3.cell 3
  have i4 := hi3.cell 4
  have k1 := (hx3.cell (2 + kb)).trans (tsk_get _ n c nx r kb hkb)
  have k2 := (hx3.cell (2 + kc)).trans (tsk_get _ n c nx r kc hkc)
  have jb : (kb : Int) < 8 := by omega
  have jb1 : ((kb : Int)).toNat = kb := by omega
  have jc : (kc : Int) < 8 := by omega
  have jc1 : ((kc : Int)).toNat = kc := by omega
  go_quiet (fail)
  go_upto_region 6 with fail
  refine nameW ?_
  intro W2 hW2
  have hbd : Below W3.heap.size W3 W2 := by rw [hW2]; exact below_drewN (Below.refl _ _) _
  have hx2 := hx3.to hbd
  have hz2 := hz3.to hbd
  have hi2 := hi3.to hbd
  have hb3 := bt hb3' hbd
  clear hW2 hx1 hz1 hb2 hby hbd hi3 hx3 hz3 hb3' k1 k2 jb jb1 jc jc1 i0 i1 i2 i3 i4
  have a1 : (_ : Option Value) = some (.int .i64 nx) := hx2.cell 1
  have i0 := hi2.cell 0
  have i1 := hi2.cell 1
  have i2 := hi2.cell 2
  have i3 := hi2.cell 3
  have i4 := hi2.cell 4
  have q0 := hx2.frozen 1
  have q1 := (hx2.cell (2 + ka)).trans (tsk_get _ n c nx r ka hka)
  have q2 := hx2.frozen (2 + ka)
  go_upto_region 25 with fail
  refine nameW ?_
  intro W4 hW4
  have hx4 := hx2.set_ (2 + ka) (.int .u64 (IntKind.u64.wrap (r kb-r kc)))
  rw [tsk_set _ n c nx r ka (IntKind.u64.wrap (r kb-r kc)) hka] at hx4
  have hz4 := hz2.far (p := ⟨w.heap.size, 2 + ka, none⟩) (by simp) (.int .u64 (IntKind.u64.wrap (r kb-r kc)))
  have hb4 := hb3.setCell (p := ⟨w.heap.size, 2 + ka, none⟩) (by simp) (.int .u64 (IntKind.u64.wrap (r kb-r kc)))
  rw [← hW4] at hx4 hz4 hb4
  clear hx2 hz2 hi2 hb3 q0 q1 q2 a1 i0 i1 i2 i3 i4
  clear hW4
  obtain ⟨R, hR⟩ : ∃ R, (upd r ka (IntKind.u64.wrap (r kb-r kc))) = R := ⟨_, rfl⟩
  rw [hR] at hx4
  have HRR := Lib.hid hR
  clear hR
  have hx5 := hx4.set_ 1 (.int .i64 ((nx:Int)+1))
  have s3 := tsk_next (some ⟨b, o, none⟩) n c nx R (nx+1)
  rw [show (((nx+1) : Nat) : Int) = ((nx:Int)+1) from by omega] at s3
  rw [s3] at hx5
  have hz5 := hz4.far (p := ⟨w.heap.size, 1, none⟩) (by simp) (.int .i64 ((nx:Int)+1))
  have hb5 := hb4.setCell (p := ⟨w.heap.size, 1, none⟩) (by simp) (.int .i64 ((nx:Int)+1))
  have a1 : (_ : Option Value) = some (.int .i64 nx) := hx4.cell 1
  have af1 := hx4.frozen 1
  go_upto_region 26 with fail
  refine nameW ?_
  intro W5 hW5
  rw [← hW5] at hx5 hz5 hb5
  clear hW5 hx4 hz4 hb4 a1 af1 s3
  have a0 : (_ : Option Value) = some (.slice (some ⟨b,o,none⟩) n c) := hx5.cell 0
  have a1 : (_ : Option Value) = some (.int .i64 (((nx+1):Nat):Int)) := hx5.cell 1
  have a2 : (_ : Option Value) = some (.int .u64 (R 0)) := hx5.cell 2
  have a3 : (_ : Option Value) = some (.int .u64 (R 1)) := hx5.cell 3
  have a4 : (_ : Option Value) = some (.int .u64 (R 2)) := hx5.cell 4
  have a5 : (_ : Option Value) = some (.int .u64 (R 3)) := hx5.cell 5
  have a6 : (_ : Option Value) = some (.int .u64 (R 4)) := hx5.cell 6
  have a7 : (_ : Option Value) = some (.int .u64 (R 5)) := hx5.cell 7
  have a8 : (_ : Option Value) = some (.int .u64 (R 6)) := hx5.cell 8
  have a9 : (_ : Option Value) = some (.int .u64 (R 7)) := hx5.cell 9
  have z0 : (_ : Option Value) = some (.slice none 0 0) := hz5.cell 0
  have zf0 := hz5.frozen 0
  have z1 : (_ : Option Value) = some (.int .i64 0) := hz5.cell 1
  have zf1 := hz5.frozen 1
  have z2 : (_ : Option Value) = some (.int .u64 ((fun _=>(0:Int)) 0)) := hz5.cell 2
  have zf2 := hz5.frozen 2
  have z3 : (_ : Option Value) = some (.int .u64 ((fun _=>(0:Int)) 1)) := hz5.cell 3
  have zf3 := hz5.frozen 3
  have z4 : (_ : Option Value) = some (.int .u64 ((fun _=>(0:Int)) 2)) := hz5.cell 4
  have zf4 := hz5.frozen 4
  have z5 : (_ : Option Value) = some (.int .u64 ((fun _=>(0:Int)) 3)) := hz5.cell 5
  have zf5 := hz5.frozen 5
  have z6 : (_ : Option Value) = some (.int .u64 ((fun _=>(0:Int)) 4)) := hz5.cell 6
  have zf6 := hz5.frozen 6
  have z7 : (_ : Option Value) = some (.int .u64 ((fun _=>(0:Int)) 5)) := hz5.cell 7
  have zf7 := hz5.frozen 7
  have z8 : (_ : Option Value) = some (.int .u64 ((fun _=>(0:Int)) 6)) := hz5.cell 8
  have zf8 := hz5.frozen 8
  have z9 : (_ : Option Value) = some (.int .u64 ((fun _=>(0:Int)) 7)) := hz5.cell 9
  have zf9 := hz5.frozen 9
  try rw [show (((nx+1) : Nat) : Int) = ((nx:Int)+1) from by omega] at a1
  have hzF := hz5.ten (.slice (some ⟨b,o,none⟩) n c) (.int .i64 ((nx:Int)+1)) (.int .u64 (R 0)) (.int .u64 (R 1)) (.int .u64 (R 2)) (.int .u64 (R 3)) (.int .u64 (R 4)) (.int .u64 (R 5)) (.int .u64 (R 6)) (.int .u64 (R 7))
  have hbF := below_ten (g := w.heap.size + 1) hb5 (by omega) (.slice (some ⟨b,o,none⟩) n c) (.int .i64 ((nx:Int)+1)) (.int .u64 (R 0)) (.int .u64 (R 1)) (.int .u64 (R 2)) (.int .u64 (R 3)) (.int .u64 (R 4)) (.int .u64 (R 5)) (.int .u64 (R 6)) (.int .u64 (R 7))
  have HFX := hide hzF
  have HBF := hide hbF
  clear hx5 hz5 hb5 hzF hbF
  go_wp2
  have x0 := (unhide HFX).cell 0
  have x1 := (unhide HFX).cell 1
  have x2 := (unhide HFX).cell 2
  have x3 := (unhide HFX).cell 3
  have x4 := (unhide HFX).cell 4
  have x5 := (unhide HFX).cell 5
  have x6 := (unhide HFX).cell 6
  have x7 := (unhide HFX).cell 7
  have x8 := (unhide HFX).cell 8
  have x9 := (unhide HFX).cell 9
  refine bodyPost_ret (v := .agg #[.slice (some ⟨b,o,none⟩) n c, .int .i64 ((nx:Int)+1), .int .u64 (R 0), .int .u64 (R 1), .int .u64 (R 2), .int .u64 (R 3), .int .u64 (R 4), .int .u64 (R 5), .int .u64 (R 6), .int .u64 (R 7)]) (by simp [results, Try.results18, go_sem, x0, x1, x2, x3, x4, x5, x6, x7, x8, x9]) rfl ⟨?_, HBF.out⟩
  rw [HRR.out]

set_option maxRecDepth 100000 in
set_option maxHeartbeats 4000000 in
theorem rstep_jump (hp : Prog l) (hr : Rd w w.heap.size 5 A n (l.flatMap Ins.ci)) (hu : U64 r) {ka kb kc kn : Nat} (hx : l[nx]? = some ⟨5, ka, kb, kc, kn⟩) (hka : ka < 8) (hkb : kb < 8) (hkc : kc < 8) (hn : n ≤ 1000) :
    Calls Try.prog 18 #[tskV A n c nx r] w fun e w' => e = .returned (tskV A n c kn r) ∧ Below w.heap.size w w' := by
  have hln := hr.lenI
  have hlt : nx < n := by have := (List.getElem?_eq_some_iff.1 hx).1; omega
  have hW := fun w h => rwants_any (A := A) (n := n) (c := c) (nx := nx) (r := r) (w := w) (l := l) hp h hu
  have hB : wB l nx = false := by unfold wB; rw [hx]; rfl
  rw [hB] at hW
  obtain ⟨⟨p0, p1, p2, p3, p4, p5⟩, hq⟩ : ∃ q, wP l nx r = q := ⟨_, rfl⟩
  rw [hq] at hW
  simp only [tskV, tskC, rcallV, rcallP] at hW ⊢
  have HW := hide hW
  have HR := hide hr
  have HX := hide hx
  clear hW hr hq hB hx hln hu
  go_enter Try.func18, Try.ntmps18
  go_upto_region 1 with fail
  refine nameW ?_
  intro W0 hW0
  have hb0 : Below w.heap.size w W0 := by rw [hW0]; exact ((Below.refl _ _).alloc (Nat.le_refl _) _).alloc (by simp) _
  have hx0 : Bx W0 w.heap.size (tskC A n c nx r) := by rw [hW0]; exact (Bx.new _ _ _ _ rfl).alloc _
  have hz0 : Bx W0 (w.heap.size + 1) (tskC none 0 0 0 (fun _ => 0)) := by rw [hW0]; exact Bx.new _ _ _ _ (by simp)
  have hr0 := (unhide HR).to hb0
  clear hW0 HR
  have a0 : (_ : Option Value) = some (.slice A n c) := hx0.cell 0
  have a1 : (_ : Option Value) = some (.int .i64 nx) := hx0.cell 1
  have a2 : (_ : Option Value) = some (.int .u64 (r 0)) := hx0.cell 2
  have a3 : (_ : Option Value) = some (.int .u64 (r 1)) := hx0.cell 3
  have a4 : (_ : Option Value) = some (.int .u64 (r 2)) := hx0.cell 4
  have a5 : (_ : Option Value) = some (.int .u64 (r 3)) := hx0.cell 5
  have a6 : (_ : Option Value) = some (.int .u64 (r 4)) := hx0.cell 6
  have a7 : (_ : Option Value) = some (.int .u64 (r 5)) := hx0.cell 7
  have a8 : (_ : Option Value) = some (.int .u64 (r 6)) := hx0.cell 8
  have a9 : (_ : Option Value) = some (.int .u64 (r 7)) := hx0.cell 9
  go_wp2_with fail
  refine (unhide HW _ hr0).mono ?_
  rintro e w1 ⟨rfl, hb1⟩
  clear a0 a1 a2 a3 a4 a5 a6 a7 a8 a9
  go_upto_region 2 with fail
  refine nameW ?_
  intro W1 hW1
  have hby : Below w1.heap.size w1 W1 := by rw [hW1]; exact (Below.refl _ _).alloc (Nat.le_refl _) _
  have hx1 := (hx0.to hb1).to hby
  have hz1 := (hz0.to hb1).to hby
  have hr1 := (hr0.to hb1).to hby
  have hb2 := bt (bt hb0 hb1) hby
  clear hx0 hz0 hr0 hb1 hby hb0 hW1
  obtain ⟨b, o, y, rfl, hbl, hy, g0, g1, g2, g3, g4⟩ := hr1.insI hlt
  obtain rfl := Option.some.inj ((unhide HX).symm.trans hy)
  clear hr1 hy HX
  simp only at g0 g1 g2 g3 g4
  have a0 : (_ : Option Value) = some (.slice (some ⟨b,o,none⟩) n c) := hx1.cell 0
  have a1 : (_ : Option Value) = some (.int .i64 nx) := hx1.cell 1
  have a2 : (_ : Option Value) = some (.int .u64 (r 0)) := hx1.cell 2
  have a3 : (_ : Option Value) = some (.int .u64 (r 1)) := hx1.cell 3
  have a4 : (_ : Option Value) = some (.int .u64 (r 2)) := hx1.cell 4
  have a5 : (_ : Option Value) = some (.int .u64 (r 3)) := hx1.cell 5
  have a6 : (_ : Option Value) = some (.int .u64 (r 4)) := hx1.cell 6
  have a7 : (_ : Option Value) = some (.int .u64 (r 5)) := hx1.cell 7
  have a8 : (_ : Option Value) = some (.int .u64 (r 6)) := hx1.cell 8
  have a9 : (_ : Option Value) = some (.int .u64 (r 7)) := hx1.cell 9
  go_upto_region 5 with fail
  refine nameW ?_
  intro W3 hW3
  have hby : Below W1.heap.size W1 W3 := by rw [hW3]; exact (Below.refl _ _).alloc (Nat.le_refl _) _
  have hi3 : Bx W3 W1.heap.size #[.int .i64 5, .int .i64 ka, .int .i64 kb, .int .i64 kc, .int .i64 kn] := by rw [hW3]; exact Bx.new _ _ _ _ rfl
  clear a0 a1 a2 a3 a4 a5 a6 a7 a8 a9 g0 g1 g2 g3 g4 hW3
  have hgi := hx1.lt
  have hx3 := hx1.to hby
  have hz3 := hz1.to hby
  have hb3' := bt hb2 hby
  have i0 := hi3.cell 0
  have i1 := hi3.cell 1
  have i2 := hi3.cell 2
  have i3 := hi3.cell 3
  have i4 := hi3.cell 4
  have k1 := (hx3.cell (2 + kb)).trans (tsk_get _ n c nx r kb hkb)
  have k2 := (hx3.cell (2 + kc)).trans (tsk_get _ n c nx r kc hkc)
  have jb : (kb : Int) < 8 := by omega
  have jb1 : ((kb : Int)).toNat = kb := by omega
  have jc : (kc : Int) < 8 := by omega
  have jc1 : ((kc : Int)).toNat = kc := by omega
  go_quiet (fail)
  go_upto_region 6 with fail
  refine nameW ?_
  intro W2 hW2
  have hbd : Below W3.heap.size W3 W2 := by rw [hW2]; exact below_drewN (Below.refl _ _) _
  have hx2 := hx3.to hbd
  have hz2 := hz3.to hbd
  have hi2 := hi3.to hbd
  have hb3 := bt hb3' hbd
  clear hW2 hx1 hz1 hb2 hby hbd hi3 hx3 hz3 hb3' k1 k2 jb jb1 jc jc1 i0 i1 i2 i3 i4
  have a1 : (_ : Option Value) = some (.int .i64 nx) := hx2.cell 1
  have i0 := hi2.cell 0
  have i1 := hi2.cell 1
  have i2 := hi2.cell 2
  have i3 := hi2.cell 3
  have i4 := hi2.cell 4
  have q0 := hx2.frozen 1
  have q1 := (hx2.cell (2 + ka)).trans (tsk_get _ n c nx r ka hka)
  have q2 := hx2.frozen (2 + ka)
  go_upto_region 25 with fail
  refine nameW ?_
  intro W4 hW4
  have hx4 := hx2
  have hz4 := hz2
  have hb4 := hb3
  rw [← hW4] at hx4 hz4 hb4
  clear hx2 hz2 hi2 hb3 q0 q1 q2 a1 i0 i1 i2 i3 i4
  clear hW4
  obtain ⟨R, hR⟩ : ∃ R, r = R := ⟨_, rfl⟩
  rw [hR] at hx4
  have HRR := Lib.hid hR
  clear hR
  have hx5 := hx4.set_ 1 (.int .i64 (kn:Int))
  have s3 := tsk_next (some ⟨b, o, none⟩) n c nx R kn
  rw [show ((kn : Nat) : Int) = (kn:Int) from by omega] at s3
  rw [s3] at hx5
  have hz5 := hz4.far (p := ⟨w.heap.size, 1, none⟩) (by simp) (.int .i64 (kn:Int))
  have hb5 := hb4.setCell (p := ⟨w.heap.size, 1, none⟩) (by simp) (.int .i64 (kn:Int))
  have a1 : (_ : Option Value) = some (.int .i64 nx) := hx4.cell 1
  have af1 := hx4.frozen 1
  go_upto_region 26 with fail
  refine nameW ?_
  intro W5 hW5
  rw [← hW5] at hx5 hz5 hb5
  clear hW5 hx4 hz4 hb4 a1 af1 s3
  have a0 : (_ : Option Value) = some (.slice (some ⟨b,o,none⟩) n c) := hx5.cell 0
  have a1 : (_ : Option Value) = some (.int .i64 ((kn:Nat):Int)) := hx5.cell 1
  have a2 : (_ : Option Value) = some (.int .u64 (R 0)) := hx5.cell 2
  have a3 : (_ : Option Value) = some (.int .u64 (R 1)) := hx5.cell 3
  have a4 : (_ : Option Value) = some (.int .u64 (R 2)) := hx5.cell 4
  have a5 : (_ : Option Value) = some (.int .u64 (R 3)) := hx5.cell 5
  have a6 : (_ : Option Value) = some (.int .u64 (R 4)) := hx5.cell 6
  have a7 : (_ : Option Value) = some (.int .u64 (R 5)) := hx5.cell 7
  have a8 : (_ : Option Value) = some (.int .u64 (R 6)) := hx5.cell 8
  have a9 : (_ : Option Value) = some (.int .u64 (R 7)) := hx5.cell 9
  have z0 : (_ : Option Value) = some (.slice none 0 0) := hz5.cell 0
  have zf0 := hz5.frozen 0
  have z1 : (_ : Option Value) = some (.int .i64 0) := hz5.cell 1
  have zf1 := hz5.frozen 1
  have z2 : (_ : Option Value) = some (.int .u64 ((fun _=>(0:Int)) 0)) := hz5.cell 2
  have zf2 := hz5.frozen 2
  have z3 : (_ : Option Value) = some (.int .u64 ((fun _=>(0:Int)) 1)) := hz5.cell 3
  have zf3 := hz5.frozen 3
  have z4 : (_ : Option Value) = some (.int .u64 ((fun _=>(0:Int)) 2)) := hz5.cell 4
  have zf4 := hz5.frozen 4
  have z5 : (_ : Option Value) = some (.int .u64 ((fun _=>(0:Int)) 3)) := hz5.cell 5
  have zf5 := hz5.frozen 5
  have z6 : (_ : Option Value) = some (.int .u64 ((fun _=>(0:Int)) 4)) := hz5.cell 6
  have zf6 := hz5.frozen 6
  have z7 : (_ : Option Value) = some (.int .u64 ((fun _=>(0:Int)) 5)) := hz5.cell 7
  have zf7 := hz5.frozen 7
  have z8 : (_ : Option Value) = some (.int .u64 ((fun _=>(0:Int)) 6)) := hz5.cell 8
  have zf8 := hz5.frozen 8
  have z9 : (_ : Option Value) = some (.int .u64 ((fun _=>(0:Int)) 7)) := hz5.cell 9
  have zf9 := hz5.frozen 9
  try rw [show ((kn : Nat) : Int) = (kn:Int) from by omega] at a1
  have hzF := hz5.ten (.slice (some ⟨b,o,none⟩) n c) (.int .i64 (kn:Int)) (.int .u64 (R 0)) (.int .u64 (R 1)) (.int .u64 (R 2)) (.int .u64 (R 3)) (.int .u64 (R 4)) (.int .u64 (R 5)) (.int .u64 (R 6)) (.int .u64 (R 7))
  have hbF := below_ten (g := w.heap.size + 1) hb5 (by omega) (.slice (some ⟨b,o,none⟩) n c) (.int .i64 (kn:Int)) (.int .u64 (R 0)) (.int .u64 (R 1)) (.int .u64 (R 2)) (.int .u64 (R 3)) (.int .u64 (R 4)) (.int .u64 (R 5)) (.int .u64 (R 6)) (.int .u64 (R 7))
  have HFX := hide hzF
  have HBF := hide hbF
  clear hx5 hz5 hb5 hzF hbF
  go_wp2
  have x0 := (unhide HFX).cell 0
  have x1 := (unhide HFX).cell 1
  have x2 := (unhide HFX).cell 2
  have x3 := (unhide HFX).cell 3
  have x4 := (unhide HFX).cell 4
  have x5 := (unhide HFX).cell 5
  have x6 := (unhide HFX).cell 6
  have x7 := (unhide HFX).cell 7
  have x8 := (unhide HFX).cell 8
  have x9 := (unhide HFX).cell 9
  refine bodyPost_ret (v := .agg #[.slice (some ⟨b,o,none⟩) n c, .int .i64 (kn:Int), .int .u64 (R 0), .int .u64 (R 1), .int .u64 (R 2), .int .u64 (R 3), .int .u64 (R 4), .int .u64 (R 5), .int .u64 (R 6), .int .u64 (R 7)]) (by simp [results, Try.results18, go_sem, x0, x1, x2, x3, x4, x5, x6, x7, x8, x9]) rfl ⟨?_, HBF.out⟩
  rw [HRR.out]

set_option maxRecDepth 100000 in
set_option maxHeartbeats 4000000 in
theorem rstep_if (hp : Prog l) (hr : Rd w w.heap.size 5 A n (l.flatMap Ins.ci)) (hu : U64 r) {ka kb kc kn : Nat} (hx : l[nx]? = some ⟨6, ka, kb, kc, kn⟩) (hka : ka < 8) (hkb : kb < 8) (hkc : kc < 8) (hn : n ≤ 1000) (hz : r ka ≠ 0) :
    Calls Try.prog 18 #[tskV A n c nx r] w fun e w' => e = .returned (tskV A n c kn r) ∧ Below w.heap.size w w' := by
  have hz1 : 0 < r ka := by have := (hu ka hka).1; omega
  have hln := hr.lenI
  have hlt : nx < n := by have := (List.getElem?_eq_some_iff.1 hx).1; omega
  have hW := fun w h => rwants_any (A := A) (n := n) (c := c) (nx := nx) (r := r) (w := w) (l := l) hp h hu
  have hB : wB l nx = false := by unfold wB; rw [hx]; rfl
  rw [hB] at hW
  obtain ⟨⟨p0, p1, p2, p3, p4, p5⟩, hq⟩ : ∃ q, wP l nx r = q := ⟨_, rfl⟩
  rw [hq] at hW
  simp only [tskV, tskC, rcallV, rcallP] at hW ⊢
  have HW := hide hW
  have HR := hide hr
  have HX := hide hx
  clear hW hr hq hB hx hln hu
  go_enter Try.func18, Try.ntmps18
  go_upto_region 1 with fail
  refine nameW ?_
  intro W0 hW0
  have hb0 : Below w.heap.size w W0 := by rw [hW0]; exact ((Below.refl _ _).alloc (Nat.le_refl _) _).alloc (by simp) _
  have hx0 : Bx W0 w.heap.size (tskC A n c nx r) := by rw [hW0]; exact (Bx.new _ _ _ _ rfl).alloc _
  have hz0 : Bx W0 (w.heap.size + 1) (tskC none 0 0 0 (fun _ => 0)) := by rw [hW0]; exact Bx.new _ _ _ _ (by simp)
  have hr0 := (unhide HR).to hb0
  clear hW0 HR
  have a0 : (_ : Option Value) = some (.slice A n c) := hx0.cell 0
  have a1 : (_ : Option Value) = some (.int .i64 nx) := hx0.cell 1
  have a2 : (_ : Option Value) = some (.int .u64 (r 0)) := hx0.cell 2
  have a3 : (_ : Option Value) = some (.int .u64 (r 1)) := hx0.cell 3
  have a4 : (_ : Option Value) = some (.int .u64 (r 2)) := hx0.cell 4
  have a5 : (_ : Option Value) = some (.int .u64 (r 3)) := hx0.cell 5
  have a6 : (_ : Option Value) = some (.int .u64 (r 4)) := hx0.cell 6
  have a7 : (_ : Option Value) = some (.int .u64 (r 5)) := hx0.cell 7
  have a8 : (_ : Option Value) = some (.int .u64 (r 6)) := hx0.cell 8
  have a9 : (_ : Option Value) = some (.int .u64 (r 7)) := hx0.cell 9
  go_wp2_with fail
  refine (unhide HW _ hr0).mono ?_
  rintro e w1 ⟨rfl, hb1⟩
  clear a0 a1 a2 a3 a4 a5 a6 a7 a8 a9
  go_upto_region 2 with fail
  refine nameW ?_
  intro W1 hW1
  have hby : Below w1.heap.size w1 W1 := by rw [hW1]; exact (Below.refl _ _).alloc (Nat.le_refl _) _
  have hx1 := (hx0.to hb1).to hby
  have hz1 := (hz0.to hb1).to hby
  have hr1 := (hr0.to hb1).to hby
  have hb2 := bt (bt hb0 hb1) hby
  clear hx0 hz0 hr0 hb1 hby hb0 hW1
  obtain ⟨b, o, y, rfl, hbl, hy, g0, g1, g2, g3, g4⟩ := hr1.insI hlt
  obtain rfl := Option.some.inj ((unhide HX).symm.trans hy)
  clear hr1 hy HX
  simp only at g0 g1 g2 g3 g4
  have a0 : (_ : Option Value) = some (.slice (some ⟨b,o,none⟩) n c) := hx1.cell 0
  have a1 : (_ : Option Value) = some (.int .i64 nx) := hx1.cell 1
  have a2 : (_ : Option Value) = some (.int .u64 (r 0)) := hx1.cell 2
  have a3 : (_ : Option Value) = some (.int .u64 (r 1)) := hx1.cell 3
  have a4 : (_ : Option Value) = some (.int .u64 (r 2)) := hx1.cell 4
  have a5 : (_ : Option Value) = some (.int .u64 (r 3)) := hx1.cell 5
  have a6 : (_ : Option Value) = some (.int .u64 (r 4)) := hx1.cell 6
  have a7 : (_ : Option Value) = some (.int .u64 (r 5)) := hx1.cell 7
  have a8 : (_ : Option Value) = some (.int .u64 (r 6)) := hx1.cell 8
  have a9 : (_ : Option Value) = some (.int .u64 (r 7)) := hx1.cell 9
  go_upto_region 5 with fail
  refine nameW ?_
  intro W3 hW3
  have hby : Below W1.heap.size W1 W3 := by rw [hW3]; exact (Below.refl _ _).alloc (Nat.le_refl _) _
  have hi3 : Bx W3 W1.heap.size #[.int .i64 6, .int .i64 ka, .int .i64 kb, .int .i64 kc, .int .i64 kn] := by rw [hW3]; exact Bx.new _ _ _ _ rfl
  clear a0 a1 a2 a3 a4 a5 a6 a7 a8 a9 g0 g1 g2 g3 g4 hW3
  have hgi := hx1.lt
  have hx3 := hx1.to hby
  have hz3 := hz1.to hby
  have hb3' := bt hb2 hby
  have i0 := hi3.cell 0
  have i1 := hi3.cell 1
  have i2 := hi3.cell 2
  have i3 := hi3.cell 3
  have i4 := hi3.cell 4
  have k1 := (hx3.cell (2 + kb)).trans (tsk_get _ n c nx r kb hkb)
  have k2 := (hx3.cell (2 + kc)).trans (tsk_get _ n c nx r kc hkc)
  have jb : (kb : Int) < 8 := by omega
  have jb1 : ((kb : Int)).toNat = kb := by omega
  have jc : (kc : Int) < 8 := by omega
  have jc1 : ((kc : Int)).toNat = kc := by omega
  go_quiet (fail)
  go_upto_region 6 with fail
  refine nameW ?_
  intro W2 hW2
  have hbd : Below W3.heap.size W3 W2 := by rw [hW2]; exact below_drewN (Below.refl _ _) _
  have hx2 := hx3.to hbd
  have hz2 := hz3.to hbd
  have hi2 := hi3.to hbd
  have hb3 := bt hb3' hbd
  clear hW2 hx1 hz1 hb2 hby hbd hi3 hx3 hz3 hb3' k1 k2 jb jb1 jc jc1 i0 i1 i2 i3 i4
  have a1 : (_ : Option Value) = some (.int .i64 nx) := hx2.cell 1
  have i0 := hi2.cell 0
  have i1 := hi2.cell 1
  have i2 := hi2.cell 2
  have i3 := hi2.cell 3
  have i4 := hi2.cell 4
  have q0 := hx2.frozen 1
  have q1 := (hx2.cell (2 + ka)).trans (tsk_get _ n c nx r ka hka)
  have q2 := hx2.frozen (2 + ka)
  have ja : (ka : Int) < 8 := by omega
  have ja1 : ((ka : Int)).toNat = ka := by omega
  go_upto_region 25 with fail
  refine nameW ?_
  intro W4 hW4
  have hx4 := hx2
  have hz4 := hz2
  have hb4 := hb3
  rw [← hW4] at hx4 hz4 hb4
  clear hx2 hz2 hi2 hb3 q0 q1 q2 a1 i0 i1 i2 i3 i4
  clear hW4
  obtain ⟨R, hR⟩ : ∃ R, r = R := ⟨_, rfl⟩
  rw [hR] at hx4
  have HRR := Lib.hid hR
  clear hR
  have hx5 := hx4.set_ 1 (.int .i64 (kn:Int))
  have s3 := tsk_next (some ⟨b, o, none⟩) n c nx R kn
  rw [show ((kn : Nat) : Int) = (kn:Int) from by omega] at s3
  rw [s3] at hx5
  have hz5 := hz4.far (p := ⟨w.heap.size, 1, none⟩) (by simp) (.int .i64 (kn:Int))
  have hb5 := hb4.setCell (p := ⟨w.heap.size, 1, none⟩) (by simp) (.int .i64 (kn:Int))
  have a1 : (_ : Option Value) = some (.int .i64 nx) := hx4.cell 1
  have af1 := hx4.frozen 1
  go_upto_region 26 with fail
  refine nameW ?_
  intro W5 hW5
  rw [← hW5] at hx5 hz5 hb5
  clear hW5 hx4 hz4 hb4 a1 af1 s3
  have a0 : (_ : Option Value) = some (.slice (some ⟨b,o,none⟩) n c) := hx5.cell 0
  have a1 : (_ : Option Value) = some (.int .i64 ((kn:Nat):Int)) := hx5.cell 1
  have a2 : (_ : Option Value) = some (.int .u64 (R 0)) := hx5.cell 2
  have a3 : (_ : Option Value) = some (.int .u64 (R 1)) := hx5.cell 3
  have a4 : (_ : Option Value) = some (.int .u64 (R 2)) := hx5.cell 4
  have a5 : (_ : Option Value) = some (.int .u64 (R 3)) := hx5.cell 5
  have a6 : (_ : Option Value) = some (.int .u64 (R 4)) := hx5.cell 6
  have a7 : (_ : Option Value) = some (.int .u64 (R 5)) := hx5.cell 7
  have a8 : (_ : Option Value) = some (.int .u64 (R 6)) := hx5.cell 8
  have a9 : (_ : Option Value) = some (.int .u64 (R 7)) := hx5.cell 9
  have z0 : (_ : Option Value) = some (.slice none 0 0) := hz5.cell 0
  have zf0 := hz5.frozen 0
  have z1 : (_ : Option Value) = some (.int .i64 0) := hz5.cell 1
  have zf1 := hz5.frozen 1
  have z2 : (_ : Option Value) = some (.int .u64 ((fun _=>(0:Int)) 0)) := hz5.cell 2
  have zf2 := hz5.frozen 2
  have z3 : (_ : Option Value) = some (.int .u64 ((fun _=>(0:Int)) 1)) := hz5.cell 3
  have zf3 := hz5.frozen 3
  have z4 : (_ : Option Value) = some (.int .u64 ((fun _=>(0:Int)) 2)) := hz5.cell 4
  have zf4 := hz5.frozen 4
  have z5 : (_ : Option Value) = some (.int .u64 ((fun _=>(0:Int)) 3)) := hz5.cell 5
  have zf5 := hz5.frozen 5
  have z6 : (_ : Option Value) = some (.int .u64 ((fun _=>(0:Int)) 4)) := hz5.cell 6
  have zf6 := hz5.frozen 6
  have z7 : (_ : Option Value) = some (.int .u64 ((fun _=>(0:Int)) 5)) := hz5.cell 7
  have zf7 := hz5.frozen 7
  have z8 : (_ : Option Value) = some (.int .u64 ((fun _=>(0:Int)) 6)) := hz5.cell 8
  have zf8 := hz5.frozen 8
  have z9 : (_ : Option Value) = some (.int .u64 ((fun _=>(0:Int)) 7)) := hz5.cell 9
  have zf9 := hz5.frozen 9
  try rw [show ((kn : Nat) : Int) = (kn:Int) from by omega] at a1
  have hzF := hz5.ten (.slice (some ⟨b,o,none⟩) n c) (.int .i64 (kn:Int)) (.int .u64 (R 0)) (.int .u64 (R 1)) (.int .u64 (R 2)) (.int .u64 (R 3)) (.int .u64 (R 4)) (.int .u64 (R 5)) (.int .u64 (R 6)) (.int .u64 (R 7))
  have hbF := below_ten (g := w.heap.size + 1) hb5 (by omega) (.slice (some ⟨b,o,none⟩) n c) (.int .i64 (kn:Int)) (.int .u64 (R 0)) (.int .u64 (R 1)) (.int .u64 (R 2)) (.int .u64 (R 3)) (.int .u64 (R 4)) (.int .u64 (R 5)) (.int .u64 (R 6)) (.int .u64 (R 7))
  have HFX := hide hzF
  have HBF := hide hbF
  clear hx5 hz5 hb5 hzF hbF
  go_wp2
  have x0 := (unhide HFX).cell 0
  have x1 := (unhide HFX).cell 1
  have x2 := (unhide HFX).cell 2
  have x3 := (unhide HFX).cell 3
  have x4 := (unhide HFX).cell 4
  have x5 := (unhide HFX).cell 5
  have x6 := (unhide HFX).cell 6
  have x7 := (unhide HFX).cell 7
  have x8 := (unhide HFX).cell 8
  have x9 := (unhide HFX).cell 9
  refine bodyPost_ret (v := .agg #[.slice (some ⟨b,o,none⟩) n c, .int .i64 (kn:Int), .int .u64 (R 0), .int .u64 (R 1), .int .u64 (R 2), .int .u64 (R 3), .int .u64 (R 4), .int .u64 (R 5), .int .u64 (R 6), .int .u64 (R 7)]) (by simp [results, Try.results18, go_sem, x0, x1, x2, x3, x4, x5, x6, x7, x8, x9]) rfl ⟨?_, HBF.out⟩
  rw [HRR.out]

set_option maxRecDepth 100000 in
set_option maxHeartbeats 4000000 in
theorem rstep_else (hp : Prog l) (hr : Rd w w.heap.size 5 A n (l.flatMap Ins.ci)) (hu : U64 r) {ka kb kc kn : Nat} (hx : l[nx]? = some ⟨6, ka, kb, kc, kn⟩) (hka : ka < 8) (hkb : kb < 8) (hkc : kc < 8) (hn : n ≤ 1000) (hz : r ka = 0) :
    Calls Try.prog 18 #[tskV A n c nx r] w fun e w' => e = .returned (tskV A n c (nx+1) r) ∧ Below w.heap.size w w' := by
  have HZ := Lib.hid hz
  clear hz
  have hln := hr.lenI
  have hlt : nx < n := by have := (List.getElem?_eq_some_iff.1 hx).1; omega
  have hW := fun w h => rwants_any (A := A) (n := n) (c := c) (nx := nx) (r := r) (w := w) (l := l) hp h hu
  have hB : wB l nx = false := by unfold wB; rw [hx]; rfl
  rw [hB] at hW
  obtain ⟨⟨p0, p1, p2, p3, p4, p5⟩, hq⟩ : ∃ q, wP l nx r = q := ⟨_, rfl⟩
  rw [hq] at hW
  simp only [tskV, tskC, rcallV, rcallP] at hW ⊢
  have HW := hide hW
  have HR := hide hr
  have HX := hide hx
  clear hW hr hq hB hx hln hu
  go_enter Try.func18, Try.ntmps18
  go_upto_region 1 with fail
  refine nameW ?_
  intro W0 hW0
  have hb0 : Below w.heap.size w W0 := by rw [hW0]; exact ((Below.refl _ _).alloc (Nat.le_refl _) _).alloc (by simp) _
  have hx0 : Bx W0 w.heap.size (tskC A n c nx r) := by rw [hW0]; exact (Bx.new _ _ _ _ rfl).alloc _
  have hz0 : Bx W0 (w.heap.size + 1) (tskC none 0 0 0 (fun _ => 0)) := by rw [hW0]; exact Bx.new _ _ _ _ (by simp)
  have hr0 := (unhide HR).to hb0
  clear hW0 HR
  have a0 : (_ : Option Value) = some (.slice A n c) := hx0.cell 0
  have a1 : (_ : Option Value) = some (.int .i64 nx) := hx0.cell 1
  have a2 : (_ : Option Value) = some (.int .u64 (r 0)) := hx0.cell 2
  have a3 : (_ : Option Value) = some (.int .u64 (r 1)) := hx0.cell 3
  have a4 : (_ : Option Value) = some (.int .u64 (r 2)) := hx0.cell 4
  have a5 : (_ : Option Value) = some (.int .u64 (r 3)) := hx0.cell 5
  have a6 : (_ : Option Value) = some (.int .u64 (r 4)) := hx0.cell 6
  have a7 : (_ : Option Value) = some (.int .u64 (r 5)) := hx0.cell 7
  have a8 : (_ : Option Value) = some (.int .u64 (r 6)) := hx0.cell 8
  have a9 : (_ : Option Value) = some (.int .u64 (r 7)) := hx0.cell 9
  go_wp2_with fail
  refine (unhide HW _ hr0).mono ?_
  rintro e w1 ⟨rfl, hb1⟩
  clear a0 a1 a2 a3 a4 a5 a6 a7 a8 a9
  go_upto_region 2 with fail
  refine nameW ?_
  intro W1 hW1
  have hby : Below w1.heap.size w1 W1 := by rw [hW1]; exact (Below.refl _ _).alloc (Nat.le_refl _) _
  have hx1 := (hx0.to hb1).to hby
  have hz1 := (hz0.to hb1).to hby
  have hr1 := (hr0.to hb1).to hby
  have hb2 := bt (bt hb0 hb1) hby
  clear hx0 hz0 hr0 hb1 hby hb0 hW1
  obtain ⟨b, o, y, rfl, hbl, hy, g0, g1, g2, g3, g4⟩ := hr1.insI hlt
  obtain rfl := Option.some.inj ((unhide HX).symm.trans hy)
  clear hr1 hy HX
  simp only at g0 g1 g2 g3 g4
  have a0 : (_ : Option Value) = some (.slice (some ⟨b,o,none⟩) n c) := hx1.cell 0
  have a1 : (_ : Option Value) = some (.int .i64 nx) := hx1.cell 1
  have a2 : (_ : Option Value) = some (.int .u64 (r 0)) := hx1.cell 2
  have a3 : (_ : Option Value) = some (.int .u64 (r 1)) := hx1.cell 3
  have a4 : (_ : Option Value) = some (.int .u64 (r 2)) := hx1.cell 4
  have a5 : (_ : Option Value) = some (.int .u64 (r 3)) := hx1.cell 5
  have a6 : (_ : Option Value) = some (.int .u64 (r 4)) := hx1.cell 6
  have a7 : (_ : Option Value) = some (.int .u64 (r 5)) := hx1.cell 7
  have a8 : (_ : Option Value) = some (.int .u64 (r 6)) := hx1.cell 8
  have a9 : (_ : Option Value) = some (.int .u64 (r 7)) := hx1.cell 9
  go_upto_region 5 with fail
  refine nameW ?_
  intro W3 hW3
  have hby : Below W1.heap.size W1 W3 := by rw [hW3]; exact (Below.refl _ _).alloc (Nat.le_refl _) _
  have hi3 : Bx W3 W1.heap.size #[.int .i64 6, .int .i64 ka, .int .i64 kb, .int .i64 kc, .int .i64 kn] := by rw [hW3]; exact Bx.new _ _ _ _ rfl
  clear a0 a1 a2 a3 a4 a5 a6 a7 a8 a9 g0 g1 g2 g3 g4 hW3
  have hgi := hx1.lt
  have hx3 := hx1.to hby
  have hz3 := hz1.to hby
  have hb3' := bt hb2 hby
  have i0 := hi3.cell 0
  have i1 := hi3.cell 1
  have i2 := hi3.cell 2
  have i3 := hi3.cell 3
  have i4 := hi3.cell 4
  have k1 := (hx3.cell (2 + kb)).trans (tsk_get _ n c nx r kb hkb)
  have k2 := (hx3.cell (2 + kc)).trans (tsk_get _ n c nx r kc hkc)
  have jb : (kb : Int) < 8 := by omega
  have jb1 : ((kb : Int)).toNat = kb := by omega
  have jc : (kc : Int) < 8 := by omega
  have jc1 : ((kc : Int)).toNat = kc := by omega
  go_quiet (fail)
  go_upto_region 6 with fail
  refine nameW ?_
  intro W2 hW2
  have hbd : Below W3.heap.size W3 W2 := by rw [hW2]; exact below_drewN (Below.refl _ _) _
  have hx2 := hx3.to hbd
  have hz2 := hz3.to hbd
  have hi2 := hi3.to hbd
  have hb3 := bt hb3' hbd
  clear hW2 hx1 hz1 hb2 hby hbd hi3 hx3 hz3 hb3' k1 k2 jb jb1 jc jc1 i0 i1 i2 i3 i4
  have a1 : (_ : Option Value) = some (.int .i64 nx) := hx2.cell 1
  have i0 := hi2.cell 0
  have i1 := hi2.cell 1
  have i2 := hi2.cell 2
  have i3 := hi2.cell 3
  have i4 := hi2.cell 4
  have q0 := hx2.frozen 1
  have q1 := (hx2.cell (2 + ka)).trans (tsk_get _ n c nx r ka hka)
  have q2 := hx2.frozen (2 + ka)
  rw [HZ.out] at q1
  have ja : (ka : Int) < 8 := by omega
  have ja1 : ((ka : Int)).toNat = ka := by omega
  go_upto_region 25 with fail
  refine nameW ?_
  intro W4 hW4
  have hx4 := hx2
  have hz4 := hz2
  have hb4 := hb3
  rw [← hW4] at hx4 hz4 hb4
  clear hx2 hz2 hi2 hb3 q0 q1 q2 a1 i0 i1 i2 i3 i4
  clear hW4
  obtain ⟨R, hR⟩ : ∃ R, r = R := ⟨_, rfl⟩
  rw [hR] at hx4
  have HRR := Lib.hid hR
  clear hR
  have hx5 := hx4.set_ 1 (.int .i64 ((nx:Int)+1))
  have s3 := tsk_next (some ⟨b, o, none⟩) n c nx R (nx+1)
  rw [show (((nx+1) : Nat) : Int) = ((nx:Int)+1) from by omega] at s3
  rw [s3] at hx5
  have hz5 := hz4.far (p := ⟨w.heap.size, 1, none⟩) (by simp) (.int .i64 ((nx:Int)+1))
  have hb5 := hb4.setCell (p := ⟨w.heap.size, 1, none⟩) (by simp) (.int .i64 ((nx:Int)+1))
  have a1 : (_ : Option Value) = some (.int .i64 nx) := hx4.cell 1
  have af1 := hx4.frozen 1
  go_upto_region 26 with fail
  refine nameW ?_
  intro W5 hW5
  rw [← hW5] at hx5 hz5 hb5
  clear hW5 hx4 hz4 hb4 a1 af1 s3
  have a0 : (_ : Option Value) = some (.slice (some ⟨b,o,none⟩) n c) := hx5.cell 0
  have a1 : (_ : Option Value) = some (.int .i64 (((nx+1):Nat):Int)) := hx5.cell 1
  have a2 : (_ : Option Value) = some (.int .u64 (R 0)) := hx5.cell 2
  have a3 : (_ : Option Value) = some (.int .u64 (R 1)) := hx5.cell 3
  have a4 : (_ : Option Value) = some (.int .u64 (R 2)) := hx5.cell 4
  have a5 : (_ : Option Value) = some (.int .u64 (R 3)) := hx5.cell 5
  have a6 : (_ : Option Value) = some (.int .u64 (R 4)) := hx5.cell 6
  have a7 : (_ : Option Value) = some (.int .u64 (R 5)) := hx5.cell 7
  have a8 : (_ : Option Value) = some (.int .u64 (R 6)) := hx5.cell 8
  have a9 : (_ : Option Value) = some (.int .u64 (R 7)) := hx5.cell 9
  have z0 : (_ : Option Value) = some (.slice none 0 0) := hz5.cell 0
  have zf0 := hz5.frozen 0
  have z1 : (_ : Option Value) = some (.int .i64 0) := hz5.cell 1
  have zf1 := hz5.frozen 1
  have z2 : (_ : Option Value) = some (.int .u64 ((fun _=>(0:Int)) 0)) := hz5.cell 2
  have zf2 := hz5.frozen 2
  have z3 : (_ : Option Value) = some (.int .u64 ((fun _=>(0:Int)) 1)) := hz5.cell 3
  have zf3 := hz5.frozen 3
  have z4 : (_ : Option Value) = some (.int .u64 ((fun _=>(0:Int)) 2)) := hz5.cell 4
  have zf4 := hz5.frozen 4
  have z5 : (_ : Option Value) = some (.int .u64 ((fun _=>(0:Int)) 3)) := hz5.cell 5
  have zf5 := hz5.frozen 5
  have z6 : (_ : Option Value) = some (.int .u64 ((fun _=>(0:Int)) 4)) := hz5.cell 6
  have zf6 := hz5.frozen 6
  have z7 : (_ : Option Value) = some (.int .u64 ((fun _=>(0:Int)) 5)) := hz5.cell 7
  have zf7 := hz5.frozen 7
  have z8 : (_ : Option Value) = some (.int .u64 ((fun _=>(0:Int)) 6)) := hz5.cell 8
  have zf8 := hz5.frozen 8
  have z9 : (_ : Option Value) = some (.int .u64 ((fun _=>(0:Int)) 7)) := hz5.cell 9
  have zf9 := hz5.frozen 9
  try rw [show (((nx+1) : Nat) : Int) = ((nx:Int)+1) from by omega] at a1
  have hzF := hz5.ten (.slice (some ⟨b,o,none⟩) n c) (.int .i64 ((nx:Int)+1)) (.int .u64 (R 0)) (.int .u64 (R 1)) (.int .u64 (R 2)) (.int .u64 (R 3)) (.int .u64 (R 4)) (.int .u64 (R 5)) (.int .u64 (R 6)) (.int .u64 (R 7))
  have hbF := below_ten (g := w.heap.size + 1) hb5 (by omega) (.slice (some ⟨b,o,none⟩) n c) (.int .i64 ((nx:Int)+1)) (.int .u64 (R 0)) (.int .u64 (R 1)) (.int .u64 (R 2)) (.int .u64 (R 3)) (.int .u64 (R 4)) (.int .u64 (R 5)) (.int .u64 (R 6)) (.int .u64 (R 7))
  have HFX := hide hzF
  have HBF := hide hbF
  clear hx5 hz5 hb5 hzF hbF
  go_wp2
  have x0 := (unhide HFX).cell 0
  have x1 := (unhide HFX).cell 1
  have x2 := (unhide HFX).cell 2
  have x3 := (unhide HFX).cell 3
  have x4 := (unhide HFX).cell 4
  have x5 := (unhide HFX).cell 5
  have x6 := (unhide HFX).cell 6
  have x7 := (unhide HFX).cell 7
  have x8 := (unhide HFX).cell 8
  have x9 := (unhide HFX).cell 9
  refine bodyPost_ret (v := .agg #[.slice (some ⟨b,o,none⟩) n c, .int .i64 ((nx:Int)+1), .int .u64 (R 0), .int .u64 (R 1), .int .u64 (R 2), .int .u64 (R 3), .int .u64 (R 4), .int .u64 (R 5), .int .u64 (R 6), .int .u64 (R 7)]) (by simp [results, Try.results18, go_sem, x0, x1, x2, x3, x4, x5, x6, x7, x8, x9]) rfl ⟨?_, HBF.out⟩
  rw [HRR.out]
end
end Go.Proofs.Ytmiagijgecgfoaa
