/-
  The walk of task.Takes, at a call.
-/
import Derived.Test.YtmiagijgecgfoaaTStep3
import Derived.Deep.DeepCutAuto
namespace Go.Proofs.Ytmiagijgecgfoaa
open Go.RowKit

/-- the next place behind what came of a call -/
def tN (l : List Ins) (nx : Nat) : Nat := match l[nx]? with
  | none => nx
  | some _ => nx + 1
/-- the registers behind it -/
def tR (l : List Ins) (nx : Nat) (r : Nat → Int) (e v h : Int) : Nat → Int := match l[nx]? with
  | none => r
  | some x => upd (upd (upd r x.a.toNat v) 4 h) 7 (IntKind.u64.wrap e)
def resV (e v h : Int) : Value := .agg #[.int .i64 e, .int .u64 v, .int .u32 h]

/-- the world under a name -/
theorem nameW {P : Program} {c : Code} {Q : Exit → Act → World → Prop} {a : Act} {w : World} (h : ∀ W, W = w → c.wp P Q a W) : c.wp P Q a w := h _ rfl

section
variable {l : List Ins} {A : Option Addr} {n c nx : Nat} {r : Nat → Int} {w : World}

set_option maxRecDepth 100000 in
set_option maxHeartbeats 4000000 in
theorem takes_in (hp : Prog l) (hr : Rd w w.heap.size 5 A n (l.flatMap Ins.cu)) (hc : wB l nx = true) {xo ka kb kc kn : Nat} (hx : l[nx]? = some ⟨xo, ka, kb, kc, kn⟩) (hka : ka < 8) (e v h : Int) (hh : 0 ≤ h ∧ h ≤ 4294967295) (hn : n ≤ 1000) :
    Calls Try.prog 20 #[tskV A n c nx r, resV e v h] w fun e' w' => e' = .returned (tskV A n c (nx + 1) (upd (upd (upd r ka v) 4 h) 7 (IntKind.u64.wrap e))) ∧ Below w.heap.size w w' := by
  have hln := hr.lenU
  have hlt : nx < n := by have := (List.getElem?_eq_some_iff.1 hx).1; omega
  have hW := fun w h => wants_any (A := A) (n := n) (c := c) (nx := nx) (r := r) (w := w) (l := l) hp h
  have hI := fun w h => instr_in (A := A) (n := n) (c := c) (r := r) (w := w) (l := l) h hx
  rw [hc] at hW
  obtain ⟨⟨p0, p1, p2, p3, p4, p5⟩, hq⟩ : ∃ q, wP l nx r = q := ⟨_, rfl⟩
  rw [hq] at hW
  have wh : IntKind.u64.wrap h = h := IntWalk.u64_in _ (by omega)
  have hka2 : (ka : Int) % 8 = ka := by omega
  simp only [tskV, tskC, callP, callV, resV] at hW hI ⊢
  have HW := hide hW
  have HI := hide hI
  have HR := hide hr
  clear hW hI hr hq hc hx hln
  go_enter Try.func20, Try.ntmps20
  go_upto_region 1 with fail
  refine nameW ?_
  intro W0 hW0
  have hb0 : Below w.heap.size w W0 := by rw [hW0]; exact (((Below.refl _ _).alloc (Nat.le_refl _) _).alloc (by simp) _).alloc (by simp; omega) _
  have hx0 : Bx W0 w.heap.size (tskC A n c nx r) := by rw [hW0]; exact ((Bx.new _ _ _ _ rfl).alloc _).alloc _
  have hy0 : Bx W0 (w.heap.size + 1) #[.int .i64 e, .int .u64 v, .int .u32 h] := by rw [hW0]; exact (Bx.new _ _ _ _ (by simp)).alloc _
  have hz0 : Bx W0 (w.heap.size + 1 + 1) (tskC none 0 0 0 (fun _ => 0)) := by rw [hW0]; exact Bx.new _ _ _ _ (by simp)
  have hr0 := (unhide HR).to hb0
  clear hW0 HR
  have a0 : (_ : Option Value) = some (.slice A n c) := hx0.cell 0
  have a1 : (_ : Option Value) = some (.int .i64 nx) := hx0.cell 1
  have a2 : (_ : Option Value) = some (.int .u64 (r 0)) := hx0.cell 2
  have a3 : (_ : Option Value) = some (.int .u64 (r 1)) := hx0.cell 3
  have a4 : (_ : Option Value) = some (.int .u64 (r 2)) := hx0.cell 4
  have a5 : (_ : Option Value) = some (.int .u64 (r 3)) := hx0.cell 5
  have a6 : (_ : Option Value) = some (.int .u64 (r 4)) := hx0.cell 6
  have a7 : (_ : Option Value) = some (.int .u64 (r 5)) := hx0.cell 7
  have a8 : (_ : Option Value) = some (.int .u64 (r 6)) := hx0.cell 8
  have a9 : (_ : Option Value) = some (.int .u64 (r 7)) := hx0.cell 9
  go_wp2_with fail
  refine (unhide HI _ hr0).mono ?_
  rintro e w1 ⟨rfl, hb1⟩
  clear a0 a1 a2 a3 a4 a5 a6 a7 a8 a9
  go_upto_region 2 with fail
  refine nameW ?_
  intro W1 hW1
  have hby : Below w1.heap.size w1 W1 := by rw [hW1]; exact (Below.refl _ _).alloc (Nat.le_refl _) _
  have hi1 : Bx W1 w1.heap.size #[.int .u8 xo, .int .u8 ka, .int .u8 kb, .int .u8 kc, .int .u16 kn] := by rw [hW1]; exact Bx.new _ _ _ _ rfl
  have hx1 := (hx0.to hb1).to hby
  have hy1 := (hy0.to hb1).to hby
  have hz1 := (hz0.to hb1).to hby
  have hr1 := (hr0.to hb1).to hby
  have hb2 := bt (bt hb0 hb1) hby
  have hn1 : w1.heap.size ≠ w.heap.size := by have := (hx0.to hb1).lt; omega
  clear hx0 hy0 hz0 hr0 hb1 hby hb0 hW1
  have a0 : (_ : Option Value) = some (.slice A n c) := hx1.cell 0
  have a1 : (_ : Option Value) = some (.int .i64 nx) := hx1.cell 1
  have a2 : (_ : Option Value) = some (.int .u64 (r 0)) := hx1.cell 2
  have a3 : (_ : Option Value) = some (.int .u64 (r 1)) := hx1.cell 3
  have a4 : (_ : Option Value) = some (.int .u64 (r 2)) := hx1.cell 4
  have a5 : (_ : Option Value) = some (.int .u64 (r 3)) := hx1.cell 5
  have a6 : (_ : Option Value) = some (.int .u64 (r 4)) := hx1.cell 6
  have a7 : (_ : Option Value) = some (.int .u64 (r 5)) := hx1.cell 7
  have a8 : (_ : Option Value) = some (.int .u64 (r 6)) := hx1.cell 8
  have a9 : (_ : Option Value) = some (.int .u64 (r 7)) := hx1.cell 9
  go_wp2_with fail
  refine (unhide HW _ hr1).mono ?_
  rintro e w3 ⟨rfl, hb1⟩
  clear a0 a1 a2 a3 a4 a5 a6 a7 a8 a9
  go_upto_region 5 with fail
  refine nameW ?_
  intro W3 hW3
  have hby : Below w3.heap.size w3 W3 := by rw [hW3]; exact (Below.refl _ _).alloc (Nat.le_refl _) _
  have hx3 := (hx1.to hb1).to hby
  have hy3 := (hy1.to hb1).to hby
  have hz3 := (hz1.to hb1).to hby
  have hi3 := (hi1.to hb1).to hby
  have hb3 := bt (bt hb2 hb1) hby
  clear hx1 hy1 hz1 hi1 hr1 hb1 hby hb2 hW3
  have i1 := hi3.cell 1
  have y1 := hy3.cell 1
  have q1 := (hx3.cell (2 + ka)).trans (tsk_get A n c nx r ka hka)
  have q2 := hx3.frozen (2 + ka)
  go_upto_region 6 with fail
  refine nameW ?_
  intro W4 hW4
  have hx4 := hx3.set_ (2 + ka) (.int .u64 v)
  rw [tsk_set A n c nx r ka v hka] at hx4
  have hy4 := hy3.far (p := ⟨w.heap.size, 2 + ka, none⟩) (by simp) (.int .u64 v)
  have hz4 := hz3.far (p := ⟨w.heap.size, 2 + ka, none⟩) (by simp; omega) (.int .u64 v)
  have hb4 := hb3.setCell (p := ⟨w.heap.size, 2 + ka, none⟩) (by simp) (.int .u64 v)
  rw [← hW4] at hx4 hy4 hz4 hb4
  clear hW4 hx3 hy3 hz3 hi3 hb3 q1 q2 y1 i1
  obtain ⟨R, hR⟩ : ∃ R, upd r ka v = R := ⟨_, rfl⟩
  rw [hR] at hx4
  have HRR := Lib.hid hR
  clear hR
  have y0 := hy4.cell 0
  have y2 := hy4.cell 2
  have a0 : (_ : Option Value) = some (.slice A n c) := hx4.cell 0
  have af0 := hx4.frozen 0
  have a1 : (_ : Option Value) = some (.int .i64 nx) := hx4.cell 1
  have af1 := hx4.frozen 1
  have a2 : (_ : Option Value) = some (.int .u64 (R 0)) := hx4.cell 2
  have af2 := hx4.frozen 2
  have a3 : (_ : Option Value) = some (.int .u64 (R 1)) := hx4.cell 3
  have af3 := hx4.frozen 3
  have a4 : (_ : Option Value) = some (.int .u64 (R 2)) := hx4.cell 4
  have af4 := hx4.frozen 4
  have a5 : (_ : Option Value) = some (.int .u64 (R 3)) := hx4.cell 5
  have af5 := hx4.frozen 5
  have a6 : (_ : Option Value) = some (.int .u64 (R 4)) := hx4.cell 6
  have af6 := hx4.frozen 6
  have a7 : (_ : Option Value) = some (.int .u64 (R 5)) := hx4.cell 7
  have af7 := hx4.frozen 7
  have a8 : (_ : Option Value) = some (.int .u64 (R 6)) := hx4.cell 8
  have af8 := hx4.frozen 8
  have a9 : (_ : Option Value) = some (.int .u64 (R 7)) := hx4.cell 9
  have af9 := hx4.frozen 9
  go_upto_region 9 with fail
  refine nameW ?_
  intro W5 hW5
  have hx5 := ((hx4.set_ 6 (.int .u64 h)).set_ 9 (.int .u64 (IntKind.u64.wrap e))).set_ 1 (.int .i64 ((nx : Int) + 1))
  have s1 := tsk_set A n c nx R 4 h (by omega)
  have s2 := tsk_set A n c nx (upd R 4 h) 7 (IntKind.u64.wrap e) (by omega)
  have s3 := tsk_next A n c nx (upd (upd R 4 h) 7 (IntKind.u64.wrap e)) (nx + 1)
  rw [show (2 + 4 : Nat) = 6 from rfl] at s1
  rw [show (2 + 7 : Nat) = 9 from rfl] at s2
  rw [show (((nx + 1 : Nat)) : Int) = (nx : Int) + 1 from by omega] at s3
  rw [s1, s2, s3] at hx5
  have hz5 := ((hz4.far (p := ⟨w.heap.size, 6, none⟩) (by simp; omega) (.int .u64 h)).far (p := ⟨w.heap.size, 9, none⟩) (by simp; omega) (.int .u64 (IntKind.u64.wrap e))).far (p := ⟨w.heap.size, 1, none⟩) (by simp; omega) (.int .i64 ((nx : Int) + 1))
  have hb5 := ((hb4.setCell (p := ⟨w.heap.size, 6, none⟩) (by simp) (.int .u64 h)).setCell (p := ⟨w.heap.size, 9, none⟩) (by simp) (.int .u64 (IntKind.u64.wrap e))).setCell (p := ⟨w.heap.size, 1, none⟩) (by simp) (.int .i64 ((nx : Int) + 1))
  rw [← hW5] at hx5 hz5 hb5
  obtain ⟨R2, hR2⟩ : ∃ R2, upd (upd R 4 h) 7 (IntKind.u64.wrap e) = R2 := ⟨_, rfl⟩
  rw [hR2] at hx5
  have HR2 := Lib.hid hR2
  clear hW5 hx4 hy4 hz4 hb4 s1 s2 s3 hR2 y0 y2 a0 a1 a2 a3 a4 a5 a6 a7 a8 a9 af0 af1 af2 af3 af4 af5 af6 af7 af8 af9
  have a0 : (_ : Option Value) = some (.slice A n c) := hx5.cell 0
  have a1 : (_ : Option Value) = some (.int .i64 ((nx+1:Nat):Int)) := hx5.cell 1
  have a2 : (_ : Option Value) = some (.int .u64 (R2 0)) := hx5.cell 2
  have a3 : (_ : Option Value) = some (.int .u64 (R2 1)) := hx5.cell 3
  have a4 : (_ : Option Value) = some (.int .u64 (R2 2)) := hx5.cell 4
  have a5 : (_ : Option Value) = some (.int .u64 (R2 3)) := hx5.cell 5
  have a6 : (_ : Option Value) = some (.int .u64 (R2 4)) := hx5.cell 6
  have a7 : (_ : Option Value) = some (.int .u64 (R2 5)) := hx5.cell 7
  have a8 : (_ : Option Value) = some (.int .u64 (R2 6)) := hx5.cell 8
  have a9 : (_ : Option Value) = some (.int .u64 (R2 7)) := hx5.cell 9
  have z0 : (_ : Option Value) = some (.slice none 0 0) := hz5.cell 0
  have zf0 := hz5.frozen 0
  have z1 : (_ : Option Value) = some (.int .i64 0) := hz5.cell 1
  have zf1 := hz5.frozen 1
  have z2 : (_ : Option Value) = some (.int .u64 ((fun _=>(0:Int)) 0)) := hz5.cell 2
  have zf2 := hz5.frozen 2
  have z3 : (_ : Option Value) = some (.int .u64 ((fun _=>(0:Int)) 1)) := hz5.cell 3
  have zf3 := hz5.frozen 3
  have z4 : (_ : Option Value) = some (.int .u64 ((fun _=>(0:Int)) 2)) := hz5.cell 4
  have zf4 := hz5.frozen 4
  have z5 : (_ : Option Value) = some (.int .u64 ((fun _=>(0:Int)) 3)) := hz5.cell 5
  have zf5 := hz5.frozen 5
  have z6 : (_ : Option Value) = some (.int .u64 ((fun _=>(0:Int)) 4)) := hz5.cell 6
  have zf6 := hz5.frozen 6
  have z7 : (_ : Option Value) = some (.int .u64 ((fun _=>(0:Int)) 5)) := hz5.cell 7
  have zf7 := hz5.frozen 7
  have z8 : (_ : Option Value) = some (.int .u64 ((fun _=>(0:Int)) 6)) := hz5.cell 8
  have zf8 := hz5.frozen 8
  have z9 : (_ : Option Value) = some (.int .u64 ((fun _=>(0:Int)) 7)) := hz5.cell 9
  have zf9 := hz5.frozen 9
  rw [show (((nx + 1 : Nat)) : Int) = (nx : Int) + 1 from by omega] at a1
  have hzF := hz5.ten (.slice A n c) (.int .i64 ((nx:Int)+1)) (.int .u64 (R2 0)) (.int .u64 (R2 1)) (.int .u64 (R2 2)) (.int .u64 (R2 3)) (.int .u64 (R2 4)) (.int .u64 (R2 5)) (.int .u64 (R2 6)) (.int .u64 (R2 7))
  have hbF := below_ten (g := w.heap.size + 1 + 1) hb5 (by omega) (.slice A n c) (.int .i64 ((nx:Int)+1)) (.int .u64 (R2 0)) (.int .u64 (R2 1)) (.int .u64 (R2 2)) (.int .u64 (R2 3)) (.int .u64 (R2 4)) (.int .u64 (R2 5)) (.int .u64 (R2 6)) (.int .u64 (R2 7))
  have HFX := hide hzF
  have HBF := hide hbF
  clear hx5 hz5 hb5 hzF hbF
  go_wp2
  have x0 := (unhide HFX).cell 0
  have x1 := (unhide HFX).cell 1
  have x2 := (unhide HFX).cell 2
  have x3 := (unhide HFX).cell 3
  have x4 := (unhide HFX).cell 4
  have x5 := (unhide HFX).cell 5
  have x6 := (unhide HFX).cell 6
  have x7 := (unhide HFX).cell 7
  have x8 := (unhide HFX).cell 8
  have x9 := (unhide HFX).cell 9
  refine bodyPost_ret (v := .agg #[.slice A n c, .int .i64 ((nx:Int)+1), .int .u64 (R2 0), .int .u64 (R2 1), .int .u64 (R2 2), .int .u64 (R2 3), .int .u64 (R2 4), .int .u64 (R2 5), .int .u64 (R2 6), .int .u64 (R2 7)]) (by simp [results, Try.results20, go_sem, x0, x1, x2, x3, x4, x5, x6, x7, x8, x9]) rfl ⟨?_, HBF.out⟩
  rw [HRR.out, HR2.out]

set_option maxRecDepth 100000 in
set_option maxHeartbeats 4000000 in
theorem takes_out (hnx : n ≤ nx) (e v h : Int) :
    Calls Try.prog 20 #[tskV A n c nx r, resV e v h] w fun e' w' => e' = .returned (tskV A n c nx r) ∧ Below w.heap.size w w' := by
  have hW := fun w => wants_out (A := A) (n := n) (c := c) (nx := nx) (r := r) (w := w) hnx
  have hI := fun w => instr_out (A := A) (n := n) (c := c) (nx := nx) (r := r) (w := w) hnx
  simp only [tskV, tskC, callV, resV] at hW hI ⊢
  have HW := hide hW
  have HI := hide hI
  clear hW hI
  go_enter Try.func20, Try.ntmps20
  go_upto_region 1 with fail
  refine nameW ?_
  intro W0 hW0
  have hb0 : Below w.heap.size w W0 := by rw [hW0]; exact (((Below.refl _ _).alloc (Nat.le_refl _) _).alloc (by simp) _).alloc (by simp; omega) _
  have hx0 : Bx W0 w.heap.size (tskC A n c nx r) := by rw [hW0]; exact ((Bx.new _ _ _ _ rfl).alloc _).alloc _
  have hz0 : Bx W0 (w.heap.size + 1 + 1) (tskC none 0 0 0 (fun _ => 0)) := by rw [hW0]; exact Bx.new _ _ _ _ (by simp)
  clear hW0
  have a0 : (_ : Option Value) = some (.slice A n c) := hx0.cell 0
  have a1 : (_ : Option Value) = some (.int .i64 nx) := hx0.cell 1
  have a2 : (_ : Option Value) = some (.int .u64 (r 0)) := hx0.cell 2
  have a3 : (_ : Option Value) = some (.int .u64 (r 1)) := hx0.cell 3
  have a4 : (_ : Option Value) = some (.int .u64 (r 2)) := hx0.cell 4
  have a5 : (_ : Option Value) = some (.int .u64 (r 3)) := hx0.cell 5
  have a6 : (_ : Option Value) = some (.int .u64 (r 4)) := hx0.cell 6
  have a7 : (_ : Option Value) = some (.int .u64 (r 5)) := hx0.cell 7
  have a8 : (_ : Option Value) = some (.int .u64 (r 6)) := hx0.cell 8
  have a9 : (_ : Option Value) = some (.int .u64 (r 7)) := hx0.cell 9
  go_wp2_with fail
  refine (unhide HI _).mono ?_
  rintro e w1 ⟨rfl, hb1⟩
  clear a0 a1 a2 a3 a4 a5 a6 a7 a8 a9
  go_upto_region 2 with fail
  refine nameW ?_
  intro W1 hW1
  have hby : Below w1.heap.size w1 W1 := by rw [hW1]; exact (Below.refl _ _).alloc (Nat.le_refl _) _
  have hx1 := (hx0.to hb1).to hby
  have hz1 := (hz0.to hb1).to hby
  have hb2 := bt (bt hb0 hb1) hby
  clear hx0 hz0 hb1 hby hb0 hW1
  have a0 : (_ : Option Value) = some (.slice A n c) := hx1.cell 0
  have a1 : (_ : Option Value) = some (.int .i64 nx) := hx1.cell 1
  have a2 : (_ : Option Value) = some (.int .u64 (r 0)) := hx1.cell 2
  have a3 : (_ : Option Value) = some (.int .u64 (r 1)) := hx1.cell 3
  have a4 : (_ : Option Value) = some (.int .u64 (r 2)) := hx1.cell 4
  have a5 : (_ : Option Value) = some (.int .u64 (r 3)) := hx1.cell 5
  have a6 : (_ : Option Value) = some (.int .u64 (r 4)) := hx1.cell 6
  have a7 : (_ : Option Value) = some (.int .u64 (r 5)) := hx1.cell 7
  have a8 : (_ : Option Value) = some (.int .u64 (r 6)) := hx1.cell 8
  have a9 : (_ : Option Value) = some (.int .u64 (r 7)) := hx1.cell 9
  go_wp2_with fail
  refine (unhide HW _).mono ?_
  rintro e w3 ⟨rfl, hb1⟩
  clear a0 a1 a2 a3 a4 a5 a6 a7 a8 a9
  go_upto_region 3 with fail
  refine nameW ?_
  intro W3 hW3
  have hby : Below w3.heap.size w3 W3 := by rw [hW3]; exact (Below.refl _ _).alloc (Nat.le_refl _) _
  have hx3 := (hx1.to hb1).to hby
  have hz3 := (hz1.to hb1).to hby
  have hb3 := bt (bt hb2 hb1) hby
  clear hx1 hz1 hb1 hby hb2 hW3
  have a0 : (_ : Option Value) = some (.slice A n c) := hx3.cell 0
  have a1 : (_ : Option Value) = some (.int .i64 nx) := hx3.cell 1
  have a2 : (_ : Option Value) = some (.int .u64 (r 0)) := hx3.cell 2
  have a3 : (_ : Option Value) = some (.int .u64 (r 1)) := hx3.cell 3
  have a4 : (_ : Option Value) = some (.int .u64 (r 2)) := hx3.cell 4
  have a5 : (_ : Option Value) = some (.int .u64 (r 3)) := hx3.cell 5
  have a6 : (_ : Option Value) = some (.int .u64 (r 4)) := hx3.cell 6
  have a7 : (_ : Option Value) = some (.int .u64 (r 5)) := hx3.cell 7
  have a8 : (_ : Option Value) = some (.int .u64 (r 6)) := hx3.cell 8
  have a9 : (_ : Option Value) = some (.int .u64 (r 7)) := hx3.cell 9
  have z0 : (_ : Option Value) = some (.slice none 0 0) := hz3.cell 0
  have zf0 := hz3.frozen 0
  have z1 : (_ : Option Value) = some (.int .i64 0) := hz3.cell 1
  have zf1 := hz3.frozen 1
  have z2 : (_ : Option Value) = some (.int .u64 ((fun _=>(0:Int)) 0)) := hz3.cell 2
  have zf2 := hz3.frozen 2
  have z3 : (_ : Option Value) = some (.int .u64 ((fun _=>(0:Int)) 1)) := hz3.cell 3
  have zf3 := hz3.frozen 3
  have z4 : (_ : Option Value) = some (.int .u64 ((fun _=>(0:Int)) 2)) := hz3.cell 4
  have zf4 := hz3.frozen 4
  have z5 : (_ : Option Value) = some (.int .u64 ((fun _=>(0:Int)) 3)) := hz3.cell 5
  have zf5 := hz3.frozen 5
  have z6 : (_ : Option Value) = some (.int .u64 ((fun _=>(0:Int)) 4)) := hz3.cell 6
  have zf6 := hz3.frozen 6
  have z7 : (_ : Option Value) = some (.int .u64 ((fun _=>(0:Int)) 5)) := hz3.cell 7
  have zf7 := hz3.frozen 7
  have z8 : (_ : Option Value) = some (.int .u64 ((fun _=>(0:Int)) 6)) := hz3.cell 8
  have zf8 := hz3.frozen 8
  have z9 : (_ : Option Value) = some (.int .u64 ((fun _=>(0:Int)) 7)) := hz3.cell 9
  have zf9 := hz3.frozen 9
  have hzF := hz3.ten (.slice A n c) (.int .i64 nx) (.int .u64 (r 0)) (.int .u64 (r 1)) (.int .u64 (r 2)) (.int .u64 (r 3)) (.int .u64 (r 4)) (.int .u64 (r 5)) (.int .u64 (r 6)) (.int .u64 (r 7))
  have hbF := below_ten (g := w.heap.size + 1 + 1) hb3 (by omega) (.slice A n c) (.int .i64 nx) (.int .u64 (r 0)) (.int .u64 (r 1)) (.int .u64 (r 2)) (.int .u64 (r 3)) (.int .u64 (r 4)) (.int .u64 (r 5)) (.int .u64 (r 6)) (.int .u64 (r 7))
  have HFX := hide hzF
  have HBF := hide hbF
  clear hx3 hz3 hb3 hzF hbF
  go_wp2
  have x0 := (unhide HFX).cell 0
  have x1 := (unhide HFX).cell 1
  have x2 := (unhide HFX).cell 2
  have x3 := (unhide HFX).cell 3
  have x4 := (unhide HFX).cell 4
  have x5 := (unhide HFX).cell 5
  have x6 := (unhide HFX).cell 6
  have x7 := (unhide HFX).cell 7
  have x8 := (unhide HFX).cell 8
  have x9 := (unhide HFX).cell 9
  refine bodyPost_ret (v := .agg #[.slice A n c, .int .i64 nx, .int .u64 (r 0), .int .u64 (r 1), .int .u64 (r 2), .int .u64 (r 3), .int .u64 (r 4), .int .u64 (r 5), .int .u64 (r 6), .int .u64 (r 7)]) (by simp [results, Try.results20, go_sem, x0, x1, x2, x3, x4, x5, x6, x7, x8, x9]) rfl ⟨rfl, HBF.out⟩

theorem takes_any (hp : Prog l) (hr : Rd w w.heap.size 5 A n (l.flatMap Ins.cu)) (hc : wB l nx = true) (e v h : Int) (hh : 0 ≤ h ∧ h ≤ 4294967295) (hn : n ≤ 1000) :
    Calls Try.prog 20 #[tskV A n c nx r, resV e v h] w fun e' w' => e' = .returned (tskV A n c (tN l nx) (tR l nx r e v h)) ∧ Below w.heap.size w w' := by
  have hln := hr.lenU
  cases hx : l[nx]? with
  | none =>
    have : n ≤ nx := by have := List.getElem?_eq_none_iff.1 hx; omega
    unfold tN tR
    rw [hx]
    exact takes_out this e v h
  | some x =>
    obtain ⟨xo, ka, kb, kc, kn, rfl, ha, hb, hcc, hk, ho, hj⟩ := hp.get hx
    unfold tN tR
    rw [hx]
    exact takes_in hp hr hc hx ha e v h hh hn
end
end Go.Proofs.Ytmiagijgecgfoaa
