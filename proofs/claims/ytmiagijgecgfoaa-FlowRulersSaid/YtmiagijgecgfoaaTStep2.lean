/-
  The walk of task.Step at a plain instruction. A jump. (Printed by a program.)
-/
import Derived.Test.YtmiagijgecgfoaaTStep
namespace Go.Proofs.Ytmiagijgecgfoaa
open Go.RowKit

section
variable {l : List Ins} {A : Option Addr} {n c nx : Nat} {r : Nat → Int} {w : World}

set_option maxRecDepth 100000 in
set_option maxHeartbeats 4000000 in
theorem step_jump (hr : Rd w w.heap.size 5 A n (l.flatMap Ins.cu)) {xn : Int} {ka kb kc : Nat} (hx : l[nx]? = some ⟨5, ka, kb, kc, xn⟩) (hn : n ≤ 1000) (hka : ka < 8) (hn1 : 0 ≤ xn) (hn2 : xn ≤ 65535) (k : Nat) (hxk : (k : Int) = xn) :
    Calls Try.prog 17 #[tskV A n c nx r] w fun e w' => e = .returned (tskV A n c k r) ∧ Below w.heap.size w w' := by
  have hln := hr.lenU
  have hlt : nx < n := by have := (List.getElem?_eq_some_iff.1 hx).1; omega
  have hb0 : Below w.heap.size w ((w.alloc (.cells (tskC A n c nx r) 28)).alloc (.cells (tskC none 0 0 0 (fun _ => 0)) 28)) := ((Below.refl _ _).alloc (Nat.le_refl _) _).alloc (by simp) _
  have hx0 : Bx ((w.alloc (.cells (tskC A n c nx r) 28)).alloc (.cells (tskC none 0 0 0 (fun _ => 0)) 28)) w.heap.size (tskC A n c nx r) := (Bx.new _ _ _ _ rfl).alloc _
  have hy0 : Bx ((w.alloc (.cells (tskC A n c nx r) 28)).alloc (.cells (tskC none 0 0 0 (fun _ => 0)) 28)) (w.heap.size + 1) (tskC none 0 0 0 (fun _ => 0)) := Bx.new _ _ _ _ (by simp)
  have hr0 := hr.to hb0
  have hW := fun w h => wants_plain (A := A) (n := n) (c := c) (r := r) (w := w) (l := l) h hx (by simp) (by simp)
  have hI := fun w h => instr_in (A := A) (n := n) (c := c) (r := r) (w := w) (l := l) h hx
  simp only [tskV, tskC, callV] at hW hI hx0 hy0 hr0 hb0 ⊢
  have HW := hide hW
  have HI := hide hI
  clear hW hI hr hx hln
  go_enter Try.func17, Try.ntmps17
  go_wp2_with fail
  refine (unhide HW _ hr0).mono ?_
  rintro e w1 ⟨rfl, hb1⟩
  have hby : Below w1.heap.size w1 (w1.alloc (.cells #[.int .u8 0, .int .u32 0, .int .u32 0, .int .u32 0, .int .u32 0, .int .u64 0] 40)) := (Below.refl _ _).alloc (Nat.le_refl _) _
  have hx1 := (hx0.to hb1).to hby
  have hy1 := (hy0.to hb1).to hby
  have hr1 := (hr0.to hb1).to hby
  have hb2 := bt (bt hb0 hb1) hby
  have a0 := hx1.cell 0
  have a1 := hx1.cell 1
  have a2 := hx1.cell 2
  have a3 := hx1.cell 3
  have a4 := hx1.cell 4
  have a5 := hx1.cell 5
  have a6 := hx1.cell 6
  have a7 := hx1.cell 7
  have a8 := hx1.cell 8
  have a9 := hx1.cell 9
  clear hb0 hx0 hy0 hr0 hb1 hby
  go_wp2_with fail
  refine (unhide HI _ hr1).mono ?_
  rintro e w2 ⟨rfl, hb3⟩
  have hby : Below w2.heap.size w2 (w2.alloc (.cells #[.int .u8 5, .int .u8 ka, .int .u8 kb, .int .u8 kc, .int .u16 xn] 85)) := (Below.refl _ _).alloc (Nat.le_refl _) _
  have hz2 := Bx.new w2 #[.int .u8 5, .int .u8 ka, .int .u8 kb, .int .u8 kc, .int .u16 xn] 85 w2.heap.size rfl
  have hwlt : w.heap.size + 1 < w2.heap.size := (hy1.to hb3).lt
  have hx2 := (hx1.to hb3).to hby
  have hy2 := (hy1.to hb3).to hby
  have hb4 := bt (bt hb2 hb3) hby
  have hka2 : (ka : Int) % 8 = ka := by omega
  clear a0 a1 a2 a3 a4 a5 a6 a7 a8 a9 hb3 hby hr1 hx1 hy1 hb2
  have a1 := hx2.cell 1
  have z0 := hz2.cell 0
  have z1 := hz2.cell 1
  have z2 := hz2.cell 2
  have z3 := hz2.cell 3
  have z4 := hz2.cell 4
  have hx3 := hx2.alloc (.cells #[.pointer (some ⟨w.heap.size, 2 + ka, none⟩)] 98)
  have hz3 := hz2.alloc (.cells #[.pointer (some ⟨w.heap.size, 2 + ka, none⟩)] 98)
  have b1 := hx3.cell 1
  have y0 := hz3.cell 0
  obtain ⟨W5, hW5⟩ : ∃ W5, ((w2.alloc (.cells #[.int .u8 5, .int .u8 ka, .int .u8 kb, .int .u8 kc, .int .u16 xn] 85)).alloc (.cells #[.pointer (some ⟨w.heap.size, 2 + ka, none⟩)] 98)).alloc (.cells #[.int .i64 ((nx : Int) + 1)] 3) = W5 := ⟨_, rfl⟩
  have hz5 : W5.heap.size = w2.heap.size + 1 + 1 + 1 := by rw [← hW5]; simp
  obtain ⟨W6, hW6⟩ : ∃ W6, W5.alloc (.map #[] 0) = W6 := ⟨_, rfl⟩
  have hmk := run_make (P := Try.prog) (t := 99) W5
  rw [hz5, hW6] at hmk
  have hmf : ∀ (fn : Fn) (first cap : Array Value) (w : World), (Instr.makeFunc fn first cap).run Try.prog w = .ok (.func fn first cap) w := fun _ _ _ _ => rfl
  obtain ⟨F1, hF1⟩ : ∃ F : Value, .func (.func 48) #[] #[.pointer (some ⟨w2.heap.size, 0, none⟩), .pointer (some ⟨w2.heap.size + 1, 0, none⟩)] = F := ⟨_, rfl⟩
  obtain ⟨F2, hF2⟩ : ∃ F : Value, .func (.func 49) #[] #[.pointer (some ⟨w.heap.size, 0, none⟩), .pointer (some ⟨w2.heap.size, 0, none⟩), .pointer (some ⟨w2.heap.size + 1, 0, none⟩)] = F := ⟨_, rfl⟩
  obtain ⟨F3, hF3⟩ : ∃ F : Value, .func (.func 50) #[] #[.pointer (some ⟨w.heap.size, 0, none⟩), .pointer (some ⟨w2.heap.size, 0, none⟩), .pointer (some ⟨w2.heap.size + 1, 0, none⟩)] = F := ⟨_, rfl⟩
  obtain ⟨F4, hF4⟩ : ∃ F : Value, .func (.func 51) #[] #[.pointer (some ⟨w.heap.size, 0, none⟩), .pointer (some ⟨w2.heap.size, 0, none⟩), .pointer (some ⟨w2.heap.size + 1, 0, none⟩)] = F := ⟨_, rfl⟩
  obtain ⟨F6, hF6⟩ : ∃ F : Value, .func (.func 53) #[] #[.pointer (some ⟨w2.heap.size + 1, 0, none⟩), .pointer (some ⟨w2.heap.size, 0, none⟩), .pointer (some ⟨w2.heap.size + 1 + 1, 0, none⟩)] = F := ⟨_, rfl⟩
  have hlt6 : w2.heap.size + 1 + 1 + 1 < W6.heap.size := by rw [← hW6]; simp; omega
  have ins1 := run_ins (P := Try.prog) Try.underlying99 Try.underlying5 W6 (w2.heap.size + 1 + 1 + 1) hlt6 [] 1 F1 rfl rfl
  have ins2 := run_ins (P := Try.prog) Try.underlying99 Try.underlying5 W6 (w2.heap.size + 1 + 1 + 1) hlt6 [F1] 2 F2 rfl rfl
  have ins3 := run_ins (P := Try.prog) Try.underlying99 Try.underlying5 W6 (w2.heap.size + 1 + 1 + 1) hlt6 [F1, F2] 3 F3 rfl rfl
  have ins4 := run_ins (P := Try.prog) Try.underlying99 Try.underlying5 W6 (w2.heap.size + 1 + 1 + 1) hlt6 [F1, F2, F3] 4 F4 rfl rfl
  have ins5 := run_ins (P := Try.prog) Try.underlying99 Try.underlying5 W6 (w2.heap.size + 1 + 1 + 1) hlt6 [F1, F2, F3, F4] 5 (.func (.func 52) #[] #[.pointer (some ⟨w2.heap.size, 0, none⟩), .pointer (some ⟨w2.heap.size + 1 + 1, 0, none⟩)]) rfl rfl
  have ins6 := run_ins (P := Try.prog) Try.underlying99 Try.underlying5 W6 (w2.heap.size + 1 + 1 + 1) hlt6 [F1, F2, F3, F4, (.func (.func 52) #[] #[.pointer (some ⟨w2.heap.size, 0, none⟩), .pointer (some ⟨w2.heap.size + 1 + 1, 0, none⟩)])] 6 F6 rfl rfl
  have lk := run_look (P := Try.prog) Try.underlying99 Try.underlying5 W6 (w2.heap.size + 1 + 1 + 1) hlt6 [F1, F2, F3, F4, (.func (.func 52) #[] #[.pointer (some ⟨w2.heap.size, 0, none⟩), .pointer (some ⟨w2.heap.size + 1 + 1, 0, none⟩)]), F6] 6 5 4 (.func (.func 52) #[] #[.pointer (some ⟨w2.heap.size, 0, none⟩), .pointer (some ⟨w2.heap.size + 1 + 1, 0, none⟩)]) rfl
  simp only [List.nil_append, List.cons_append, List.length_cons, List.length_nil, Nat.zero_add, Nat.reduceAdd] at ins1 ins2 ins3 ins4 ins5 ins6
  obtain ⟨W7, hW7⟩ : ∃ W7, mapW W6 (w2.heap.size + 1 + 1 + 1) (ents [F1, F2, F3, F4, (.func (.func 52) #[] #[.pointer (some ⟨w2.heap.size, 0, none⟩), .pointer (some ⟨w2.heap.size + 1 + 1, 0, none⟩)]), F6]) 6 = W7 := ⟨_, rfl⟩
  rw [hW7] at ins6 lk
  have hbA : Below w.heap.size w W5 := by rw [← hW5]; exact (hb4.alloc hb4.size _).alloc (by have := hb4.size; simp at this ⊢; omega) _
  have hbB : Below w.heap.size w W7 := by rw [← hW7]; refine mapW_below ?_ (by omega); rw [← hW6]; exact hbA.alloc hbA.size _
  have up : ∀ {g : Nat} {cs : Array Value}, Bx W5 g cs → Bx W7 g cs := fun h => by
    have := h.lt
    rw [← hW7, ← hW6]
    exact (h.alloc _).mapW (by omega)
  have d1 : Bx W7 w.heap.size (tskC A n c nx r) := up (by rw [← hW5]; exact (hx2.alloc _).alloc _)
  have d2 : Bx W7 (w.heap.size + 1) (tskC none 0 0 0 (fun _ => 0)) := up (by rw [← hW5]; exact (hy2.alloc _).alloc _)
  have d3 : Bx W7 w2.heap.size #[.int .u8 5, .int .u8 ka, .int .u8 kb, .int .u8 kc, .int .u16 xn] := up (by rw [← hW5]; exact (hz2.alloc _).alloc _)
  have d4 : Bx W7 (w2.heap.size + 1) #[.pointer (some ⟨w.heap.size, 2 + ka, none⟩)] := up (by rw [← hW5]; exact (Bx.new _ _ _ _ (by simp)).alloc _)
  have d5 : Bx W7 (w2.heap.size + 1 + 1) #[.int .i64 ((nx : Int) + 1)] := up (by rw [← hW5]; exact Bx.new _ _ _ _ (by simp))
  have hdo : Doing A n c nx r w.heap.size w2.heap.size (w2.heap.size + 1) (w2.heap.size + 1 + 1) ka kb kc 5 xn W7 := ⟨d1, d3, d4, d5⟩
  have v0 := d3.cell 0
  have HDO := hide hdo
  have HD2 := hide d2
  clear hW7 up hdo d1 d2 d3 d4 d5 hx2 hy2 hz2 hx3 hz3 hb4 hbA
  go_wp2_with fail
  refine (clos5 (unhide HDO) hn1 hn2).mono ?_
  rintro e W8 ⟨⟨v8, rfl⟩, hW8⟩
  have t8 : Bx W8 w.heap.size (tskC A n c nx r) := by rw [hW8]; exact (unhide HDO).task.far (by simp; omega) _
  have n8 : Bx W8 (w2.heap.size + 1 + 1) #[.int .i64 xn] := by rw [hW8]; exact (unhide HDO).next.set_ 0 _
  have z8 : Bx W8 (w.heap.size + 1) (tskC none 0 0 0 (fun _ => 0)) := by rw [hW8]; exact (unhide HD2).far (by simp; omega) _
  obtain ⟨R, hR⟩ : ∃ R, r = R := ⟨_, rfl⟩
  rw [hR] at t8
  have hbC : Below w.heap.size w W8 := by rw [hW8]; exact hbB.setCell (by simp; omega) _
  have tF := t8.frozen 1
  have nC := n8.cell 0
  have t1c := t8.cell 1
  have t9 := t8.set_ 1 (.int .i64 xn)
  have z9 := z8.far (p := ⟨w.heap.size, 1, none⟩) (by simp) (.int .i64 xn)
  have hbD := hbC.setCell (p := ⟨w.heap.size, 1, none⟩) (by simp) (.int .i64 xn)
  simp only [tskC, List.setIfInBounds_toArray, List.set_cons_zero, List.set_cons_succ] at t9 z9
  have q0 := t9.cell 0
  have q1 := t9.cell 1
  have q2 := t9.cell 2
  have q3 := t9.cell 3
  have q4 := t9.cell 4
  have q5 := t9.cell 5
  have q6 := t9.cell 6
  have q7 := t9.cell 7
  have q8 := t9.cell 8
  have q9 := t9.cell 9
  have g0 := z9.frozen 0
  have e0 := z9.cell 0
  have g1 := z9.frozen 1
  have e1 := z9.cell 1
  have g2 := z9.frozen 2
  have e2 := z9.cell 2
  have g3 := z9.frozen 3
  have e3 := z9.cell 3
  have g4 := z9.frozen 4
  have e4 := z9.cell 4
  have g5 := z9.frozen 5
  have e5 := z9.cell 5
  have g6 := z9.frozen 6
  have e6 := z9.cell 6
  have g7 := z9.frozen 7
  have e7 := z9.cell 7
  have g8 := z9.frozen 8
  have e8 := z9.cell 8
  have g9 := z9.frozen 9
  have e9 := z9.cell 9
  have hbF := below_ten (g := w.heap.size + 1) hbD (by omega) (.slice A n c) (.int .i64 xn) (.int .u64 (R 0)) (.int .u64 (R 1)) (.int .u64 (R 2)) (.int .u64 (R 3)) (.int .u64 (R 4)) (.int .u64 (R 5)) (.int .u64 (R 6)) (.int .u64 (R 7))
  have hFX := z9.ten (.slice A n c) (.int .i64 xn) (.int .u64 (R 0)) (.int .u64 (R 1)) (.int .u64 (R 2)) (.int .u64 (R 3)) (.int .u64 (R 4)) (.int .u64 (R 5)) (.int .u64 (R 6)) (.int .u64 (R 7))
  have HFX := hide hFX
  have HBF := hide hbF
  have HR := Lib.hid hR
  clear hFX hbF hbD hbC hR t9 z9 t8 z8 n8 HDO HD2 hW8
  go_wp2
  have x0 := (unhide HFX).cell 0
  have x1 := (unhide HFX).cell 1
  have x2 := (unhide HFX).cell 2
  have x3 := (unhide HFX).cell 3
  have x4 := (unhide HFX).cell 4
  have x5 := (unhide HFX).cell 5
  have x6 := (unhide HFX).cell 6
  have x7 := (unhide HFX).cell 7
  have x8 := (unhide HFX).cell 8
  have x9 := (unhide HFX).cell 9
  refine bodyPost_ret (v := .agg #[.slice A n c, .int .i64 xn, .int .u64 (R 0), .int .u64 (R 1), .int .u64 (R 2), .int .u64 (R 3), .int .u64 (R 4), .int .u64 (R 5), .int .u64 (R 6), .int .u64 (R 7)]) (by simp [results, Try.results17, go_sem, x0, x1, x2, x3, x4, x5, x6, x7, x8, x9]) rfl ⟨?_, HBF.out⟩
  rw [HR.out]
  rw [← hxk]

set_option maxRecDepth 100000 in
set_option maxHeartbeats 4000000 in
theorem step_if (hr : Rd w w.heap.size 5 A n (l.flatMap Ins.cu)) {xn : Int} {ka kb kc : Nat} (hx : l[nx]? = some ⟨6, ka, kb, kc, xn⟩) (hn : n ≤ 1000) (hka : ka < 8) (hn1 : 0 ≤ xn) (hn2 : xn ≤ 65535) (k : Nat) (hxk : (k : Int) = xn) (hz : r ka ≠ 0) :
    Calls Try.prog 17 #[tskV A n c nx r] w fun e w' => e = .returned (tskV A n c k r) ∧ Below w.heap.size w w' := by
  have hln := hr.lenU
  have hlt : nx < n := by have := (List.getElem?_eq_some_iff.1 hx).1; omega
  have hb0 : Below w.heap.size w ((w.alloc (.cells (tskC A n c nx r) 28)).alloc (.cells (tskC none 0 0 0 (fun _ => 0)) 28)) := ((Below.refl _ _).alloc (Nat.le_refl _) _).alloc (by simp) _
  have hx0 : Bx ((w.alloc (.cells (tskC A n c nx r) 28)).alloc (.cells (tskC none 0 0 0 (fun _ => 0)) 28)) w.heap.size (tskC A n c nx r) := (Bx.new _ _ _ _ rfl).alloc _
  have hy0 : Bx ((w.alloc (.cells (tskC A n c nx r) 28)).alloc (.cells (tskC none 0 0 0 (fun _ => 0)) 28)) (w.heap.size + 1) (tskC none 0 0 0 (fun _ => 0)) := Bx.new _ _ _ _ (by simp)
  have hr0 := hr.to hb0
  have hW := fun w h => wants_plain (A := A) (n := n) (c := c) (r := r) (w := w) (l := l) h hx (by simp) (by simp)
  have hI := fun w h => instr_in (A := A) (n := n) (c := c) (r := r) (w := w) (l := l) h hx
  simp only [tskV, tskC, callV] at hW hI hx0 hy0 hr0 hb0 ⊢
  have HW := hide hW
  have HI := hide hI
  clear hW hI hr hx hln
  go_enter Try.func17, Try.ntmps17
  go_wp2_with fail
  refine (unhide HW _ hr0).mono ?_
  rintro e w1 ⟨rfl, hb1⟩
  have hby : Below w1.heap.size w1 (w1.alloc (.cells #[.int .u8 0, .int .u32 0, .int .u32 0, .int .u32 0, .int .u32 0, .int .u64 0] 40)) := (Below.refl _ _).alloc (Nat.le_refl _) _
  have hx1 := (hx0.to hb1).to hby
  have hy1 := (hy0.to hb1).to hby
  have hr1 := (hr0.to hb1).to hby
  have hb2 := bt (bt hb0 hb1) hby
  have a0 := hx1.cell 0
  have a1 := hx1.cell 1
  have a2 := hx1.cell 2
  have a3 := hx1.cell 3
  have a4 := hx1.cell 4
  have a5 := hx1.cell 5
  have a6 := hx1.cell 6
  have a7 := hx1.cell 7
  have a8 := hx1.cell 8
  have a9 := hx1.cell 9
  clear hb0 hx0 hy0 hr0 hb1 hby
  go_wp2_with fail
  refine (unhide HI _ hr1).mono ?_
  rintro e w2 ⟨rfl, hb3⟩
  have hby : Below w2.heap.size w2 (w2.alloc (.cells #[.int .u8 6, .int .u8 ka, .int .u8 kb, .int .u8 kc, .int .u16 xn] 85)) := (Below.refl _ _).alloc (Nat.le_refl _) _
  have hz2 := Bx.new w2 #[.int .u8 6, .int .u8 ka, .int .u8 kb, .int .u8 kc, .int .u16 xn] 85 w2.heap.size rfl
  have hwlt : w.heap.size + 1 < w2.heap.size := (hy1.to hb3).lt
  have hx2 := (hx1.to hb3).to hby
  have hy2 := (hy1.to hb3).to hby
  have hb4 := bt (bt hb2 hb3) hby
  have hka2 : (ka : Int) % 8 = ka := by omega
  clear a0 a1 a2 a3 a4 a5 a6 a7 a8 a9 hb3 hby hr1 hx1 hy1 hb2
  have a1 := hx2.cell 1
  have z0 := hz2.cell 0
  have z1 := hz2.cell 1
  have z2 := hz2.cell 2
  have z3 := hz2.cell 3
  have z4 := hz2.cell 4
  have hx3 := hx2.alloc (.cells #[.pointer (some ⟨w.heap.size, 2 + ka, none⟩)] 98)
  have hz3 := hz2.alloc (.cells #[.pointer (some ⟨w.heap.size, 2 + ka, none⟩)] 98)
  have b1 := hx3.cell 1
  have y0 := hz3.cell 0
  obtain ⟨W5, hW5⟩ : ∃ W5, ((w2.alloc (.cells #[.int .u8 6, .int .u8 ka, .int .u8 kb, .int .u8 kc, .int .u16 xn] 85)).alloc (.cells #[.pointer (some ⟨w.heap.size, 2 + ka, none⟩)] 98)).alloc (.cells #[.int .i64 ((nx : Int) + 1)] 3) = W5 := ⟨_, rfl⟩
  have hz5 : W5.heap.size = w2.heap.size + 1 + 1 + 1 := by rw [← hW5]; simp
  obtain ⟨W6, hW6⟩ : ∃ W6, W5.alloc (.map #[] 0) = W6 := ⟨_, rfl⟩
  have hmk := run_make (P := Try.prog) (t := 99) W5
  rw [hz5, hW6] at hmk
  have hmf : ∀ (fn : Fn) (first cap : Array Value) (w : World), (Instr.makeFunc fn first cap).run Try.prog w = .ok (.func fn first cap) w := fun _ _ _ _ => rfl
  obtain ⟨F1, hF1⟩ : ∃ F : Value, .func (.func 48) #[] #[.pointer (some ⟨w2.heap.size, 0, none⟩), .pointer (some ⟨w2.heap.size + 1, 0, none⟩)] = F := ⟨_, rfl⟩
  obtain ⟨F2, hF2⟩ : ∃ F : Value, .func (.func 49) #[] #[.pointer (some ⟨w.heap.size, 0, none⟩), .pointer (some ⟨w2.heap.size, 0, none⟩), .pointer (some ⟨w2.heap.size + 1, 0, none⟩)] = F := ⟨_, rfl⟩
  obtain ⟨F3, hF3⟩ : ∃ F : Value, .func (.func 50) #[] #[.pointer (some ⟨w.heap.size, 0, none⟩), .pointer (some ⟨w2.heap.size, 0, none⟩), .pointer (some ⟨w2.heap.size + 1, 0, none⟩)] = F := ⟨_, rfl⟩
  obtain ⟨F4, hF4⟩ : ∃ F : Value, .func (.func 51) #[] #[.pointer (some ⟨w.heap.size, 0, none⟩), .pointer (some ⟨w2.heap.size, 0, none⟩), .pointer (some ⟨w2.heap.size + 1, 0, none⟩)] = F := ⟨_, rfl⟩
  obtain ⟨F5, hF5⟩ : ∃ F : Value, .func (.func 52) #[] #[.pointer (some ⟨w2.heap.size, 0, none⟩), .pointer (some ⟨w2.heap.size + 1 + 1, 0, none⟩)] = F := ⟨_, rfl⟩
  have hlt6 : w2.heap.size + 1 + 1 + 1 < W6.heap.size := by rw [← hW6]; simp; omega
  have ins1 := run_ins (P := Try.prog) Try.underlying99 Try.underlying5 W6 (w2.heap.size + 1 + 1 + 1) hlt6 [] 1 F1 rfl rfl
  have ins2 := run_ins (P := Try.prog) Try.underlying99 Try.underlying5 W6 (w2.heap.size + 1 + 1 + 1) hlt6 [F1] 2 F2 rfl rfl
  have ins3 := run_ins (P := Try.prog) Try.underlying99 Try.underlying5 W6 (w2.heap.size + 1 + 1 + 1) hlt6 [F1, F2] 3 F3 rfl rfl
  have ins4 := run_ins (P := Try.prog) Try.underlying99 Try.underlying5 W6 (w2.heap.size + 1 + 1 + 1) hlt6 [F1, F2, F3] 4 F4 rfl rfl
  have ins5 := run_ins (P := Try.prog) Try.underlying99 Try.underlying5 W6 (w2.heap.size + 1 + 1 + 1) hlt6 [F1, F2, F3, F4] 5 F5 rfl rfl
  have ins6 := run_ins (P := Try.prog) Try.underlying99 Try.underlying5 W6 (w2.heap.size + 1 + 1 + 1) hlt6 [F1, F2, F3, F4, F5] 6 (.func (.func 53) #[] #[.pointer (some ⟨w2.heap.size + 1, 0, none⟩), .pointer (some ⟨w2.heap.size, 0, none⟩), .pointer (some ⟨w2.heap.size + 1 + 1, 0, none⟩)]) rfl rfl
  have lk := run_look (P := Try.prog) Try.underlying99 Try.underlying5 W6 (w2.heap.size + 1 + 1 + 1) hlt6 [F1, F2, F3, F4, F5, (.func (.func 53) #[] #[.pointer (some ⟨w2.heap.size + 1, 0, none⟩), .pointer (some ⟨w2.heap.size, 0, none⟩), .pointer (some ⟨w2.heap.size + 1 + 1, 0, none⟩)])] 6 6 5 (.func (.func 53) #[] #[.pointer (some ⟨w2.heap.size + 1, 0, none⟩), .pointer (some ⟨w2.heap.size, 0, none⟩), .pointer (some ⟨w2.heap.size + 1 + 1, 0, none⟩)]) rfl
  simp only [List.nil_append, List.cons_append, List.length_cons, List.length_nil, Nat.zero_add, Nat.reduceAdd] at ins1 ins2 ins3 ins4 ins5 ins6
  obtain ⟨W7, hW7⟩ : ∃ W7, mapW W6 (w2.heap.size + 1 + 1 + 1) (ents [F1, F2, F3, F4, F5, (.func (.func 53) #[] #[.pointer (some ⟨w2.heap.size + 1, 0, none⟩), .pointer (some ⟨w2.heap.size, 0, none⟩), .pointer (some ⟨w2.heap.size + 1 + 1, 0, none⟩)])]) 6 = W7 := ⟨_, rfl⟩
  rw [hW7] at ins6 lk
  have hbA : Below w.heap.size w W5 := by rw [← hW5]; exact (hb4.alloc hb4.size _).alloc (by have := hb4.size; simp at this ⊢; omega) _
  have hbB : Below w.heap.size w W7 := by rw [← hW7]; refine mapW_below ?_ (by omega); rw [← hW6]; exact hbA.alloc hbA.size _
  have up : ∀ {g : Nat} {cs : Array Value}, Bx W5 g cs → Bx W7 g cs := fun h => by
    have := h.lt
    rw [← hW7, ← hW6]
    exact (h.alloc _).mapW (by omega)
  have d1 : Bx W7 w.heap.size (tskC A n c nx r) := up (by rw [← hW5]; exact (hx2.alloc _).alloc _)
  have d2 : Bx W7 (w.heap.size + 1) (tskC none 0 0 0 (fun _ => 0)) := up (by rw [← hW5]; exact (hy2.alloc _).alloc _)
  have d3 : Bx W7 w2.heap.size #[.int .u8 6, .int .u8 ka, .int .u8 kb, .int .u8 kc, .int .u16 xn] := up (by rw [← hW5]; exact (hz2.alloc _).alloc _)
  have d4 : Bx W7 (w2.heap.size + 1) #[.pointer (some ⟨w.heap.size, 2 + ka, none⟩)] := up (by rw [← hW5]; exact (Bx.new _ _ _ _ (by simp)).alloc _)
  have d5 : Bx W7 (w2.heap.size + 1 + 1) #[.int .i64 ((nx : Int) + 1)] := up (by rw [← hW5]; exact Bx.new _ _ _ _ (by simp))
  have hdo : Doing A n c nx r w.heap.size w2.heap.size (w2.heap.size + 1) (w2.heap.size + 1 + 1) ka kb kc 6 xn W7 := ⟨d1, d3, d4, d5⟩
  have v0 := d3.cell 0
  have HDO := hide hdo
  have HD2 := hide d2
  clear hW7 up hdo d1 d2 d3 d4 d5 hx2 hy2 hz2 hx3 hz3 hb4 hbA
  go_wp2_with fail
  refine (clos6_yes (unhide HDO) hka hn1 hn2 hz).mono ?_
  rintro e W8 ⟨⟨v8, rfl⟩, hW8⟩
  have t8 : Bx W8 w.heap.size (tskC A n c nx r) := by rw [hW8]; exact (unhide HDO).task.far (by simp; omega) _
  have n8 : Bx W8 (w2.heap.size + 1 + 1) #[.int .i64 xn] := by rw [hW8]; exact (unhide HDO).next.set_ 0 _
  have z8 : Bx W8 (w.heap.size + 1) (tskC none 0 0 0 (fun _ => 0)) := by rw [hW8]; exact (unhide HD2).far (by simp; omega) _
  obtain ⟨R, hR⟩ : ∃ R, r = R := ⟨_, rfl⟩
  rw [hR] at t8
  have hbC : Below w.heap.size w W8 := by rw [hW8]; exact hbB.setCell (by simp; omega) _
  have tF := t8.frozen 1
  have nC := n8.cell 0
  have t1c := t8.cell 1
  have t9 := t8.set_ 1 (.int .i64 xn)
  have z9 := z8.far (p := ⟨w.heap.size, 1, none⟩) (by simp) (.int .i64 xn)
  have hbD := hbC.setCell (p := ⟨w.heap.size, 1, none⟩) (by simp) (.int .i64 xn)
  simp only [tskC, List.setIfInBounds_toArray, List.set_cons_zero, List.set_cons_succ] at t9 z9
  have q0 := t9.cell 0
  have q1 := t9.cell 1
  have q2 := t9.cell 2
  have q3 := t9.cell 3
  have q4 := t9.cell 4
  have q5 := t9.cell 5
  have q6 := t9.cell 6
  have q7 := t9.cell 7
  have q8 := t9.cell 8
  have q9 := t9.cell 9
  have g0 := z9.frozen 0
  have e0 := z9.cell 0
  have g1 := z9.frozen 1
  have e1 := z9.cell 1
  have g2 := z9.frozen 2
  have e2 := z9.cell 2
  have g3 := z9.frozen 3
  have e3 := z9.cell 3
  have g4 := z9.frozen 4
  have e4 := z9.cell 4
  have g5 := z9.frozen 5
  have e5 := z9.cell 5
  have g6 := z9.frozen 6
  have e6 := z9.cell 6
  have g7 := z9.frozen 7
  have e7 := z9.cell 7
  have g8 := z9.frozen 8
  have e8 := z9.cell 8
  have g9 := z9.frozen 9
  have e9 := z9.cell 9
  have hbF := below_ten (g := w.heap.size + 1) hbD (by omega) (.slice A n c) (.int .i64 xn) (.int .u64 (R 0)) (.int .u64 (R 1)) (.int .u64 (R 2)) (.int .u64 (R 3)) (.int .u64 (R 4)) (.int .u64 (R 5)) (.int .u64 (R 6)) (.int .u64 (R 7))
  have hFX := z9.ten (.slice A n c) (.int .i64 xn) (.int .u64 (R 0)) (.int .u64 (R 1)) (.int .u64 (R 2)) (.int .u64 (R 3)) (.int .u64 (R 4)) (.int .u64 (R 5)) (.int .u64 (R 6)) (.int .u64 (R 7))
  have HFX := hide hFX
  have HBF := hide hbF
  have HR := Lib.hid hR
  clear hFX hbF hbD hbC hR t9 z9 t8 z8 n8 HDO HD2 hW8
  go_wp2
  have x0 := (unhide HFX).cell 0
  have x1 := (unhide HFX).cell 1
  have x2 := (unhide HFX).cell 2
  have x3 := (unhide HFX).cell 3
  have x4 := (unhide HFX).cell 4
  have x5 := (unhide HFX).cell 5
  have x6 := (unhide HFX).cell 6
  have x7 := (unhide HFX).cell 7
  have x8 := (unhide HFX).cell 8
  have x9 := (unhide HFX).cell 9
  refine bodyPost_ret (v := .agg #[.slice A n c, .int .i64 xn, .int .u64 (R 0), .int .u64 (R 1), .int .u64 (R 2), .int .u64 (R 3), .int .u64 (R 4), .int .u64 (R 5), .int .u64 (R 6), .int .u64 (R 7)]) (by simp [results, Try.results17, go_sem, x0, x1, x2, x3, x4, x5, x6, x7, x8, x9]) rfl ⟨?_, HBF.out⟩
  rw [HR.out]
  rw [← hxk]

set_option maxRecDepth 100000 in
set_option maxHeartbeats 4000000 in
theorem step_else (hr : Rd w w.heap.size 5 A n (l.flatMap Ins.cu)) {xn : Int} {ka kb kc : Nat} (hx : l[nx]? = some ⟨6, ka, kb, kc, xn⟩) (hn : n ≤ 1000) (hka : ka < 8) (hz : r ka = 0) :
    Calls Try.prog 17 #[tskV A n c nx r] w fun e w' => e = .returned (tskV A n c (nx + 1) r) ∧ Below w.heap.size w w' := by
  have hln := hr.lenU
  have hlt : nx < n := by have := (List.getElem?_eq_some_iff.1 hx).1; omega
  have hb0 : Below w.heap.size w ((w.alloc (.cells (tskC A n c nx r) 28)).alloc (.cells (tskC none 0 0 0 (fun _ => 0)) 28)) := ((Below.refl _ _).alloc (Nat.le_refl _) _).alloc (by simp) _
  have hx0 : Bx ((w.alloc (.cells (tskC A n c nx r) 28)).alloc (.cells (tskC none 0 0 0 (fun _ => 0)) 28)) w.heap.size (tskC A n c nx r) := (Bx.new _ _ _ _ rfl).alloc _
  have hy0 : Bx ((w.alloc (.cells (tskC A n c nx r) 28)).alloc (.cells (tskC none 0 0 0 (fun _ => 0)) 28)) (w.heap.size + 1) (tskC none 0 0 0 (fun _ => 0)) := Bx.new _ _ _ _ (by simp)
  have hr0 := hr.to hb0
  have hW := fun w h => wants_plain (A := A) (n := n) (c := c) (r := r) (w := w) (l := l) h hx (by simp) (by simp)
  have hI := fun w h => instr_in (A := A) (n := n) (c := c) (r := r) (w := w) (l := l) h hx
  simp only [tskV, tskC, callV] at hW hI hx0 hy0 hr0 hb0 ⊢
  have HW := hide hW
  have HI := hide hI
  clear hW hI hr hx hln
  go_enter Try.func17, Try.ntmps17
  go_wp2_with fail
  refine (unhide HW _ hr0).mono ?_
  rintro e w1 ⟨rfl, hb1⟩
  have hby : Below w1.heap.size w1 (w1.alloc (.cells #[.int .u8 0, .int .u32 0, .int .u32 0, .int .u32 0, .int .u32 0, .int .u64 0] 40)) := (Below.refl _ _).alloc (Nat.le_refl _) _
  have hx1 := (hx0.to hb1).to hby
  have hy1 := (hy0.to hb1).to hby
  have hr1 := (hr0.to hb1).to hby
  have hb2 := bt (bt hb0 hb1) hby
  have a0 := hx1.cell 0
  have a1 := hx1.cell 1
  have a2 := hx1.cell 2
  have a3 := hx1.cell 3
  have a4 := hx1.cell 4
  have a5 := hx1.cell 5
  have a6 := hx1.cell 6
  have a7 := hx1.cell 7
  have a8 := hx1.cell 8
  have a9 := hx1.cell 9
  clear hb0 hx0 hy0 hr0 hb1 hby
  go_wp2_with fail
  refine (unhide HI _ hr1).mono ?_
  rintro e w2 ⟨rfl, hb3⟩
  have hby : Below w2.heap.size w2 (w2.alloc (.cells #[.int .u8 6, .int .u8 ka, .int .u8 kb, .int .u8 kc, .int .u16 xn] 85)) := (Below.refl _ _).alloc (Nat.le_refl _) _
  have hz2 := Bx.new w2 #[.int .u8 6, .int .u8 ka, .int .u8 kb, .int .u8 kc, .int .u16 xn] 85 w2.heap.size rfl
  have hwlt : w.heap.size + 1 < w2.heap.size := (hy1.to hb3).lt
  have hx2 := (hx1.to hb3).to hby
  have hy2 := (hy1.to hb3).to hby
  have hb4 := bt (bt hb2 hb3) hby
  have hka2 : (ka : Int) % 8 = ka := by omega
  clear a0 a1 a2 a3 a4 a5 a6 a7 a8 a9 hb3 hby hr1 hx1 hy1 hb2
  have a1 := hx2.cell 1
  have z0 := hz2.cell 0
  have z1 := hz2.cell 1
  have z2 := hz2.cell 2
  have z3 := hz2.cell 3
  have z4 := hz2.cell 4
  have hx3 := hx2.alloc (.cells #[.pointer (some ⟨w.heap.size, 2 + ka, none⟩)] 98)
  have hz3 := hz2.alloc (.cells #[.pointer (some ⟨w.heap.size, 2 + ka, none⟩)] 98)
  have b1 := hx3.cell 1
  have y0 := hz3.cell 0
  obtain ⟨W5, hW5⟩ : ∃ W5, ((w2.alloc (.cells #[.int .u8 6, .int .u8 ka, .int .u8 kb, .int .u8 kc, .int .u16 xn] 85)).alloc (.cells #[.pointer (some ⟨w.heap.size, 2 + ka, none⟩)] 98)).alloc (.cells #[.int .i64 ((nx : Int) + 1)] 3) = W5 := ⟨_, rfl⟩
  have hz5 : W5.heap.size = w2.heap.size + 1 + 1 + 1 := by rw [← hW5]; simp
  obtain ⟨W6, hW6⟩ : ∃ W6, W5.alloc (.map #[] 0) = W6 := ⟨_, rfl⟩
  have hmk := run_make (P := Try.prog) (t := 99) W5
  rw [hz5, hW6] at hmk
  have hmf : ∀ (fn : Fn) (first cap : Array Value) (w : World), (Instr.makeFunc fn first cap).run Try.prog w = .ok (.func fn first cap) w := fun _ _ _ _ => rfl
  obtain ⟨F1, hF1⟩ : ∃ F : Value, .func (.func 48) #[] #[.pointer (some ⟨w2.heap.size, 0, none⟩), .pointer (some ⟨w2.heap.size + 1, 0, none⟩)] = F := ⟨_, rfl⟩
  obtain ⟨F2, hF2⟩ : ∃ F : Value, .func (.func 49) #[] #[.pointer (some ⟨w.heap.size, 0, none⟩), .pointer (some ⟨w2.heap.size, 0, none⟩), .pointer (some ⟨w2.heap.size + 1, 0, none⟩)] = F := ⟨_, rfl⟩
  obtain ⟨F3, hF3⟩ : ∃ F : Value, .func (.func 50) #[] #[.pointer (some ⟨w.heap.size, 0, none⟩), .pointer (some ⟨w2.heap.size, 0, none⟩), .pointer (some ⟨w2.heap.size + 1, 0, none⟩)] = F := ⟨_, rfl⟩
  obtain ⟨F4, hF4⟩ : ∃ F : Value, .func (.func 51) #[] #[.pointer (some ⟨w.heap.size, 0, none⟩), .pointer (some ⟨w2.heap.size, 0, none⟩), .pointer (some ⟨w2.heap.size + 1, 0, none⟩)] = F := ⟨_, rfl⟩
  obtain ⟨F5, hF5⟩ : ∃ F : Value, .func (.func 52) #[] #[.pointer (some ⟨w2.heap.size, 0, none⟩), .pointer (some ⟨w2.heap.size + 1 + 1, 0, none⟩)] = F := ⟨_, rfl⟩
  have hlt6 : w2.heap.size + 1 + 1 + 1 < W6.heap.size := by rw [← hW6]; simp; omega
  have ins1 := run_ins (P := Try.prog) Try.underlying99 Try.underlying5 W6 (w2.heap.size + 1 + 1 + 1) hlt6 [] 1 F1 rfl rfl
  have ins2 := run_ins (P := Try.prog) Try.underlying99 Try.underlying5 W6 (w2.heap.size + 1 + 1 + 1) hlt6 [F1] 2 F2 rfl rfl
  have ins3 := run_ins (P := Try.prog) Try.underlying99 Try.underlying5 W6 (w2.heap.size + 1 + 1 + 1) hlt6 [F1, F2] 3 F3 rfl rfl
  have ins4 := run_ins (P := Try.prog) Try.underlying99 Try.underlying5 W6 (w2.heap.size + 1 + 1 + 1) hlt6 [F1, F2, F3] 4 F4 rfl rfl
  have ins5 := run_ins (P := Try.prog) Try.underlying99 Try.underlying5 W6 (w2.heap.size + 1 + 1 + 1) hlt6 [F1, F2, F3, F4] 5 F5 rfl rfl
  have ins6 := run_ins (P := Try.prog) Try.underlying99 Try.underlying5 W6 (w2.heap.size + 1 + 1 + 1) hlt6 [F1, F2, F3, F4, F5] 6 (.func (.func 53) #[] #[.pointer (some ⟨w2.heap.size + 1, 0, none⟩), .pointer (some ⟨w2.heap.size, 0, none⟩), .pointer (some ⟨w2.heap.size + 1 + 1, 0, none⟩)]) rfl rfl
  have lk := run_look (P := Try.prog) Try.underlying99 Try.underlying5 W6 (w2.heap.size + 1 + 1 + 1) hlt6 [F1, F2, F3, F4, F5, (.func (.func 53) #[] #[.pointer (some ⟨w2.heap.size + 1, 0, none⟩), .pointer (some ⟨w2.heap.size, 0, none⟩), .pointer (some ⟨w2.heap.size + 1 + 1, 0, none⟩)])] 6 6 5 (.func (.func 53) #[] #[.pointer (some ⟨w2.heap.size + 1, 0, none⟩), .pointer (some ⟨w2.heap.size, 0, none⟩), .pointer (some ⟨w2.heap.size + 1 + 1, 0, none⟩)]) rfl
  simp only [List.nil_append, List.cons_append, List.length_cons, List.length_nil, Nat.zero_add, Nat.reduceAdd] at ins1 ins2 ins3 ins4 ins5 ins6
  obtain ⟨W7, hW7⟩ : ∃ W7, mapW W6 (w2.heap.size + 1 + 1 + 1) (ents [F1, F2, F3, F4, F5, (.func (.func 53) #[] #[.pointer (some ⟨w2.heap.size + 1, 0, none⟩), .pointer (some ⟨w2.heap.size, 0, none⟩), .pointer (some ⟨w2.heap.size + 1 + 1, 0, none⟩)])]) 6 = W7 := ⟨_, rfl⟩
  rw [hW7] at ins6 lk
  have hbA : Below w.heap.size w W5 := by rw [← hW5]; exact (hb4.alloc hb4.size _).alloc (by have := hb4.size; simp at this ⊢; omega) _
  have hbB : Below w.heap.size w W7 := by rw [← hW7]; refine mapW_below ?_ (by omega); rw [← hW6]; exact hbA.alloc hbA.size _
  have up : ∀ {g : Nat} {cs : Array Value}, Bx W5 g cs → Bx W7 g cs := fun h => by
    have := h.lt
    rw [← hW7, ← hW6]
    exact (h.alloc _).mapW (by omega)
  have d1 : Bx W7 w.heap.size (tskC A n c nx r) := up (by rw [← hW5]; exact (hx2.alloc _).alloc _)
  have d2 : Bx W7 (w.heap.size + 1) (tskC none 0 0 0 (fun _ => 0)) := up (by rw [← hW5]; exact (hy2.alloc _).alloc _)
  have d3 : Bx W7 w2.heap.size #[.int .u8 6, .int .u8 ka, .int .u8 kb, .int .u8 kc, .int .u16 xn] := up (by rw [← hW5]; exact (hz2.alloc _).alloc _)
  have d4 : Bx W7 (w2.heap.size + 1) #[.pointer (some ⟨w.heap.size, 2 + ka, none⟩)] := up (by rw [← hW5]; exact (Bx.new _ _ _ _ (by simp)).alloc _)
  have d5 : Bx W7 (w2.heap.size + 1 + 1) #[.int .i64 ((nx : Int) + 1)] := up (by rw [← hW5]; exact Bx.new _ _ _ _ (by simp))
  have hdo : Doing A n c nx r w.heap.size w2.heap.size (w2.heap.size + 1) (w2.heap.size + 1 + 1) ka kb kc 6 xn W7 := ⟨d1, d3, d4, d5⟩
  have v0 := d3.cell 0
  have HDO := hide hdo
  have HD2 := hide d2
  clear hW7 up hdo d1 d2 d3 d4 d5 hx2 hy2 hz2 hx3 hz3 hb4 hbA
  go_wp2_with fail
  refine (clos6_no (unhide HDO) hka hz).mono ?_
  rintro e W8 ⟨⟨v8, rfl⟩, hW8⟩
  have t8 : Bx W8 w.heap.size (tskC A n c nx r) := by rw [hW8]; exact (unhide HDO).task
  have n8 : Bx W8 (w2.heap.size + 1 + 1) #[.int .i64 ((nx : Int) + 1)] := by rw [hW8]; exact (unhide HDO).next
  have z8 : Bx W8 (w.heap.size + 1) (tskC none 0 0 0 (fun _ => 0)) := by rw [hW8]; exact unhide HD2
  obtain ⟨R, hR⟩ : ∃ R, r = R := ⟨_, rfl⟩
  rw [hR] at t8
  have hbC : Below w.heap.size w W8 := by rw [hW8]; exact hbB
  have tF := t8.frozen 1
  have nC := n8.cell 0
  have t1c := t8.cell 1
  have t9 := t8.set_ 1 (.int .i64 ((nx : Int) + 1))
  have z9 := z8.far (p := ⟨w.heap.size, 1, none⟩) (by simp) (.int .i64 ((nx : Int) + 1))
  have hbD := hbC.setCell (p := ⟨w.heap.size, 1, none⟩) (by simp) (.int .i64 ((nx : Int) + 1))
  simp only [tskC, List.setIfInBounds_toArray, List.set_cons_zero, List.set_cons_succ] at t9 z9
  have q0 := t9.cell 0
  have q1 := t9.cell 1
  have q2 := t9.cell 2
  have q3 := t9.cell 3
  have q4 := t9.cell 4
  have q5 := t9.cell 5
  have q6 := t9.cell 6
  have q7 := t9.cell 7
  have q8 := t9.cell 8
  have q9 := t9.cell 9
  have g0 := z9.frozen 0
  have e0 := z9.cell 0
  have g1 := z9.frozen 1
  have e1 := z9.cell 1
  have g2 := z9.frozen 2
  have e2 := z9.cell 2
  have g3 := z9.frozen 3
  have e3 := z9.cell 3
  have g4 := z9.frozen 4
  have e4 := z9.cell 4
  have g5 := z9.frozen 5
  have e5 := z9.cell 5
  have g6 := z9.frozen 6
  have e6 := z9.cell 6
  have g7 := z9.frozen 7
  have e7 := z9.cell 7
  have g8 := z9.frozen 8
  have e8 := z9.cell 8
  have g9 := z9.frozen 9
  have e9 := z9.cell 9
  have hbF := below_ten (g := w.heap.size + 1) hbD (by omega) (.slice A n c) (.int .i64 ((nx : Int) + 1)) (.int .u64 (R 0)) (.int .u64 (R 1)) (.int .u64 (R 2)) (.int .u64 (R 3)) (.int .u64 (R 4)) (.int .u64 (R 5)) (.int .u64 (R 6)) (.int .u64 (R 7))
  have hFX := z9.ten (.slice A n c) (.int .i64 ((nx : Int) + 1)) (.int .u64 (R 0)) (.int .u64 (R 1)) (.int .u64 (R 2)) (.int .u64 (R 3)) (.int .u64 (R 4)) (.int .u64 (R 5)) (.int .u64 (R 6)) (.int .u64 (R 7))
  have HFX := hide hFX
  have HBF := hide hbF
  have HR := Lib.hid hR
  clear hFX hbF hbD hbC hR t9 z9 t8 z8 n8 HDO HD2 hW8
  go_wp2
  have x0 := (unhide HFX).cell 0
  have x1 := (unhide HFX).cell 1
  have x2 := (unhide HFX).cell 2
  have x3 := (unhide HFX).cell 3
  have x4 := (unhide HFX).cell 4
  have x5 := (unhide HFX).cell 5
  have x6 := (unhide HFX).cell 6
  have x7 := (unhide HFX).cell 7
  have x8 := (unhide HFX).cell 8
  have x9 := (unhide HFX).cell 9
  refine bodyPost_ret (v := .agg #[.slice A n c, .int .i64 ((nx : Int) + 1), .int .u64 (R 0), .int .u64 (R 1), .int .u64 (R 2), .int .u64 (R 3), .int .u64 (R 4), .int .u64 (R 5), .int .u64 (R 6), .int .u64 (R 7)]) (by simp [results, Try.results17, go_sem, x0, x1, x2, x3, x4, x5, x6, x7, x8, x9]) rfl ⟨?_, HBF.out⟩
  rw [HR.out]
  rfl
end
end Go.Proofs.Ytmiagijgecgfoaa
