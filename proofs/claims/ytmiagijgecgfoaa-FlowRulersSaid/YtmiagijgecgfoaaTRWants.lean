/-
  The walk of bailiwickref14.Task.Wants.
-/
import Derived.Test.YtmiagijgecgfoaaTTakes
import Derived.StillTail
import Derived.StillTactics
namespace Go.Proofs.Ytmiagijgecgfoaa
open Go.RowKit

theorem wp_still_tail_drew {P : Program} {id : Nat} {Q : Exit → Act → World → Prop} {a : Act} {w : World} {l : List Oper} (n : Nat) (hm : P.follows .mixedOrders = true) (hB : Region.lexTailB .any l.toArray n = true)
    (h : wpStill P l.toArray w.drew (fun a' => wpList P l.toArray Q (l.drop n) a' w.drew) (l.take n) a) : (Code.region id l.toArray true).wp P Q a w := wp_region_still_tail n hm hB h

/-- the registers are words -/
def U64 (r : Nat → Int) : Prop := ∀ i, i < 8 → 0 ≤ r i ∧ r i < 18446744073709551616
theorem U64.low {r : Nat → Int} (h : U64 r) {k : Nat} (hk : k < 8) : 0 ≤ r k ∧ r k % 4294967296 = IntKind.u32.wrap (r k) ∧ 0 ≤ r k % 4294967296 ∧ r k % 4294967296 < 4294967296 := by
  have := h k hk
  refine ⟨this.1, ?_, by omega, by omega⟩
  simp [IntKind.wrap, IntKind.bits, IntKind.signed]

section
variable {l : List Ins} {A : Option Addr} {n c nx : Nat} {r : Nat → Int} {w : World}

set_option maxRecDepth 100000 in
set_option maxHeartbeats 4000000 in
theorem rwants_out (hnx : n ≤ nx) :
    Calls Try.prog 15 #[tskV A n c nx r] w fun e w' => e = .returned (.tuple #[rcallV 20 0 0 0 0 0, .bool true]) ∧ Below w.heap.size w w' := by
  simp only [tskV, tskC, rcallV]
  go_enter Try.func15, Try.ntmps15
  go_upto_region 1 with fail
  refine nameW ?_
  intro W0 hW0
  have hb0 : Below w.heap.size w W0 := by rw [hW0]; exact ((Below.refl _ _).alloc (Nat.le_refl _) _).alloc (by simp) _
  have hx0 : Bx W0 w.heap.size (tskC A n c nx r) := by rw [hW0]; exact (Bx.new _ _ _ _ rfl).alloc _
  have hz0 : Bx W0 (w.heap.size + 1) #[.int .i64 0, .int .i64 0, .int .i64 0, .int .i64 0, .int .i64 0, .int .u64 0] := by rw [hW0]; exact Bx.new _ _ _ _ (by simp)
  clear hW0
  have a0 : (_ : Option Value) = some (.slice A n c) := hx0.cell 0
  have a1 : (_ : Option Value) = some (.int .i64 nx) := hx0.cell 1
  have a2 : (_ : Option Value) = some (.int .u64 (r 0)) := hx0.cell 2
  have a3 : (_ : Option Value) = some (.int .u64 (r 1)) := hx0.cell 3
  have a4 : (_ : Option Value) = some (.int .u64 (r 2)) := hx0.cell 4
  have a5 : (_ : Option Value) = some (.int .u64 (r 3)) := hx0.cell 5
  have a6 : (_ : Option Value) = some (.int .u64 (r 4)) := hx0.cell 6
  have a7 : (_ : Option Value) = some (.int .u64 (r 5)) := hx0.cell 7
  have a8 : (_ : Option Value) = some (.int .u64 (r 6)) := hx0.cell 8
  have a9 : (_ : Option Value) = some (.int .u64 (r 7)) := hx0.cell 9
  have z0 := hz0.cell 0
  have zf0 := hz0.frozen 0
  have z1 := hz0.cell 1
  have zf1 := hz0.frozen 1
  have z2 := hz0.cell 2
  have zf2 := hz0.frozen 2
  have z3 := hz0.cell 3
  have zf3 := hz0.frozen 3
  have z4 := hz0.cell 4
  have zf4 := hz0.frozen 4
  have z5 := hz0.cell 5
  have zf5 := hz0.frozen 5
  have hzF := hz0.six (.int .i64 20) (.int .i64 0) (.int .i64 0) (.int .i64 0) (.int .i64 0) (.int .u64 0)
  have hbF := below_six (g := w.heap.size + 1) hb0 (by omega) (.int .i64 20) (.int .i64 0) (.int .i64 0) (.int .i64 0) (.int .i64 0) (.int .u64 0)
  have HFX := hide hzF
  have HBF := hide hbF
  clear hx0 hz0 hb0 hzF hbF
  go_wp2
  have x0 := (unhide HFX).cell 0
  have x1 := (unhide HFX).cell 1
  have x2 := (unhide HFX).cell 2
  have x3 := (unhide HFX).cell 3
  have x4 := (unhide HFX).cell 4
  have x5 := (unhide HFX).cell 5
  refine bodyPost_ret (v := .tuple #[.agg #[.int .i64 20, .int .i64 0, .int .i64 0, .int .i64 0, .int .i64 0, .int .u64 0], .bool true]) (by simp [results, Try.results15, go_sem, x0, x1, x2, x3, x4, x5]) rfl ⟨rfl, HBF.out⟩

set_option maxRecDepth 100000 in
set_option maxHeartbeats 4000000 in
theorem rwants_halt (hr : Rd w w.heap.size 5 A n (l.flatMap Ins.ci)) {xa xb xc xn : Int} (hx : l[nx]? = some ⟨0, xa, xb, xc, xn⟩) :
    Calls Try.prog 15 #[tskV A n c nx r] w fun e w' => e = .returned (.tuple #[rcallV 20 0 0 0 0 0, .bool true]) ∧ Below w.heap.size w w' := by
  have hln := hr.lenI
  have hlt : nx < n := by have := (List.getElem?_eq_some_iff.1 hx).1; omega
  have HR := hide hr
  have HX := hide hx
  clear hr hx hln
  simp only [tskV, tskC, rcallV]
  go_enter Try.func15, Try.ntmps15
  go_upto_region 1 with fail
  refine nameW ?_
  intro W0 hW0
  have hb0 : Below w.heap.size w W0 := by rw [hW0]; exact ((Below.refl _ _).alloc (Nat.le_refl _) _).alloc (by simp) _
  have hx0 : Bx W0 w.heap.size (tskC A n c nx r) := by rw [hW0]; exact (Bx.new _ _ _ _ rfl).alloc _
  have hz0 : Bx W0 (w.heap.size + 1) #[.int .i64 0, .int .i64 0, .int .i64 0, .int .i64 0, .int .i64 0, .int .u64 0] := by rw [hW0]; exact Bx.new _ _ _ _ (by simp)
  have hr0 := (unhide HR).to hb0
  clear hW0 HR
  obtain ⟨b, o, y, rfl, hbl, hy, g0, g1, g2, g3, g4⟩ := hr0.insI hlt
  obtain rfl := Option.some.inj ((unhide HX).symm.trans hy)
  clear hr0 hy g1 g2 g3 g4 HX
  simp only at g0
  have a0 : (_ : Option Value) = some (.slice (some ⟨b,o,none⟩) n c) := hx0.cell 0
  have a1 : (_ : Option Value) = some (.int .i64 nx) := hx0.cell 1
  have a2 : (_ : Option Value) = some (.int .u64 (r 0)) := hx0.cell 2
  have a3 : (_ : Option Value) = some (.int .u64 (r 1)) := hx0.cell 3
  have a4 : (_ : Option Value) = some (.int .u64 (r 2)) := hx0.cell 4
  have a5 : (_ : Option Value) = some (.int .u64 (r 3)) := hx0.cell 5
  have a6 : (_ : Option Value) = some (.int .u64 (r 4)) := hx0.cell 6
  have a7 : (_ : Option Value) = some (.int .u64 (r 5)) := hx0.cell 7
  have a8 : (_ : Option Value) = some (.int .u64 (r 6)) := hx0.cell 8
  have a9 : (_ : Option Value) = some (.int .u64 (r 7)) := hx0.cell 9
  have z0 := hz0.cell 0
  have zf0 := hz0.frozen 0
  have z1 := hz0.cell 1
  have zf1 := hz0.frozen 1
  have z2 := hz0.cell 2
  have zf2 := hz0.frozen 2
  have z3 := hz0.cell 3
  have zf3 := hz0.frozen 3
  have z4 := hz0.cell 4
  have zf4 := hz0.frozen 4
  have z5 := hz0.cell 5
  have zf5 := hz0.frozen 5
  have hzF := hz0.six (.int .i64 20) (.int .i64 0) (.int .i64 0) (.int .i64 0) (.int .i64 0) (.int .u64 0)
  have hbF := below_six (g := w.heap.size + 1) hb0 (by omega) (.int .i64 20) (.int .i64 0) (.int .i64 0) (.int .i64 0) (.int .i64 0) (.int .u64 0)
  have HFX := hide hzF
  have HBF := hide hbF
  clear hx0 hz0 hb0 hzF hbF
  go_wp2
  have x0 := (unhide HFX).cell 0
  have x1 := (unhide HFX).cell 1
  have x2 := (unhide HFX).cell 2
  have x3 := (unhide HFX).cell 3
  have x4 := (unhide HFX).cell 4
  have x5 := (unhide HFX).cell 5
  refine bodyPost_ret (v := .tuple #[.agg #[.int .i64 20, .int .i64 0, .int .i64 0, .int .i64 0, .int .i64 0, .int .u64 0], .bool true]) (by simp [results, Try.results15, go_sem, x0, x1, x2, x3, x4, x5]) rfl ⟨rfl, HBF.out⟩

set_option maxRecDepth 100000 in
set_option maxHeartbeats 4000000 in
theorem rwants_plain (hr : Rd w w.heap.size 5 A n (l.flatMap Ins.ci)) {xo xa xb xc xn : Int} (hx : l[nx]? = some ⟨xo, xa, xb, xc, xn⟩) (h1 : 1 ≤ xo) (h2 : xo ≤ 16) :
    Calls Try.prog 15 #[tskV A n c nx r] w fun e w' => e = .returned (.tuple #[rcallV 0 0 0 0 0 0, .bool false]) ∧ Below w.heap.size w w' := by
  have hln := hr.lenI
  have hlt : nx < n := by have := (List.getElem?_eq_some_iff.1 hx).1; omega
  have HR := hide hr
  have HX := hide hx
  clear hr hx hln
  simp only [tskV, tskC, rcallV]
  go_enter Try.func15, Try.ntmps15
  go_upto_region 1 with fail
  refine nameW ?_
  intro W0 hW0
  have hb0 : Below w.heap.size w W0 := by rw [hW0]; exact ((Below.refl _ _).alloc (Nat.le_refl _) _).alloc (by simp) _
  have hx0 : Bx W0 w.heap.size (tskC A n c nx r) := by rw [hW0]; exact (Bx.new _ _ _ _ rfl).alloc _
  have hz0 : Bx W0 (w.heap.size + 1) #[.int .i64 0, .int .i64 0, .int .i64 0, .int .i64 0, .int .i64 0, .int .u64 0] := by rw [hW0]; exact Bx.new _ _ _ _ (by simp)
  have hr0 := (unhide HR).to hb0
  clear hW0 HR
  obtain ⟨b, o, y, rfl, hbl, hy, g0, g1, g2, g3, g4⟩ := hr0.insI hlt
  obtain rfl := Option.some.inj ((unhide HX).symm.trans hy)
  clear hr0 hy HX
  simp only at g0 g1 g2 g3 g4
  have a0 : (_ : Option Value) = some (.slice (some ⟨b,o,none⟩) n c) := hx0.cell 0
  have a1 : (_ : Option Value) = some (.int .i64 nx) := hx0.cell 1
  have a2 : (_ : Option Value) = some (.int .u64 (r 0)) := hx0.cell 2
  have a3 : (_ : Option Value) = some (.int .u64 (r 1)) := hx0.cell 3
  have a4 : (_ : Option Value) = some (.int .u64 (r 2)) := hx0.cell 4
  have a5 : (_ : Option Value) = some (.int .u64 (r 3)) := hx0.cell 5
  have a6 : (_ : Option Value) = some (.int .u64 (r 4)) := hx0.cell 6
  have a7 : (_ : Option Value) = some (.int .u64 (r 5)) := hx0.cell 7
  have a8 : (_ : Option Value) = some (.int .u64 (r 6)) := hx0.cell 8
  have a9 : (_ : Option Value) = some (.int .u64 (r 7)) := hx0.cell 9
  have hne : (xo == 0) = false := by simp; omega
  have hnd : decide (xo = 0) = false := by simp; omega
  have hnp : ¬ xo = 0 := by omega
  go_upto_region 5 with fail
  refine nameW ?_
  intro W1 hW1
  have hb1 : Below w.heap.size w W1 := by rw [hW1]; exact hb0.alloc hb0.size _
  have hz1 : Bx W1 (w.heap.size + 1) #[.int .i64 0, .int .i64 0, .int .i64 0, .int .i64 0, .int .i64 0, .int .u64 0] := by rw [hW1]; exact hz0.alloc _
  clear hW1 a0 a1 a2 a3 a4 a5 a6 a7 a8 a9 g0 g1 g2 g3 g4
  have z0 := hz1.cell 0
  have zf0 := hz1.frozen 0
  have z1 := hz1.cell 1
  have zf1 := hz1.frozen 1
  have z2 := hz1.cell 2
  have zf2 := hz1.frozen 2
  have z3 := hz1.cell 3
  have zf3 := hz1.frozen 3
  have z4 := hz1.cell 4
  have zf4 := hz1.frozen 4
  have z5 := hz1.cell 5
  have zf5 := hz1.frozen 5
  have hzF := hz1.six (.int .i64 0) (.int .i64 0) (.int .i64 0) (.int .i64 0) (.int .i64 0) (.int .u64 0)
  have hbF := below_six (g := w.heap.size + 1) hb1 (by omega) (.int .i64 0) (.int .i64 0) (.int .i64 0) (.int .i64 0) (.int .i64 0) (.int .u64 0)
  have HFX := hide hzF
  have HBF := hide hbF
  clear hx0 hz0 hb0 hb1 hz1 hzF hbF
  go_wp2
  have x0 := (unhide HFX).cell 0
  have x1 := (unhide HFX).cell 1
  have x2 := (unhide HFX).cell 2
  have x3 := (unhide HFX).cell 3
  have x4 := (unhide HFX).cell 4
  have x5 := (unhide HFX).cell 5
  refine bodyPost_ret (v := .tuple #[.agg #[.int .i64 0, .int .i64 0, .int .i64 0, .int .i64 0, .int .i64 0, .int .u64 0], .bool false]) (by simp [results, Try.results15, go_sem, x0, x1, x2, x3, x4, x5]) rfl ⟨rfl, HBF.out⟩

set_option maxRecDepth 100000 in
set_option maxHeartbeats 4000000 in
theorem rwants_call (hr : Rd w w.heap.size 5 A n (l.flatMap Ins.ci)) (hu : U64 r) {xo kb kc kn : Nat} {xa : Int} (hx : l[nx]? = some ⟨xo, xa, kb, kc, kn⟩) (hkb : kb < 8) (hkc : kc < 8) (h1 : 17 ≤ xo) (h2 : xo ≤ 38) :
    Calls Try.prog 15 #[tskV A n c nx r] w fun e w' => e = .returned (.tuple #[rcallV ((xo : Int) - 16) (IntKind.u32.wrap (r kb)) (IntKind.u32.wrap (r kc)) (IntKind.u32.wrap (r 6)) kn (r 5), .bool true]) ∧ Below w.heap.size w w' := by
  have hln := hr.lenI
  have hlt : nx < n := by have := (List.getElem?_eq_some_iff.1 hx).1; omega
  obtain ⟨ub, eb, lb, lb'⟩ := hu.low hkb
  obtain ⟨uc, ec, lc, lc'⟩ := hu.low hkc
  obtain ⟨u6, e6, l6, l6'⟩ := hu.low (show 6 < 8 by omega)
  rw [← eb, ← ec, ← e6]
  have HR := hide hr
  have HX := hide hx
  clear hr hx hln hu eb ec e6
  simp only [tskV, tskC, rcallV]
  go_enter Try.func15, Try.ntmps15
  go_upto_region 1 with fail
  refine nameW ?_
  intro W0 hW0
  have hb0 : Below w.heap.size w W0 := by rw [hW0]; exact ((Below.refl _ _).alloc (Nat.le_refl _) _).alloc (by simp) _
  have hx0 : Bx W0 w.heap.size (tskC A n c nx r) := by rw [hW0]; exact (Bx.new _ _ _ _ rfl).alloc _
  have hz0 : Bx W0 (w.heap.size + 1) #[.int .i64 0, .int .i64 0, .int .i64 0, .int .i64 0, .int .i64 0, .int .u64 0] := by rw [hW0]; exact Bx.new _ _ _ _ (by simp)
  have hr0 := (unhide HR).to hb0
  clear hW0 HR
  obtain ⟨b, o, y, rfl, hbl, hy, g0, g1, g2, g3, g4⟩ := hr0.insI hlt
  obtain rfl := Option.some.inj ((unhide HX).symm.trans hy)
  clear hr0 hy HX
  simp only at g0 g1 g2 g3 g4
  have a0 : (_ : Option Value) = some (.slice (some ⟨b,o,none⟩) n c) := hx0.cell 0
  have a1 : (_ : Option Value) = some (.int .i64 nx) := hx0.cell 1
  have a2 : (_ : Option Value) = some (.int .u64 (r 0)) := hx0.cell 2
  have a3 : (_ : Option Value) = some (.int .u64 (r 1)) := hx0.cell 3
  have a4 : (_ : Option Value) = some (.int .u64 (r 2)) := hx0.cell 4
  have a5 : (_ : Option Value) = some (.int .u64 (r 3)) := hx0.cell 5
  have a6 : (_ : Option Value) = some (.int .u64 (r 4)) := hx0.cell 6
  have a7 : (_ : Option Value) = some (.int .u64 (r 5)) := hx0.cell 7
  have a8 : (_ : Option Value) = some (.int .u64 (r 6)) := hx0.cell 8
  have a9 : (_ : Option Value) = some (.int .u64 (r 7)) := hx0.cell 9
  have hne : ((xo : Int) == 0) = false := by simp; omega
  have hnd : decide ((xo : Int) = 0) = false := by simp; omega
  have hnp : ¬ (xo : Int) = 0 := by omega
  go_upto_region 7 with fail
  refine nameW ?_
  intro W1 hW1
  have hby : Below W0.heap.size W0 W1 := by rw [hW1]; exact (Below.refl _ _).alloc (Nat.le_refl _) _
  have hi1 : Bx W1 W0.heap.size #[.int .i64 xo, .int .i64 xa, .int .i64 kb, .int .i64 kc, .int .i64 kn] := by rw [hW1]; exact Bx.new _ _ _ _ rfl
  have hb1 := bt hb0 hby
  refine wp_still_tail_drew 31 (by kernel_rfl) (by kernel_rfl) ?_
  obtain ⟨W2, hW2⟩ : ∃ W2, W1.drew = W2 := ⟨_, rfl⟩
  rw [hW2]
  have hbd : Below W1.heap.size W1 W2 := by rw [← hW2]; exact (Below.refl _ _).drew
  have hx2 := (hx0.to hby).to hbd
  have hz2 := (hz0.to hby).to hbd
  have hi2 := hi1.to hbd
  have hb2 := bt hb1 hbd
  have k1 := (hx2.cell (2 + kb)).trans (tsk_get _ n c nx r kb hkb)
  have k2 := (hx2.cell (2 + kc)).trans (tsk_get _ n c nx r kc hkc)
  clear a0 a1 a2 a3 a4 a5 a6 a7 a8 a9 g0 g1 g2 g3 g4 hW1 hW2 hx0 hz0 hby hi1 hb1 hbd hb0
  have a0 : (_ : Option Value) = some (.slice (some ⟨b,o,none⟩) n c) := hx2.cell 0
  have a1 : (_ : Option Value) = some (.int .i64 nx) := hx2.cell 1
  have a2 : (_ : Option Value) = some (.int .u64 (r 0)) := hx2.cell 2
  have a3 : (_ : Option Value) = some (.int .u64 (r 1)) := hx2.cell 3
  have a4 : (_ : Option Value) = some (.int .u64 (r 2)) := hx2.cell 4
  have a5 : (_ : Option Value) = some (.int .u64 (r 3)) := hx2.cell 5
  have a6 : (_ : Option Value) = some (.int .u64 (r 4)) := hx2.cell 6
  have a7 : (_ : Option Value) = some (.int .u64 (r 5)) := hx2.cell 7
  have a8 : (_ : Option Value) = some (.int .u64 (r 6)) := hx2.cell 8
  have a9 : (_ : Option Value) = some (.int .u64 (r 7)) := hx2.cell 9
  have i0 := hi2.cell 0
  have i1 := hi2.cell 1
  have i2 := hi2.cell 2
  have i3 := hi2.cell 3
  have i4 := hi2.cell 4
  have w1 : IntKind.i64.wrap ((xo : Int) - 16) = (xo : Int) - 16 := IntWalk.i64_in _ (by omega)
  have wb : IntKind.i64.wrap (r kb % 4294967296) = r kb % 4294967296 := IntWalk.i64_in _ (by omega)
  have wc : IntKind.i64.wrap (r kc % 4294967296) = r kc % 4294967296 := IntWalk.i64_in _ (by omega)
  have w6 : IntKind.i64.wrap (r 6 % 4294967296) = r 6 % 4294967296 := IntWalk.i64_in _ (by omega)
  have tb : (r kb).tmod 4294967296 = r kb % 4294967296 := Int.tmod_eq_emod_of_nonneg ub
  have tc : (r kc).tmod 4294967296 = r kc % 4294967296 := Int.tmod_eq_emod_of_nonneg uc
  have t6 : (r 6).tmod 4294967296 = r 6 % 4294967296 := Int.tmod_eq_emod_of_nonneg u6
  have jb : (kb : Int) < 8 := by omega
  have jc : (kc : Int) < 8 := by omega
  have jb1 : ((kb : Int)).toNat = kb := by omega
  have jc1 : ((kc : Int)).toNat = kc := by omega
  simp only [List.take_succ_cons, List.take_zero, List.drop_succ_cons, List.drop_zero]
  repeat still_step
  refine wpStill_nil ?_
  have z0 := hz2.cell 0
  have zf0 := hz2.frozen 0
  have z1 := hz2.cell 1
  have zf1 := hz2.frozen 1
  have z2 := hz2.cell 2
  have zf2 := hz2.frozen 2
  have z3 := hz2.cell 3
  have zf3 := hz2.frozen 3
  have z4 := hz2.cell 4
  have zf4 := hz2.frozen 4
  have z5 := hz2.cell 5
  have zf5 := hz2.frozen 5
  have hzF := hz2.six (.int .i64 ((xo : Int) - 16)) (.int .i64 (r kb % 4294967296)) (.int .i64 (r kc % 4294967296)) (.int .i64 (r 6 % 4294967296)) (.int .i64 kn) (.int .u64 (r 5))
  have hbF := below_six (g := w.heap.size + 1) hb2 (by omega) (.int .i64 ((xo : Int) - 16)) (.int .i64 (r kb % 4294967296)) (.int .i64 (r kc % 4294967296)) (.int .i64 (r 6 % 4294967296)) (.int .i64 kn) (.int .u64 (r 5))
  have HFX := hide hzF
  have HBF := hide hbF
  clear hx2 hz2 hi2 hb2 hzF hbF a0 a1 a2 a3 a4 a5 a6 a7 a8 a9 i0 i1 i2 i3 i4 w1 wb wc w6 tb tc t6 k1 k2
  go_wp2
  have x0 := (unhide HFX).cell 0
  have x1 := (unhide HFX).cell 1
  have x2 := (unhide HFX).cell 2
  have x3 := (unhide HFX).cell 3
  have x4 := (unhide HFX).cell 4
  have x5 := (unhide HFX).cell 5
  refine bodyPost_ret (v := .tuple #[.agg #[.int .i64 ((xo : Int) - 16), .int .i64 (r kb % 4294967296), .int .i64 (r kc % 4294967296), .int .i64 (r 6 % 4294967296), .int .i64 kn, .int .u64 (r 5)], .bool true]) (by simp [results, Try.results15, go_sem, x0, x1, x2, x3, x4, x5]) rfl ⟨rfl, HBF.out⟩

theorem rwants_any (hp : Prog l) (hr : Rd w w.heap.size 5 A n (l.flatMap Ins.ci)) (hu : U64 r) :
    Calls Try.prog 15 #[tskV A n c nx r] w fun e w' => e = .returned (.tuple #[rcallP (wP l nx r), .bool (wB l nx)]) ∧ Below w.heap.size w w' := by
  have hln := hr.lenI
  cases hx : l[nx]? with
  | none =>
    have : n ≤ nx := by have := List.getElem?_eq_none_iff.1 hx; omega
    unfold wP wB
    rw [hx]
    exact rwants_out this
  | some x =>
    obtain ⟨xo, ka, kb, kc, kn, rfl, ha, hb, hc, hn, ho, hj⟩ := hp.get hx
    unfold wP wB
    rw [hx]
    by_cases h0 : xo = 0
    · subst h0
      exact rwants_halt hr hx
    · by_cases h1 : 16 < xo
      · have e1 : ((xo : Int) = 0) = False := by simp; omega
        have e2 : (16 < (xo : Int)) = True := by simp; omega
        simp only [e1, e2, if_true, if_false, or_true, decide_true, Int.toNat_natCast, rcallP]
        exact rwants_call hr hu hx hb hc (by omega) (by omega)
      · have e1 : ((xo : Int) = 0) = False := by simp; omega
        have e2 : (16 < (xo : Int)) = False := by simp; omega
        simp only [e1, e2, if_false, or_false, decide_false, rcallP]
        exact rwants_plain hr hx (by omega) (by omega)
end
end Go.Proofs.Ytmiagijgecgfoaa
