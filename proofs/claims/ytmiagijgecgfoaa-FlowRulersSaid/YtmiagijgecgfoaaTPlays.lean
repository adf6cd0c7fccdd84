/-
  The walk of bailiwicklaw14.TaskPlays.
-/
import Derived.Test.YtmiagijgecgfoaaTFrame
namespace Go.Proofs.Ytmiagijgecgfoaa
open Go.RowKit

theorem decL_prog {s : List UInt8} (h : decOk s = true) : Prog (decL s) := by
  refine ⟨decL_ok s, ?_⟩
  rw [(decE_ok h).2]
  unfold decOk at h
  simp only [Bool.and_eq_true] at h
  exact h.2

theorem below_ten' {w w0 : World} {B g : Nat} (h : Below B w0 w) (hg : B ≤ g) (v0 v1 v2 v3 v4 v5 v6 v7 v8 v9 : Value) :
    Below B w0 ((((((((((w.setCell ⟨g, 0, none⟩ v0).setCell ⟨g, 1, none⟩ v1).setCell ⟨g, 2, none⟩ v2).setCell ⟨g, 3, none⟩ v3).setCell ⟨g, 4, none⟩ v4).setCell ⟨g, 5, none⟩ v5).setCell ⟨g, 6, none⟩ v6).setCell ⟨g, 7, none⟩ v7).setCell ⟨g, 8, none⟩ v8).setCell ⟨g, 9, none⟩ v9) :=
  (((((((((h.setCell (p := ⟨g, 0, none⟩) hg v0).setCell (p := ⟨g, 1, none⟩) hg v1).setCell (p := ⟨g, 2, none⟩) hg v2).setCell (p := ⟨g, 3, none⟩) hg v3).setCell (p := ⟨g, 4, none⟩) hg v4).setCell (p := ⟨g, 5, none⟩) hg v5).setCell (p := ⟨g, 6, none⟩) hg v6).setCell (p := ⟨g, 7, none⟩) hg v7).setCell (p := ⟨g, 8, none⟩) hg v8).setCell (p := ⟨g, 9, none⟩) hg v9
theorem wrap_u32 (x : Int) : 0 ≤ IntKind.u32.wrap x ∧ IntKind.u32.wrap x ≤ 4294967295 := by
  simp [IntKind.wrap, IntKind.bits, IntKind.signed]
  omega
theorem wP_bd {l : List Ins} (hp : Prog l) (nx : Nat) (r : Nat → Int) {p0 p1 p2 p3 p4 p5 : Int} (h : wP l nx r = (p0, p1, p2, p3, p4, p5)) :
    (0 ≤ p0 ∧ p0 ≤ 255) ∧ (0 ≤ p1 ∧ p1 ≤ 4294967295) ∧ (0 ≤ p2 ∧ p2 ≤ 4294967295) ∧ (0 ≤ p3 ∧ p3 ≤ 4294967295) ∧ (0 ≤ p4 ∧ p4 ≤ 4294967295) := by
  unfold wP at h
  cases hx : l[nx]? with
  | none =>
    rw [hx] at h
    simp only [Prod.mk.injEq] at h
    omega
  | some x =>
    obtain ⟨xo, ka, kb, kc, kn, rfl, ha, hb, hc, hn, ho, hj⟩ := hp.get hx
    rw [hx] at h
    simp only at h
    have w1 := wrap_u32 (r kb)
    have w2 := wrap_u32 (r kc)
    have w3 := wrap_u32 (r 6)
    split at h
    · simp only [Prod.mk.injEq] at h
      omega
    · split at h
      · simp only [Prod.mk.injEq, Int.toNat_natCast] at h
        obtain ⟨rfl, rfl, rfl, rfl, rfl, _⟩ := h
        exact ⟨by omega, w1, w2, w3, by omega⟩
      · simp only [Prod.mk.injEq] at h
        omega

theorem rg0_u64 : U64 rg0 := fun _ _ => ⟨Int.le_refl _, by show (0 : Int) < _; decide⟩
/-- what holds between two rounds -/
structure PlayI (w1 : World) (gT gW lo hi : Nat) (A A' : Option Addr) (n c c' : Nat) (l : List Ins) (nx : Nat) (r : Nat → Int) (wr : World) : Prop where
  u : U64 r
  t : Bx wr gT (tskC A n c nx r)
  w : Bx wr gW (tskC A' n c' nx r)
  rd : RdB wr lo hi 5 A' n (l.flatMap Ins.ci)
  hh : hi ≤ wr.heap.size
  b : Below gT w1 wr

set_option maxRecDepth 100000 in
set_option maxHeartbeats 4000000 in
theorem plays_any (s : List UInt8) (A2 : Option Addr) (n2 c2 : Nat) (L : List Res) (w : World) (hr : Rd w w.heap.size 3 A2 n2 (L.flatMap Res.cs)) (hok : ∀ x ∈ L, x.ok) :
    Calls Try.prog 3 #[.string (S s), .slice A2 n2 c2] w fun e w' => e = .returned (.bool true) ∧ Below w.heap.size w w' := by
  by_cases hg : s.length ≤ 1000 ∧ n2 ≤ 200
  · obtain ⟨hs, hn2⟩ := hg
    have hd1 : decide (1000 < (s.length : Int)) = false := decide_eq_false (by omega)
    have hd2 : decide (200 < (n2 : Int)) = false := decide_eq_false (by omega)
    by_cases hd : decOk s = true
    · have hp := decL_prog hd
      have h1 := Lib.hid (decE_ok hd).1
      have HD := Lib.hid hd
      clear hd
      go_enter Try.func3, Try.ntmps3
      go_wp2_with fail
      refine (of14_any s w (by omega)).mono ?_
      rintro e w1 ⟨A, c, rfl, hr1, hb1⟩
      have hle := hp.le
      have HS1 := hide (rdec_any s)
      have hsl := decL_le s
      rw [h1.out, HD.out] at *
      simp only [tskV, tskC]
      generalize hl : decL s = l at *
      generalize hn : l.length = n at *
      have HN := Lib.hid hn
      have hr2 := (hr.to hb1)
      clear hl hn hr
      go_upto_region 4 with fail
      refine nameW ?_
      intro W1 hW1
      have hb2 : Below w1.heap.size w1 W1 := by rw [hW1]; exact (Below.refl _ _).alloc (Nat.le_refl _) _
      have hx1 : Bx W1 w1.heap.size (tskC A n c 0 rg0) := by rw [hW1]; exact Bx.new _ _ _ _ rfl
      clear hW1
      go_wp2_with fail
      refine ((unhide HS1) _ (by omega)).mono ?_
      rintro e w2 ⟨A', c', rfl, hown, hb3⟩
      have hx2 := hx1.to hb3
      have hrd := RdB.of_own hown
      have hb4 := bt hb2 hb3
      have hlo : w1.heap.size < W1.heap.size := hx1.lt
      have hlh : W1.heap.size ≤ w2.heap.size := hb3.size
      clear hx1 hown hb2 hb3 HS1
      go_upto_region 8 with fail
      refine nameW ?_
      intro W2 hW2
      have hb5 : Below w2.heap.size w2 W2 := by rw [hW2]; exact (Below.refl _ _).alloc (Nat.le_refl _) _
      have hx3 := hx2.to hb5
      have hy3 : Bx W2 w2.heap.size (tskC A' n c' 0 rg0) := by rw [hW2]; exact Bx.new _ _ _ _ rfl
      have hrd3 := hrd.to (Nat.le_refl _) hb5
      have hI : PlayI w1 w1.heap.size w2.heap.size W1.heap.size w2.heap.size A A' n c c' l 0 rg0 W2 := ⟨rg0_u64, hx3, hy3, hrd3, hb5.size, bt hb4 hb5⟩
      have HI := hide hI
      have HR1 := hide hr1
      have HR2 := hide hr2
      clear hW2 hx2 hrd hb4 hb5 hx3 hy3 hrd3 hI hr1 hr2
      go_wp2
      go_loopw [10] (fun i wr => ∃ (k nx : Nat) (r : Nat → Int), k ≤ n2 ∧ i = .int .i64 k ∧ PlayI w1 w1.heap.size w2.heap.size W1.heap.size w2.heap.size A A' n c c' l nx r wr) (fun i _ => n2 - (intOf i).toNat)
      case atStart => exact ⟨0, 0, rg0, Nat.zero_le _, rfl, unhide HI⟩
      case round =>
        clear HI
        obtain ⟨k, nx, r, hk, rfl, hI⟩ := hrel
        by_cases hlt : k < n2
        · obtain ⟨hu, hx, hy, hrd, hhi, hbr⟩ := hI
          have hjd : decide (k < n2) = true := decide_eq_true hlt
          have HRD := hide (fun (W : World) (hb : Below w1.heap.size w1 W) => ((unhide HR1).below hb).mono hb.size)
          obtain ⟨⟨p0, p1, p2, p3, p4, p5⟩, hq⟩ : ∃ q, wP l nx r = q := ⟨_, rfl⟩
          obtain ⟨t0, t1, t2, t3, t4⟩ := wP_bd hp nx r hq
          obtain ⟨cb, hcb⟩ : ∃ cb, wB l nx = cb := ⟨_, rfl⟩
          have hW := wants_any (A := A) (n := n) (c := c) (nx := nx) (r := r) (w := wr) (l := l) hp ((unhide HRD) _ hbr)
          have hRW := fun W h => rwants_any (A := A') (n := n) (c := c') (nx := nx) (r := r) (w := W) (l := l) hp h hu
          rw [hq, hcb] at hW hRW
          have hOf := fun W => of12_any (w := W) p0 p1 p2 p3 p4 p5 t0 t1 t2 t3 t4
          simp only [tskV, tskC, callP, callV, rcallP, rcallV] at hW hRW hOf
          have HW := hide hW
          have HRW := hide hRW
          have HOF := hide hOf
          have HCB := Lib.hid hcb
          clear hW hRW hOf hq hcb
          have a0 : (_ : Option Value) = some (.slice A n c) := hx.cell 0
          have a1 : (_ : Option Value) = some (.int .i64 nx) := hx.cell 1
          have a2 : (_ : Option Value) = some (.int .u64 (r 0)) := hx.cell 2
          have a3 : (_ : Option Value) = some (.int .u64 (r 1)) := hx.cell 3
          have a4 : (_ : Option Value) = some (.int .u64 (r 2)) := hx.cell 4
          have a5 : (_ : Option Value) = some (.int .u64 (r 3)) := hx.cell 5
          have a6 : (_ : Option Value) = some (.int .u64 (r 4)) := hx.cell 6
          have a7 : (_ : Option Value) = some (.int .u64 (r 5)) := hx.cell 7
          have a8 : (_ : Option Value) = some (.int .u64 (r 6)) := hx.cell 8
          have a9 : (_ : Option Value) = some (.int .u64 (r 7)) := hx.cell 9
          go_wp2_with fail
          refine (unhide HW).mono ?_
          rintro e w3 ⟨rfl, hb⟩
          clear a0 a1 a2 a3 a4 a5 a6 a7 a8 a9 HW
          go_upto_region 14 with fail
          refine nameW ?_
          intro W3 hW3
          have hby : Below w3.heap.size w3 W3 := by rw [hW3]; exact (Below.refl _ _).alloc (Nat.le_refl _) _
          have hc3 : Bx W3 w3.heap.size #[.int .u8 p0, .int .u32 p1, .int .u32 p2, .int .u32 p3, .int .u32 p4, .int .u64 p5] := by rw [hW3]; exact Bx.new _ _ _ _ rfl
          have hbz := bt hb hby
          have hx3 := hx.to hbz
          have hy3 := hy.to hbz
          have hrd3 := hrd.to hhi hbz
          have hh3 := Nat.le_trans hhi hbz.size
          have hb3 := hbr.trans (hbz.mono hbr.size)
          have hl3 : w2.heap.size < w3.heap.size := (hy.to hb).lt
          clear hW3 hb hby hbz hx hy hrd hhi hbr
          have a0 : (_ : Option Value) = some (.slice A' n c') := hy3.cell 0
          have a1 : (_ : Option Value) = some (.int .i64 nx) := hy3.cell 1
          have a2 : (_ : Option Value) = some (.int .u64 (r 0)) := hy3.cell 2
          have a3 : (_ : Option Value) = some (.int .u64 (r 1)) := hy3.cell 3
          have a4 : (_ : Option Value) = some (.int .u64 (r 2)) := hy3.cell 4
          have a5 : (_ : Option Value) = some (.int .u64 (r 3)) := hy3.cell 5
          have a6 : (_ : Option Value) = some (.int .u64 (r 4)) := hy3.cell 6
          have a7 : (_ : Option Value) = some (.int .u64 (r 5)) := hy3.cell 7
          have a8 : (_ : Option Value) = some (.int .u64 (r 6)) := hy3.cell 8
          have a9 : (_ : Option Value) = some (.int .u64 (r 7)) := hy3.cell 9
          go_wp2_with fail
          refine (unhide HRW _ (hrd3.rd hh3)).mono ?_
          rintro e w4 ⟨rfl, hb⟩
          clear a0 a1 a2 a3 a4 a5 a6 a7 a8 a9 HRW
          go_upto_region 15 with fail
          refine nameW ?_
          intro W4 hW4
          have hby : Below w4.heap.size w4 W4 := by rw [hW4]; exact (Below.refl _ _).alloc (Nat.le_refl _) _
          have hd4 : Bx W4 w4.heap.size #[.int .i64 p0, .int .i64 p1, .int .i64 p2, .int .i64 p3, .int .i64 p4, .int .u64 p5] := by rw [hW4]; exact Bx.new _ _ _ _ rfl
          have hbz := bt hb hby
          have hx4 := hx3.to hbz
          have hy4 := hy3.to hbz
          have hc4 := hc3.to hbz
          have hrd4 := hrd3.to hh3 hbz
          have hh4 := Nat.le_trans hh3 hbz.size
          have hb4 := hb3.trans (hbz.mono hb3.size)
          clear hW4 hb hby hbz hx3 hy3 hc3 hrd3 hh3 hb3
          have hS : W4.drew.cell? ⟨w3.heap.size, 0, none⟩ = some (.int .u8 p0) ∧ W4.drew.cell? ⟨w3.heap.size, 1, none⟩ = some (.int .u32 p1) ∧ W4.drew.cell? ⟨w3.heap.size, 2, none⟩ = some (.int .u32 p2) ∧ W4.drew.cell? ⟨w3.heap.size, 3, none⟩ = some (.int .u32 p3) ∧ W4.drew.cell? ⟨w3.heap.size, 4, none⟩ = some (.int .u32 p4) ∧ W4.drew.cell? ⟨w3.heap.size, 5, none⟩ = some (.int .u64 p5) ∧
              W4.drew.cell? ⟨w4.heap.size, 0, none⟩ = some (.int .i64 p0) ∧ W4.drew.cell? ⟨w4.heap.size, 1, none⟩ = some (.int .i64 p1) ∧ W4.drew.cell? ⟨w4.heap.size, 2, none⟩ = some (.int .i64 p2) ∧ W4.drew.cell? ⟨w4.heap.size, 3, none⟩ = some (.int .i64 p3) ∧ W4.drew.cell? ⟨w4.heap.size, 4, none⟩ = some (.int .i64 p4) ∧ W4.drew.cell? ⟨w4.heap.size, 5, none⟩ = some (.int .u64 p5) ∧ Below W4.heap.size W4 W4.drew :=
            ⟨hc4.cell 0, hc4.cell 1, hc4.cell 2, hc4.cell 3, hc4.cell 4, hc4.cell 5, hd4.cell 0, hd4.cell 1, hd4.cell 2, hd4.cell 3, hd4.cell 4, hd4.cell 5, (Below.refl _ _).drew⟩
          have hT : ∀ W W' : World, (W.cell? ⟨w3.heap.size, 0, none⟩ = some (.int .u8 p0) ∧ W.cell? ⟨w3.heap.size, 1, none⟩ = some (.int .u32 p1) ∧ W.cell? ⟨w3.heap.size, 2, none⟩ = some (.int .u32 p2) ∧ W.cell? ⟨w3.heap.size, 3, none⟩ = some (.int .u32 p3) ∧ W.cell? ⟨w3.heap.size, 4, none⟩ = some (.int .u32 p4) ∧ W.cell? ⟨w3.heap.size, 5, none⟩ = some (.int .u64 p5) ∧
              W.cell? ⟨w4.heap.size, 0, none⟩ = some (.int .i64 p0) ∧ W.cell? ⟨w4.heap.size, 1, none⟩ = some (.int .i64 p1) ∧ W.cell? ⟨w4.heap.size, 2, none⟩ = some (.int .i64 p2) ∧ W.cell? ⟨w4.heap.size, 3, none⟩ = some (.int .i64 p3) ∧ W.cell? ⟨w4.heap.size, 4, none⟩ = some (.int .i64 p4) ∧ W.cell? ⟨w4.heap.size, 5, none⟩ = some (.int .u64 p5) ∧ Below W4.heap.size W4 W) → Below W.heap.size W W' →
              (W'.cell? ⟨w3.heap.size, 0, none⟩ = some (.int .u8 p0) ∧ W'.cell? ⟨w3.heap.size, 1, none⟩ = some (.int .u32 p1) ∧ W'.cell? ⟨w3.heap.size, 2, none⟩ = some (.int .u32 p2) ∧ W'.cell? ⟨w3.heap.size, 3, none⟩ = some (.int .u32 p3) ∧ W'.cell? ⟨w3.heap.size, 4, none⟩ = some (.int .u32 p4) ∧ W'.cell? ⟨w3.heap.size, 5, none⟩ = some (.int .u64 p5) ∧
              W'.cell? ⟨w4.heap.size, 0, none⟩ = some (.int .i64 p0) ∧ W'.cell? ⟨w4.heap.size, 1, none⟩ = some (.int .i64 p1) ∧ W'.cell? ⟨w4.heap.size, 2, none⟩ = some (.int .i64 p2) ∧ W'.cell? ⟨w4.heap.size, 3, none⟩ = some (.int .i64 p3) ∧ W'.cell? ⟨w4.heap.size, 4, none⟩ = some (.int .i64 p4) ∧ W'.cell? ⟨w4.heap.size, 5, none⟩ = some (.int .u64 p5) ∧ Below W4.heap.size W4 W') := fun W W' ⟨x0, x1, x2, x3, x4, x5, y0, y1, y2, y3, y4, y5, hb⟩ hbW =>
            ⟨keepc hbW x0, keepc hbW x1, keepc hbW x2, keepc hbW x3, keepc hbW x4, keepc hbW x5, keepc hbW y0, keepc hbW y1, keepc hbW y2, keepc hbW y3, keepc hbW y4, keepc hbW y5, bt hb hbW⟩
          have HSS := hide hS
          have HTO := hide hT
          clear hS hT
          go_region_held3 (fun W => W.cell? ⟨w3.heap.size, 0, none⟩ = some (.int .u8 p0) ∧ W.cell? ⟨w3.heap.size, 1, none⟩ = some (.int .u32 p1) ∧ W.cell? ⟨w3.heap.size, 2, none⟩ = some (.int .u32 p2) ∧ W.cell? ⟨w3.heap.size, 3, none⟩ = some (.int .u32 p3) ∧ W.cell? ⟨w3.heap.size, 4, none⟩ = some (.int .u32 p4) ∧ W.cell? ⟨w3.heap.size, 5, none⟩ = some (.int .u64 p5) ∧
              W.cell? ⟨w4.heap.size, 0, none⟩ = some (.int .i64 p0) ∧ W.cell? ⟨w4.heap.size, 1, none⟩ = some (.int .i64 p1) ∧ W.cell? ⟨w4.heap.size, 2, none⟩ = some (.int .i64 p2) ∧ W.cell? ⟨w4.heap.size, 3, none⟩ = some (.int .i64 p3) ∧ W.cell? ⟨w4.heap.size, 4, none⟩ = some (.int .i64 p4) ∧ W.cell? ⟨w4.heap.size, 5, none⟩ = some (.int .u64 p5) ∧ Below W4.heap.size W4 W)
            (first | (with_reducible exact HSS.out) | (with_reducible exact HTO.out _ _ (by assumption) (by assumption)) | (with_reducible assumption) | go_keep)
            ((go_at_call 16; (with_reducible refine (unhide HOF _).mono ?_); rintro e w5 ⟨rfl, hb5⟩))
          have hb6 : Below W4.heap.size W4 w5 := bt (Below.refl _ _).drew hb5
          have hx5 := hx4.to hb6
          have hy5 := hy4.to hb6
          have hrd5 := hrd4.to hh4 hb6
          have hh5 := Nat.le_trans hh4 hb6.size
          have hbr5 := hb4.trans (hb6.mono hb4.size)
          clear hx4 hy4 hc4 hd4 hrd4 hh4 hb4 hb5 hb6 HSS HTO HOF t0 t1 t2 t3 t4
          have hS := step_any (A := A) (n := n) (c := c) (nx := nx) (r := r) (w := w5) (l := l) hp ((unhide HRD) _ hbr5) (by omega)
          have hRS := fun W h => rstep_any (A := A') (n := n) (c := c') (nx := nx) (r := r) (w := W) (l := l) hp h hu (by omega)
          have hu2 := U64.sR hp (nx := nx) hu
          obtain ⟨nx1, hnx1⟩ : ∃ q, sN l nx r = q := ⟨_, rfl⟩
          obtain ⟨r1, hr1⟩ : ∃ q, sR l nx r = q := ⟨_, rfl⟩
          have HC1 := hide (fun h : cb = true => (s_call r (HCB.out.trans h)))
          rw [hnx1, hr1] at hS hRS HC1
          rw [hr1] at hu2
          have HHU := hide hu2
          simp only [tskV, tskC] at hS hRS
          have HS := hide hS
          have HRS := hide hRS
          clear hS hRS hu2 hnx1 hr1
          have a0 : (_ : Option Value) = some (.slice A n c) := hx5.cell 0
          have a1 : (_ : Option Value) = some (.int .i64 nx) := hx5.cell 1
          have a2 : (_ : Option Value) = some (.int .u64 (r 0)) := hx5.cell 2
          have a3 : (_ : Option Value) = some (.int .u64 (r 1)) := hx5.cell 3
          have a4 : (_ : Option Value) = some (.int .u64 (r 2)) := hx5.cell 4
          have a5 : (_ : Option Value) = some (.int .u64 (r 3)) := hx5.cell 5
          have a6 : (_ : Option Value) = some (.int .u64 (r 4)) := hx5.cell 6
          have a7 : (_ : Option Value) = some (.int .u64 (r 5)) := hx5.cell 7
          have a8 : (_ : Option Value) = some (.int .u64 (r 6)) := hx5.cell 8
          have a9 : (_ : Option Value) = some (.int .u64 (r 7)) := hx5.cell 9
          go_upto_region 17 with fail
          go_wp2_with fail
          refine (unhide HS).mono ?_
          rintro e w6 ⟨rfl, hb⟩
          clear a0 a1 a2 a3 a4 a5 a6 a7 a8 a9 HS
          have hx6 := hx5.to hb
          have hy6 := hy5.to hb
          have hrd6 := hrd5.to hh5 hb
          have hh6 := Nat.le_trans hh5 hb.size
          have hbr6 := hbr5.trans (hb.mono hbr5.size)
          clear hx5 hy5 hrd5 hh5 hbr5 hb
          have a0 : (_ : Option Value) = some (.slice A n c) := hx6.cell 0
          have af0 := hx6.frozen 0
          have a1 : (_ : Option Value) = some (.int .i64 nx) := hx6.cell 1
          have af1 := hx6.frozen 1
          have a2 : (_ : Option Value) = some (.int .u64 (r 0)) := hx6.cell 2
          have af2 := hx6.frozen 2
          have a3 : (_ : Option Value) = some (.int .u64 (r 1)) := hx6.cell 3
          have af3 := hx6.frozen 3
          have a4 : (_ : Option Value) = some (.int .u64 (r 2)) := hx6.cell 4
          have af4 := hx6.frozen 4
          have a5 : (_ : Option Value) = some (.int .u64 (r 3)) := hx6.cell 5
          have af5 := hx6.frozen 5
          have a6 : (_ : Option Value) = some (.int .u64 (r 4)) := hx6.cell 6
          have af6 := hx6.frozen 6
          have a7 : (_ : Option Value) = some (.int .u64 (r 5)) := hx6.cell 7
          have af7 := hx6.frozen 7
          have a8 : (_ : Option Value) = some (.int .u64 (r 6)) := hx6.cell 8
          have af8 := hx6.frozen 8
          have a9 : (_ : Option Value) = some (.int .u64 (r 7)) := hx6.cell 9
          have af9 := hx6.frozen 9
          go_upto_region 18 with fail
          refine nameW ?_
          intro W6 hW6
          have hxx := hx6.ten (.slice A n c) (.int .i64 (nx1:Int)) (.int .u64 (r1 0)) (.int .u64 (r1 1)) (.int .u64 (r1 2)) (.int .u64 (r1 3)) (.int .u64 (r1 4)) (.int .u64 (r1 5)) (.int .u64 (r1 6)) (.int .u64 (r1 7))
          have hyy := hy6.far10 (g := w1.heap.size) (by omega) (.slice A n c) (.int .i64 (nx1:Int)) (.int .u64 (r1 0)) (.int .u64 (r1 1)) (.int .u64 (r1 2)) (.int .u64 (r1 3)) (.int .u64 (r1 4)) (.int .u64 (r1 5)) (.int .u64 (r1 6)) (.int .u64 (r1 7))
          have hrr := hrd6.ten (g := w1.heap.size) (Or.inl hlo) (.slice A n c) (.int .i64 (nx1:Int)) (.int .u64 (r1 0)) (.int .u64 (r1 1)) (.int .u64 (r1 2)) (.int .u64 (r1 3)) (.int .u64 (r1 4)) (.int .u64 (r1 5)) (.int .u64 (r1 6)) (.int .u64 (r1 7))
          have hbb := below_ten (w0 := w1) (g := w1.heap.size) hbr6 (Nat.le_refl _) (.slice A n c) (.int .i64 (nx1:Int)) (.int .u64 (r1 0)) (.int .u64 (r1 1)) (.int .u64 (r1 2)) (.int .u64 (r1 3)) (.int .u64 (r1 4)) (.int .u64 (r1 5)) (.int .u64 (r1 6)) (.int .u64 (r1 7))
          have hhh : w2.heap.size ≤ W6.heap.size := by rw [hW6]; simpa using hh6
          rw [← hW6] at hxx hyy hrr hbb
          clear hW6 hx6 hy6 hrd6 hh6 hbr6 a0 a1 a2 a3 a4 a5 a6 a7 a8 a9 af0 af1 af2 af3 af4 af5 af6 af7 af8 af9
          have a0 : (_ : Option Value) = some (.slice A' n c') := hyy.cell 0
          have a1 : (_ : Option Value) = some (.int .i64 nx) := hyy.cell 1
          have a2 : (_ : Option Value) = some (.int .u64 (r 0)) := hyy.cell 2
          have a3 : (_ : Option Value) = some (.int .u64 (r 1)) := hyy.cell 3
          have a4 : (_ : Option Value) = some (.int .u64 (r 2)) := hyy.cell 4
          have a5 : (_ : Option Value) = some (.int .u64 (r 3)) := hyy.cell 5
          have a6 : (_ : Option Value) = some (.int .u64 (r 4)) := hyy.cell 6
          have a7 : (_ : Option Value) = some (.int .u64 (r 5)) := hyy.cell 7
          have a8 : (_ : Option Value) = some (.int .u64 (r 6)) := hyy.cell 8
          have a9 : (_ : Option Value) = some (.int .u64 (r 7)) := hyy.cell 9
          go_wp2_with fail
          refine (unhide HRS _ (hrr.rd hhh)).mono ?_
          rintro e w7 ⟨rfl, hb⟩
          clear a0 a1 a2 a3 a4 a5 a6 a7 a8 a9 HRS
          have hx7 := hxx.to hb
          have hy7 := hyy.to hb
          have hrd7 := hrr.to hhh hb
          have hh7 := Nat.le_trans hhh hb.size
          have hbr7 := hbb.trans (hb.mono hbb.size)
          clear hxx hyy hrr hhh hbb hb
          have a0 : (_ : Option Value) = some (.slice A' n c') := hy7.cell 0
          have af0 := hy7.frozen 0
          have a1 : (_ : Option Value) = some (.int .i64 nx) := hy7.cell 1
          have af1 := hy7.frozen 1
          have a2 : (_ : Option Value) = some (.int .u64 (r 0)) := hy7.cell 2
          have af2 := hy7.frozen 2
          have a3 : (_ : Option Value) = some (.int .u64 (r 1)) := hy7.cell 3
          have af3 := hy7.frozen 3
          have a4 : (_ : Option Value) = some (.int .u64 (r 2)) := hy7.cell 4
          have af4 := hy7.frozen 4
          have a5 : (_ : Option Value) = some (.int .u64 (r 3)) := hy7.cell 5
          have af5 := hy7.frozen 5
          have a6 : (_ : Option Value) = some (.int .u64 (r 4)) := hy7.cell 6
          have af6 := hy7.frozen 6
          have a7 : (_ : Option Value) = some (.int .u64 (r 5)) := hy7.cell 7
          have af7 := hy7.frozen 7
          have a8 : (_ : Option Value) = some (.int .u64 (r 6)) := hy7.cell 8
          have af8 := hy7.frozen 8
          have a9 : (_ : Option Value) = some (.int .u64 (r 7)) := hy7.cell 9
          have af9 := hy7.frozen 9
          go_upto_region 19 with fail
          refine nameW ?_
          intro W7 hW7
          have hyy := hy7.ten (.slice A' n c') (.int .i64 (nx1:Int)) (.int .u64 (r1 0)) (.int .u64 (r1 1)) (.int .u64 (r1 2)) (.int .u64 (r1 3)) (.int .u64 (r1 4)) (.int .u64 (r1 5)) (.int .u64 (r1 6)) (.int .u64 (r1 7))
          have hxx := hx7.far10 (g := w2.heap.size) (by omega) (.slice A' n c') (.int .i64 (nx1:Int)) (.int .u64 (r1 0)) (.int .u64 (r1 1)) (.int .u64 (r1 2)) (.int .u64 (r1 3)) (.int .u64 (r1 4)) (.int .u64 (r1 5)) (.int .u64 (r1 6)) (.int .u64 (r1 7))
          have hrr := hrd7.ten (g := w2.heap.size) (Or.inr (Nat.le_refl _)) (.slice A' n c') (.int .i64 (nx1:Int)) (.int .u64 (r1 0)) (.int .u64 (r1 1)) (.int .u64 (r1 2)) (.int .u64 (r1 3)) (.int .u64 (r1 4)) (.int .u64 (r1 5)) (.int .u64 (r1 6)) (.int .u64 (r1 7))
          have hbb := below_ten' (w0 := w1) (g := w2.heap.size) hbr7 (by omega) (.slice A' n c') (.int .i64 (nx1:Int)) (.int .u64 (r1 0)) (.int .u64 (r1 1)) (.int .u64 (r1 2)) (.int .u64 (r1 3)) (.int .u64 (r1 4)) (.int .u64 (r1 5)) (.int .u64 (r1 6)) (.int .u64 (r1 7))
          have hhh : w2.heap.size ≤ W7.heap.size := by rw [hW7]; simpa using hh7
          rw [← hW7] at hxx hyy hrr hbb
          clear hW7 hx7 hy7 hrd7 hh7 hbr7 a0 a1 a2 a3 a4 a5 a6 a7 a8 a9 af0 af1 af2 af3 af4 af5 af6 af7 af8 af9
          have hSm := fun W => same14_any (A := A) (A' := A') (n := n) (c := c) (c' := c') (nx := nx1) (r := r1) (w := W)
          simp only [tskV, tskC] at hSm
          have HSM := hide hSm
          clear hSm
          have a0 : (_ : Option Value) = some (.slice A n c) := hxx.cell 0
          have a1 : (_ : Option Value) = some (.int .i64 (nx1:Int)) := hxx.cell 1
          have a2 : (_ : Option Value) = some (.int .u64 (r1 0)) := hxx.cell 2
          have a3 : (_ : Option Value) = some (.int .u64 (r1 1)) := hxx.cell 3
          have a4 : (_ : Option Value) = some (.int .u64 (r1 2)) := hxx.cell 4
          have a5 : (_ : Option Value) = some (.int .u64 (r1 3)) := hxx.cell 5
          have a6 : (_ : Option Value) = some (.int .u64 (r1 4)) := hxx.cell 6
          have a7 : (_ : Option Value) = some (.int .u64 (r1 5)) := hxx.cell 7
          have a8 : (_ : Option Value) = some (.int .u64 (r1 6)) := hxx.cell 8
          have a9 : (_ : Option Value) = some (.int .u64 (r1 7)) := hxx.cell 9
          have b0 : (_ : Option Value) = some (.slice A' n c') := hyy.cell 0
          have b1 : (_ : Option Value) = some (.int .i64 (nx1:Int)) := hyy.cell 1
          have b2 : (_ : Option Value) = some (.int .u64 (r1 0)) := hyy.cell 2
          have b3 : (_ : Option Value) = some (.int .u64 (r1 1)) := hyy.cell 3
          have b4 : (_ : Option Value) = some (.int .u64 (r1 2)) := hyy.cell 4
          have b5 : (_ : Option Value) = some (.int .u64 (r1 3)) := hyy.cell 5
          have b6 : (_ : Option Value) = some (.int .u64 (r1 4)) := hyy.cell 6
          have b7 : (_ : Option Value) = some (.int .u64 (r1 5)) := hyy.cell 7
          have b8 : (_ : Option Value) = some (.int .u64 (r1 6)) := hyy.cell 8
          have b9 : (_ : Option Value) = some (.int .u64 (r1 7)) := hyy.cell 9
          go_wp2_with fail
          refine (unhide HSM _).mono ?_
          rintro e w8 ⟨rfl, hb⟩
          clear a0 a1 a2 a3 a4 a5 a6 a7 a8 a9 b0 b1 b2 b3 b4 b5 b6 b7 b8 b9 HSM
          have hx8 := hxx.to hb
          have hy8 := hyy.to hb
          have hrd8 := hrr.to hhh hb
          have hh8 := Nat.le_trans hhh hb.size
          have hbr8 := hbb.trans (hb.mono hbb.size)
          clear hxx hyy hrr hhh hbb hb
          go_upto_region 21 with fail
          cases cb
          · go_upto_region 24 with fail
            refine nameW ?_
            intro W9 hW9
            rw [← hW9] at hx8 hy8 hrd8 hh8 hbr8
            clear hW9
            have hSm := fun W => same14_any (A := A) (A' := A') (n := n) (c := c) (c' := c') (nx := nx1) (r := r1) (w := W)
            simp only [tskV, tskC] at hSm
            have HSM := hide hSm
            clear hSm
            have a0 : (_ : Option Value) = some (.slice A n c) := hx8.cell 0
            have a1 : (_ : Option Value) = some (.int .i64 (nx1:Int)) := hx8.cell 1
            have a2 : (_ : Option Value) = some (.int .u64 (r1 0)) := hx8.cell 2
            have a3 : (_ : Option Value) = some (.int .u64 (r1 1)) := hx8.cell 3
            have a4 : (_ : Option Value) = some (.int .u64 (r1 2)) := hx8.cell 4
            have a5 : (_ : Option Value) = some (.int .u64 (r1 3)) := hx8.cell 5
            have a6 : (_ : Option Value) = some (.int .u64 (r1 4)) := hx8.cell 6
            have a7 : (_ : Option Value) = some (.int .u64 (r1 5)) := hx8.cell 7
            have a8 : (_ : Option Value) = some (.int .u64 (r1 6)) := hx8.cell 8
            have a9 : (_ : Option Value) = some (.int .u64 (r1 7)) := hx8.cell 9
            have b0 : (_ : Option Value) = some (.slice A' n c') := hy8.cell 0
            have b1 : (_ : Option Value) = some (.int .i64 (nx1:Int)) := hy8.cell 1
            have b2 : (_ : Option Value) = some (.int .u64 (r1 0)) := hy8.cell 2
            have b3 : (_ : Option Value) = some (.int .u64 (r1 1)) := hy8.cell 3
            have b4 : (_ : Option Value) = some (.int .u64 (r1 2)) := hy8.cell 4
            have b5 : (_ : Option Value) = some (.int .u64 (r1 3)) := hy8.cell 5
            have b6 : (_ : Option Value) = some (.int .u64 (r1 4)) := hy8.cell 6
            have b7 : (_ : Option Value) = some (.int .u64 (r1 5)) := hy8.cell 7
            have b8 : (_ : Option Value) = some (.int .u64 (r1 6)) := hy8.cell 8
            have b9 : (_ : Option Value) = some (.int .u64 (r1 7)) := hy8.cell 9
            go_wp2_with fail
            refine (unhide HSM _).mono ?_
            rintro e w12 ⟨rfl, hb⟩
            clear a0 a1 a2 a3 a4 a5 a6 a7 a8 a9 b0 b1 b2 b3 b4 b5 b6 b7 b8 b9 HSM
            have hP : PlayI w1 w1.heap.size w2.heap.size W1.heap.size w2.heap.size A A' n c c' l nx1 r1 w12 := ⟨(unhide HHU), hx8.to hb, hy8.to hb, hrd8.to hh8 hb, Nat.le_trans hh8 hb.size, hbr8.trans (hb.mono hbr8.size)⟩
            have HP := hide hP
            clear hP hx8 hy8 hrd8 hh8 hbr8 hb
            go_wp2
            go_roundw
            case rel => exact ⟨k + 1, nx1, r1, by omega, by go_num, unhide HP⟩
            case measure => simp [intOf]; omega
          · obtain ⟨e1, e2⟩ := (unhide HC1) rfl
            subst e1 e2
            obtain ⟨b2, o2, x, rfl, hbl2, hxk, g0, g1, g2⟩ := (unhide HR2).res hlt
            have HG := hide (fun (W : World) (hb : Below w1.heap.size w1 W) => (⟨(hb.cell (p := ⟨b2, o2 + k * 3, none⟩) hbl2).trans g0, (hb.cell (p := ⟨b2, o2 + k * 3 + 1, none⟩) hbl2).trans g1, (hb.cell (p := ⟨b2, o2 + k * 3 + 2, none⟩) hbl2).trans g2⟩ : W.cell? ⟨b2, o2 + k * 3, none⟩ = some (.int .i64 x.e) ∧ W.cell? ⟨b2, o2 + k * 3 + 1, none⟩ = some (.int .u64 x.v) ∧ W.cell? ⟨b2, o2 + k * 3 + 2, none⟩ = some (.int .u32 x.h)))
            clear g0 g1 g2
            have hxo := hok x (mem_of_get hxk)
            have HB := HCB.out
            go_upto_region 22 with fail
            refine wp_still_tail_drew 5 (by kernel_rfl) (by kernel_rfl) ?_
            obtain ⟨W9, hW9⟩ : ∃ W9, w8.drew = W9 := ⟨_, rfl⟩
            rw [hW9]
            have hbd : Below w8.heap.size w8 W9 := by rw [← hW9]; exact (Below.refl _ _).drew
            have hx9 := hx8.to hbd
            have hy9 := hy8.to hbd
            have hrd9 := hrd8.to hh8 hbd
            have hh9 := Nat.le_trans hh8 hbd.size
            have hbr9 := hbr8.trans (hbd.mono hbr8.size)
            obtain ⟨g0, g1, g2⟩ := (unhide HG) _ hbr9
            clear hx8 hy8 hrd8 hh8 hbr8 hbd hW9
            have hT := fun W h => takes_any (A := A) (n := n) (c := c) (nx := nx1) (r := r1) (w := W) (l := l) hp h HB x.e x.v x.h hxo.2 (by omega)
            have hRT := fun W h => rtakes_any (A := A') (n := n) (c := c') (nx := nx1) (r := r1) (w := W) (l := l) hp h (unhide HHU) HB x.e x.v x.h hxo.2 (by omega)
            have hu3 := U64.tR (l := l) (nx := nx1) (unhide HHU) hxo
            obtain ⟨nx2, hnx2⟩ : ∃ q, tN l nx1 = q := ⟨_, rfl⟩
            obtain ⟨r2, hr2⟩ : ∃ q, tR l nx1 r1 x.e x.v x.h = q := ⟨_, rfl⟩
            rw [hnx2, hr2] at hT hRT
            rw [hr2] at hu3
            have hw3 : IntKind.i64.wrap x.h = x.h := IntWalk.i64_in _ (by have := hxo.2; omega)
            simp only [tskV, tskC, resV, rresV] at hT hRT
            have HT := hide hT
            have HRT := hide hRT
            have HU3 := hide hu3
            clear hT hRT hu3 hnx2 hr2 hxk
            have jn : (k : Int) < n2 := by omega
            have jn1 : ((k : Int)).toNat = k := by omega
            have a0 : (_ : Option Value) = some (.slice A n c) := hx9.cell 0
            have a1 : (_ : Option Value) = some (.int .i64 nx1) := hx9.cell 1
            have a2 : (_ : Option Value) = some (.int .u64 (r1 0)) := hx9.cell 2
            have a3 : (_ : Option Value) = some (.int .u64 (r1 1)) := hx9.cell 3
            have a4 : (_ : Option Value) = some (.int .u64 (r1 2)) := hx9.cell 4
            have a5 : (_ : Option Value) = some (.int .u64 (r1 3)) := hx9.cell 5
            have a6 : (_ : Option Value) = some (.int .u64 (r1 4)) := hx9.cell 6
            have a7 : (_ : Option Value) = some (.int .u64 (r1 5)) := hx9.cell 7
            have a8 : (_ : Option Value) = some (.int .u64 (r1 6)) := hx9.cell 8
            have a9 : (_ : Option Value) = some (.int .u64 (r1 7)) := hx9.cell 9
            simp only [List.take_succ_cons, List.take_zero, List.drop_succ_cons, List.drop_zero]
            repeat still_step
            refine wpStill_nil ?_
            go_wp2_with fail
            refine (unhide HT _ ((unhide HRD) _ hbr9)).mono ?_
            rintro e w10 ⟨rfl, hb⟩
            clear a0 a1 a2 a3 a4 a5 a6 a7 a8 a9 HT g0 g1 g2
            have hx11 := hx9.to hb
            have hy11 := hy9.to hb
            have hrd11 := hrd9.to hh9 hb
            have hh11 := Nat.le_trans hh9 hb.size
            have hbr11 := hbr9.trans (hb.mono hbr9.size)
            clear hx9 hy9 hrd9 hh9 hbr9 hb
            have a0 : (_ : Option Value) = some (.slice A n c) := hx11.cell 0
            have af0 := hx11.frozen 0
            have a1 : (_ : Option Value) = some (.int .i64 nx1) := hx11.cell 1
            have af1 := hx11.frozen 1
            have a2 : (_ : Option Value) = some (.int .u64 (r1 0)) := hx11.cell 2
            have af2 := hx11.frozen 2
            have a3 : (_ : Option Value) = some (.int .u64 (r1 1)) := hx11.cell 3
            have af3 := hx11.frozen 3
            have a4 : (_ : Option Value) = some (.int .u64 (r1 2)) := hx11.cell 4
            have af4 := hx11.frozen 4
            have a5 : (_ : Option Value) = some (.int .u64 (r1 3)) := hx11.cell 5
            have af5 := hx11.frozen 5
            have a6 : (_ : Option Value) = some (.int .u64 (r1 4)) := hx11.cell 6
            have af6 := hx11.frozen 6
            have a7 : (_ : Option Value) = some (.int .u64 (r1 5)) := hx11.cell 7
            have af7 := hx11.frozen 7
            have a8 : (_ : Option Value) = some (.int .u64 (r1 6)) := hx11.cell 8
            have af8 := hx11.frozen 8
            have a9 : (_ : Option Value) = some (.int .u64 (r1 7)) := hx11.cell 9
            have af9 := hx11.frozen 9
            go_upto_region 23 with fail
            refine nameW ?_
            intro W11 hW11
            have hxx := hx11.ten (.slice A n c) (.int .i64 (nx2:Int)) (.int .u64 (r2 0)) (.int .u64 (r2 1)) (.int .u64 (r2 2)) (.int .u64 (r2 3)) (.int .u64 (r2 4)) (.int .u64 (r2 5)) (.int .u64 (r2 6)) (.int .u64 (r2 7))
            have hyy := hy11.far10 (g := w1.heap.size) (by omega) (.slice A n c) (.int .i64 (nx2:Int)) (.int .u64 (r2 0)) (.int .u64 (r2 1)) (.int .u64 (r2 2)) (.int .u64 (r2 3)) (.int .u64 (r2 4)) (.int .u64 (r2 5)) (.int .u64 (r2 6)) (.int .u64 (r2 7))
            have hrr := hrd11.ten (g := w1.heap.size) (Or.inl hlo) (.slice A n c) (.int .i64 (nx2:Int)) (.int .u64 (r2 0)) (.int .u64 (r2 1)) (.int .u64 (r2 2)) (.int .u64 (r2 3)) (.int .u64 (r2 4)) (.int .u64 (r2 5)) (.int .u64 (r2 6)) (.int .u64 (r2 7))
            have hbb := below_ten (w0 := w1) (g := w1.heap.size) hbr11 (Nat.le_refl _) (.slice A n c) (.int .i64 (nx2:Int)) (.int .u64 (r2 0)) (.int .u64 (r2 1)) (.int .u64 (r2 2)) (.int .u64 (r2 3)) (.int .u64 (r2 4)) (.int .u64 (r2 5)) (.int .u64 (r2 6)) (.int .u64 (r2 7))
            have hhh : w2.heap.size ≤ W11.heap.size := by rw [hW11]; simpa using hh11
            rw [← hW11] at hxx hyy hrr hbb
            clear hW11 hx11 hy11 hrd11 hh11 hbr11 a0 a1 a2 a3 a4 a5 a6 a7 a8 a9 af0 af1 af2 af3 af4 af5 af6 af7 af8 af9
            refine wp_still_tail_drew 18 (by kernel_rfl) (by kernel_rfl) ?_
            obtain ⟨W12, hW12⟩ : ∃ W12, W11.drew = W12 := ⟨_, rfl⟩
            rw [hW12]
            have hbd : Below W11.heap.size W11 W12 := by rw [← hW12]; exact (Below.refl _ _).drew
            have hx13 := hxx.to hbd
            have hy13 := hyy.to hbd
            have hrd13 := hrr.to hhh hbd
            have hh13 := Nat.le_trans hhh hbd.size
            have hbr13 := hbb.trans (hbd.mono hbb.size)
            obtain ⟨g0, g1, g2⟩ := (unhide HG) _ hbr13
            clear hxx hyy hrr hhh hbb hbd hW12
            have a0 : (_ : Option Value) = some (.slice A' n c') := hy13.cell 0
            have a1 : (_ : Option Value) = some (.int .i64 nx1) := hy13.cell 1
            have a2 : (_ : Option Value) = some (.int .u64 (r1 0)) := hy13.cell 2
            have a3 : (_ : Option Value) = some (.int .u64 (r1 1)) := hy13.cell 3
            have a4 : (_ : Option Value) = some (.int .u64 (r1 2)) := hy13.cell 4
            have a5 : (_ : Option Value) = some (.int .u64 (r1 3)) := hy13.cell 5
            have a6 : (_ : Option Value) = some (.int .u64 (r1 4)) := hy13.cell 6
            have a7 : (_ : Option Value) = some (.int .u64 (r1 5)) := hy13.cell 7
            have a8 : (_ : Option Value) = some (.int .u64 (r1 6)) := hy13.cell 8
            have a9 : (_ : Option Value) = some (.int .u64 (r1 7)) := hy13.cell 9
            simp only [List.take_succ_cons, List.take_zero, List.drop_succ_cons, List.drop_zero]
            repeat still_step
            refine wpStill_nil ?_
            go_wp2_with fail
            refine (unhide HRT _ (hrd13.rd hh13)).mono ?_
            rintro e w14 ⟨rfl, hb⟩
            clear a0 a1 a2 a3 a4 a5 a6 a7 a8 a9 HRT g0 g1 g2
            have hxx := hx13
            have hyy := hy13
            have hrr := hrd13
            have hhh := hh13
            have hbb := hbr13
            clear hx13 hy13 hrd13 hh13 hbr13
            have hx15 := hxx.to hb
            have hy15 := hyy.to hb
            have hrd15 := hrr.to hhh hb
            have hh15 := Nat.le_trans hhh hb.size
            have hbr15 := hbb.trans (hb.mono hbb.size)
            clear hxx hyy hrr hhh hbb hb
            have a0 : (_ : Option Value) = some (.slice A' n c') := hy15.cell 0
            have af0 := hy15.frozen 0
            have a1 : (_ : Option Value) = some (.int .i64 nx1) := hy15.cell 1
            have af1 := hy15.frozen 1
            have a2 : (_ : Option Value) = some (.int .u64 (r1 0)) := hy15.cell 2
            have af2 := hy15.frozen 2
            have a3 : (_ : Option Value) = some (.int .u64 (r1 1)) := hy15.cell 3
            have af3 := hy15.frozen 3
            have a4 : (_ : Option Value) = some (.int .u64 (r1 2)) := hy15.cell 4
            have af4 := hy15.frozen 4
            have a5 : (_ : Option Value) = some (.int .u64 (r1 3)) := hy15.cell 5
            have af5 := hy15.frozen 5
            have a6 : (_ : Option Value) = some (.int .u64 (r1 4)) := hy15.cell 6
            have af6 := hy15.frozen 6
            have a7 : (_ : Option Value) = some (.int .u64 (r1 5)) := hy15.cell 7
            have af7 := hy15.frozen 7
            have a8 : (_ : Option Value) = some (.int .u64 (r1 6)) := hy15.cell 8
            have af8 := hy15.frozen 8
            have a9 : (_ : Option Value) = some (.int .u64 (r1 7)) := hy15.cell 9
            have af9 := hy15.frozen 9
            go_upto_region 24 with fail
            refine nameW ?_
            intro W15 hW15
            have hyy := hy15.ten (.slice A' n c') (.int .i64 (nx2:Int)) (.int .u64 (r2 0)) (.int .u64 (r2 1)) (.int .u64 (r2 2)) (.int .u64 (r2 3)) (.int .u64 (r2 4)) (.int .u64 (r2 5)) (.int .u64 (r2 6)) (.int .u64 (r2 7))
            have hxx := hx15.far10 (g := w2.heap.size) (by omega) (.slice A' n c') (.int .i64 (nx2:Int)) (.int .u64 (r2 0)) (.int .u64 (r2 1)) (.int .u64 (r2 2)) (.int .u64 (r2 3)) (.int .u64 (r2 4)) (.int .u64 (r2 5)) (.int .u64 (r2 6)) (.int .u64 (r2 7))
            have hrr := hrd15.ten (g := w2.heap.size) (Or.inr (Nat.le_refl _)) (.slice A' n c') (.int .i64 (nx2:Int)) (.int .u64 (r2 0)) (.int .u64 (r2 1)) (.int .u64 (r2 2)) (.int .u64 (r2 3)) (.int .u64 (r2 4)) (.int .u64 (r2 5)) (.int .u64 (r2 6)) (.int .u64 (r2 7))
            have hbb := below_ten' (w0 := w1) (g := w2.heap.size) hbr15 (by omega) (.slice A' n c') (.int .i64 (nx2:Int)) (.int .u64 (r2 0)) (.int .u64 (r2 1)) (.int .u64 (r2 2)) (.int .u64 (r2 3)) (.int .u64 (r2 4)) (.int .u64 (r2 5)) (.int .u64 (r2 6)) (.int .u64 (r2 7))
            have hhh : w2.heap.size ≤ W15.heap.size := by rw [hW15]; simpa using hh15
            rw [← hW15] at hxx hyy hrr hbb
            clear hW15 hx15 hy15 hrd15 hh15 hbr15 a0 a1 a2 a3 a4 a5 a6 a7 a8 a9 af0 af1 af2 af3 af4 af5 af6 af7 af8 af9
            have hx8 := hxx
            have hy8 := hyy
            have hrd8 := hrr
            have hh8 := hhh
            have hbr8 := hbb
            clear hxx hyy hrr hhh hbb
            have hSm := fun W => same14_any (A := A) (A' := A') (n := n) (c := c) (c' := c') (nx := nx2) (r := r2) (w := W)
            simp only [tskV, tskC] at hSm
            have HSM := hide hSm
            clear hSm
            have a0 : (_ : Option Value) = some (.slice A n c) := hx8.cell 0
            have a1 : (_ : Option Value) = some (.int .i64 (nx2:Int)) := hx8.cell 1
            have a2 : (_ : Option Value) = some (.int .u64 (r2 0)) := hx8.cell 2
            have a3 : (_ : Option Value) = some (.int .u64 (r2 1)) := hx8.cell 3
            have a4 : (_ : Option Value) = some (.int .u64 (r2 2)) := hx8.cell 4
            have a5 : (_ : Option Value) = some (.int .u64 (r2 3)) := hx8.cell 5
            have a6 : (_ : Option Value) = some (.int .u64 (r2 4)) := hx8.cell 6
            have a7 : (_ : Option Value) = some (.int .u64 (r2 5)) := hx8.cell 7
            have a8 : (_ : Option Value) = some (.int .u64 (r2 6)) := hx8.cell 8
            have a9 : (_ : Option Value) = some (.int .u64 (r2 7)) := hx8.cell 9
            have b0 : (_ : Option Value) = some (.slice A' n c') := hy8.cell 0
            have b1 : (_ : Option Value) = some (.int .i64 (nx2:Int)) := hy8.cell 1
            have b2 : (_ : Option Value) = some (.int .u64 (r2 0)) := hy8.cell 2
            have b3 : (_ : Option Value) = some (.int .u64 (r2 1)) := hy8.cell 3
            have b4 : (_ : Option Value) = some (.int .u64 (r2 2)) := hy8.cell 4
            have b5 : (_ : Option Value) = some (.int .u64 (r2 3)) := hy8.cell 5
            have b6 : (_ : Option Value) = some (.int .u64 (r2 4)) := hy8.cell 6
            have b7 : (_ : Option Value) = some (.int .u64 (r2 5)) := hy8.cell 7
            have b8 : (_ : Option Value) = some (.int .u64 (r2 6)) := hy8.cell 8
            have b9 : (_ : Option Value) = some (.int .u64 (r2 7)) := hy8.cell 9
            go_wp2_with fail
            refine (unhide HSM _).mono ?_
            rintro e w12 ⟨rfl, hb⟩
            clear a0 a1 a2 a3 a4 a5 a6 a7 a8 a9 b0 b1 b2 b3 b4 b5 b6 b7 b8 b9 HSM
            have hP : PlayI w1 w1.heap.size w2.heap.size W1.heap.size w2.heap.size A A' n c c' l nx2 r2 w12 := ⟨(unhide HU3), hx8.to hb, hy8.to hb, hrd8.to hh8 hb, Nat.le_trans hh8 hb.size, hbr8.trans (hb.mono hbr8.size)⟩
            have HP := hide hP
            clear hP hx8 hy8 hrd8 hh8 hbr8 hb
            go_wp2
            go_roundw
            case rel => exact ⟨k + 1, nx2, r2, by omega, by go_num, unhide HP⟩
            case measure => simp [intOf]; omega
        · go_wp2_with fail
          refine (wakes14_any wr).mono ?_
          rintro e w9 ⟨rfl, hb9⟩
          go_wp2
          go_ret
          exact ⟨rfl, bt (bt hb1 hI.b) hb9⟩
    · replace hd : decOk s = false := by simpa using hd
      have h1 := Lib.hid (decE_no hd).1
      have h2 := Lib.hid (decE_no hd).2
      have HD := Lib.hid hd
      clear hd
      go_enter Try.func3, Try.ntmps3
      go_wp2_with fail
      refine (of14_any s w (by omega)).mono ?_
      rintro e w1 ⟨A, c, rfl, hr1, hb1⟩
      have HS1 := hide (rdec_any s)
      rw [h1.out, h2.out, HD.out] at *
      rw [show ([] : List Ins).length = 0 from rfl]
      simp only [tskV, tskC]
      clear hr hr1
      go_upto_region 4 with fail
      refine nameW ?_
      intro W1 hW1
      have hb2 : Below w1.heap.size w1 W1 := by rw [hW1]; exact (Below.refl _ _).alloc (Nat.le_refl _) _
      have hx1 : Bx W1 w1.heap.size (tskC A 0 c 0 rg0) := by rw [hW1]; exact Bx.new _ _ _ _ rfl
      clear hW1
      go_wp2_with fail
      refine ((unhide HS1) _ (by omega)).mono ?_
      rintro e w2 ⟨A', c', rfl, hown, hb3⟩
      have hx2 := hx1.to hb3
      have hb4 := bt (bt hb1 hb2) hb3
      have a0 : (_ : Option Value) = some (.slice A 0 c) := hx2.cell 0
      clear hx1 hx2 hown hb1 hb2 hb3
      go_wp2_with fail
      refine (wakes14_any _).mono ?_
      rintro e w9 ⟨rfl, hb9⟩
      go_wp2
      go_ret
      exact ⟨rfl, bt hb4 hb9⟩
  · go_enter Try.func3, Try.ntmps3
    go_wp2_with fail
    all_goals
      refine (wakes14_any w).mono ?_
      rintro e w1 ⟨rfl, hb1⟩
      go_wp2
      go_ret
      exact ⟨rfl, hb1⟩
end Go.Proofs.Ytmiagijgecgfoaa
