/-
  The walk of bailiwicklaw14.TaskGoes.
-/
import Derived.Test.YtmiagijgecgfoaaTPlays
namespace Go.Proofs.Ytmiagijgecgfoaa
open Go.RowKit

/-- how many registers are unlike -/
def cnt (r r' : Nat → Int) : Nat → Nat
  | 0 => 0
  | j + 1 => cnt r r' j + if r' j = r j then 0 else 1
theorem cnt_yes {r r' : Nat → Int} {j : Nat} (h : r' j = r j) : cnt r r' (j + 1) = cnt r r' j := by
  show cnt r r' j + (if r' j = r j then 0 else 1) = _
  rw [if_pos h, Nat.add_zero]
theorem cnt_no {r r' : Nat → Int} {j : Nat} (h : ¬ r' j = r j) : cnt r r' (j + 1) = cnt r r' j + 1 := by
  show cnt r r' j + (if r' j = r j then 0 else 1) = _
  rw [if_neg h]
theorem cnt_le (r r' : Nat → Int) : ∀ j, cnt r r' j ≤ j
  | 0 => Nat.le_refl _
  | j + 1 => by
    have := cnt_le r r' j
    show cnt r r' j + (if r' j = r j then 0 else 1) ≤ _
    split <;> omega
theorem cnt_same (r : Nat → Int) : ∀ j, cnt r r j = 0
  | 0 => rfl
  | j + 1 => by rw [cnt_yes rfl, cnt_same r j]
theorem cnt_upd0 (r r' : Nat → Int) (a : Nat) (x : Int) : ∀ j, j ≤ a → cnt r (upd r' a x) j = cnt r r' j
  | 0, _ => rfl
  | j + 1, h => by
    show cnt r (upd r' a x) j + (if upd r' a x j = r j then 0 else 1) = cnt r r' j + (if r' j = r j then 0 else 1)
    rw [cnt_upd0 r r' a x j (by omega)]
    have : upd r' a x j = r' j := if_neg (by omega)
    rw [this]
theorem cnt_upd (r r' : Nat → Int) (a : Nat) (x : Int) : ∀ j, cnt r (upd r' a x) j ≤ cnt r r' j + 1
  | 0 => Nat.zero_le _
  | j + 1 => by
    by_cases h : j = a
    · subst h
      have h0 := cnt_upd0 r r' j x j (Nat.le_refl _)
      show cnt r (upd r' j x) j + (if upd r' j x j = r j then 0 else 1) ≤ cnt r r' j + (if r' j = r j then 0 else 1) + 1
      rw [h0]
      split <;> omega
    · have := cnt_upd r r' a x j
      show cnt r (upd r' a x) j + (if upd r' a x j = r j then 0 else 1) ≤ cnt r r' j + (if r' j = r j then 0 else 1) + 1
      have e : upd r' a x j = r' j := if_neg h
      rw [e]
      omega
theorem cnt_sR {l : List Ins} {nx : Nat} (r : Nat → Int) (j : Nat) : cnt r (sR l nx r) j ≤ 1 := by
  have h0 := cnt_same r j
  unfold sR
  split
  · omega
  · rename_i x _
    have hu := fun a y => cnt_upd r r a y j
    split
    · have := hu x.a.toNat x.n; omega
    · split
      · have := hu x.a.toNat (IntKind.u64.wrap (r x.b.toNat + r x.c.toNat)); omega
      · split
        · have := hu x.a.toNat (IntKind.u64.wrap (r x.b.toNat - r x.c.toNat)); omega
        · split
          · have := hu x.a.toNat (shlV (r x.b.toNat) x.n); omega
          · omega
theorem cnt_tR {l : List Ins} {nx : Nat} (r : Nat → Int) (e v h : Int) (j : Nat) : cnt r (tR l nx r e v h) j ≤ 3 := by
  have h0 := cnt_same r j
  unfold tR
  split
  · omega
  · rename_i x _
    have h1 := cnt_upd r r x.a.toNat v j
    have h2 := cnt_upd r (upd r x.a.toNat v) 4 h j
    have h3 := cnt_upd r (upd (upd r x.a.toNat v) 4 h) 7 (IntKind.u64.wrap e) j
    omega
theorem sN_le {l : List Ins} (hp : Prog l) {nx : Nat} (r : Nat → Int) (h : nx ≤ l.length) : sN l nx r ≤ l.length := by
  unfold sN
  cases hx : l[nx]? with
  | none => exact h
  | some x =>
    have hlt := (List.getElem?_eq_some_iff.1 hx).1
    obtain ⟨xo, ka, kb, kc, kn, rfl, ha, hb, hc, hk, ho, hj⟩ := hp.get hx
    simp only [Int.toNat_natCast]
    split
    · exact h
    · split
      · have := hj (by omega); omega
      · omega
theorem tN_le {l : List Ins} {nx : Nat} (h : nx ≤ l.length) : tN l nx ≤ l.length := by
  unfold tN
  split
  · exact h
  · rename_i x hx
    have := (List.getElem?_eq_some_iff.1 hx).1
    omega
theorem tN_in {l : List Ins} {nx : Nat} (h : nx < l.length) : tN l nx = nx + 1 := by
  unfold tN
  rw [List.getElem?_eq_getElem h]
theorem tR_in {l : List Ins} {nx : Nat} (h : nx < l.length) (r : Nat → Int) (e v hh : Int) : tR l nx r e v hh 7 = IntKind.u64.wrap e := by
  unfold tR
  rw [List.getElem?_eq_getElem h]
  rfl

/-- what holds between two rounds -/
structure GoesI (w1 : World) (gT : Nat) (A : Option Addr) (n c : Nat) (nx : Nat) (r : Nat → Int) (wr : World) : Prop where
  le : nx ≤ n
  t : Bx wr gT (tskC A n c nx r)
  b : Below gT w1 wr
/-- what holds while registers are counted -/
structure CntI (w1 : World) (gT gU : Nat) (A : Option Addr) (n c : Nat) (nx nx2 : Nat) (r r2 : Nat → Int) (wr : World) : Prop where
  t : Bx wr gT (tskC A n c nx r)
  u : Bx wr gU (tskC A n c nx2 r2)
  b : Below gT w1 wr


set_option maxRecDepth 100000 in
set_option maxHeartbeats 4000000 in
theorem goes_any (s : List UInt8) (A2 : Option Addr) (n2 c2 : Nat) (L : List Res) (w : World) (hr : Rd w w.heap.size 3 A2 n2 (L.flatMap Res.cs)) (hok : ∀ x ∈ L, x.ok) :
    Calls Try.prog 4 #[.string (S s), .slice A2 n2 c2] w fun e w' => e = .returned (.bool true) ∧ Below w.heap.size w w' := by
  by_cases hg : s.length ≤ 1000 ∧ n2 ≤ 200
  · obtain ⟨hs, hn2⟩ := hg
    have hd1 : decide (1000 < (s.length : Int)) = false := decide_eq_false (by omega)
    have hd2 : decide (200 < (n2 : Int)) = false := decide_eq_false (by omega)
    by_cases hd : decOk s = true
    · have hp := decL_prog hd
      have h1 := Lib.hid (decE_ok hd).1
      clear hd
      go_enter Try.func4, Try.ntmps4
      go_wp2_with fail
      refine (of14_any s w (by omega)).mono ?_
      rintro e w1 ⟨A, c, rfl, hr1, hb1⟩
      have hle := hp.le
      rw [h1.out] at *
      simp only [tskV, tskC]
      generalize hl : decL s = l at *
      generalize hn : l.length = n at *
      have HN := Lib.hid hn
      have hr2 := (hr.to hb1)
      clear hl hn hr
      have HR1 := hide hr1
      have HR2 := hide hr2
      clear hr1 hr2
      go_upto_region 4 with fail
      refine nameW ?_
      intro W1 hW1
      have hb2 : Below w1.heap.size w1 W1 := by rw [hW1]; exact (Below.refl _ _).alloc (Nat.le_refl _) _
      have hx1 : Bx W1 w1.heap.size (tskC A n c 0 rg0) := by rw [hW1]; exact Bx.new _ _ _ _ rfl
      have a0 : (_ : Option Value) = some (.slice A n c) := hx1.cell 0
      have HI := hide (⟨Nat.zero_le _, hx1, hb2⟩ : GoesI w1 w1.heap.size A n c 0 rg0 W1)
      clear hW1 hx1 hb2
      go_wp2
      go_loopw [8] (fun i wr => ∃ (k nx : Nat) (r : Nat → Int), k ≤ n2 ∧ i = .int .i64 k ∧ GoesI w1 w1.heap.size A n c nx r wr) (fun i _ => n2 - (intOf i).toNat)
      case atStart => exact ⟨0, 0, rg0, Nat.zero_le _, rfl, unhide HI⟩
      case round =>
        clear HI
        obtain ⟨k, nx, r, hk, rfl, hI⟩ := hrel
        by_cases hlt : k < n2
        · obtain ⟨hnl, hx, hbr⟩ := hI
          have hjd : decide (k < n2) = true := decide_eq_true hlt
          have HRD := hide (fun (W : World) (hb : Below w1.heap.size w1 W) => ((unhide HR1).below hb).mono hb.size)
          obtain ⟨⟨p0, p1, p2, p3, p4, p5⟩, hq⟩ : ∃ q, wP l nx r = q := ⟨_, rfl⟩
          obtain ⟨cb, hcb⟩ : ∃ cb, wB l nx = cb := ⟨_, rfl⟩
          have hW := wants_any (A := A) (n := n) (c := c) (nx := nx) (r := r) (w := wr) (l := l) hp ((unhide HRD) _ hbr)
          rw [hq, hcb] at hW
          simp only [tskV, tskC, callP, callV] at hW
          have HW := hide hW
          have HCB := Lib.hid hcb
          clear hW hq hcb
          have a0 : (_ : Option Value) = some (.slice A n c) := hx.cell 0
          have a1 : (_ : Option Value) = some (.int .i64 nx) := hx.cell 1
          have a2 : (_ : Option Value) = some (.int .u64 (r 0)) := hx.cell 2
          have a3 : (_ : Option Value) = some (.int .u64 (r 1)) := hx.cell 3
          have a4 : (_ : Option Value) = some (.int .u64 (r 2)) := hx.cell 4
          have a5 : (_ : Option Value) = some (.int .u64 (r 3)) := hx.cell 5
          have a6 : (_ : Option Value) = some (.int .u64 (r 4)) := hx.cell 6
          have a7 : (_ : Option Value) = some (.int .u64 (r 5)) := hx.cell 7
          have a8 : (_ : Option Value) = some (.int .u64 (r 6)) := hx.cell 8
          have a9 : (_ : Option Value) = some (.int .u64 (r 7)) := hx.cell 9
          go_wp2_with fail
          refine (unhide HW).mono ?_
          rintro e w3 ⟨rfl, hb⟩
          clear a0 a1 a2 a3 a4 a5 a6 a7 a8 a9 HW
          go_upto_region 11 with fail
          refine nameW ?_
          intro W3 hW3
          have hby : Below w3.heap.size w3 W3 := by rw [hW3]; exact (Below.refl _ _).alloc (Nat.le_refl _) _
          have hbz := bt hb hby
          have hx3 := hx.to hbz
          have hb3 := hbr.trans (hbz.mono hbr.size)
          clear hW3 hb hby hbz hx hbr
          have hS := step_any (A := A) (n := n) (c := c) (nx := nx) (r := r) (w := W3) (l := l) hp ((unhide HRD) _ hb3) (by omega)
          have hcn := cnt_sR (l := l) (nx := nx) r 8
          have hsn := sN_le hp (nx := nx) r (by rw [HN.out]; exact hnl)
          rw [HN.out] at hsn
          obtain ⟨nx1, hnx1⟩ : ∃ q, sN l nx r = q := ⟨_, rfl⟩
          obtain ⟨r1, hr1⟩ : ∃ q, sR l nx r = q := ⟨_, rfl⟩
          have HC1 := hide (fun h : cb = true => (s_call r (HCB.out.trans h)))
          rw [hnx1, hr1] at hS HC1
          rw [hnx1] at hsn
          rw [hr1] at hcn
          simp only [tskV, tskC] at hS
          have HS := hide hS
          clear hS hnx1 hr1
          have a0 : (_ : Option Value) = some (.slice A n c) := hx3.cell 0
          have a1 : (_ : Option Value) = some (.int .i64 nx) := hx3.cell 1
          have a2 : (_ : Option Value) = some (.int .u64 (r 0)) := hx3.cell 2
          have a3 : (_ : Option Value) = some (.int .u64 (r 1)) := hx3.cell 3
          have a4 : (_ : Option Value) = some (.int .u64 (r 2)) := hx3.cell 4
          have a5 : (_ : Option Value) = some (.int .u64 (r 3)) := hx3.cell 5
          have a6 : (_ : Option Value) = some (.int .u64 (r 4)) := hx3.cell 6
          have a7 : (_ : Option Value) = some (.int .u64 (r 5)) := hx3.cell 7
          have a8 : (_ : Option Value) = some (.int .u64 (r 6)) := hx3.cell 8
          have a9 : (_ : Option Value) = some (.int .u64 (r 7)) := hx3.cell 9
          go_wp2_with fail
          refine (unhide HS).mono ?_
          rintro e w4 ⟨rfl, hb⟩
          clear a0 a1 a2 a3 a4 a5 a6 a7 a8 a9 HS
          go_upto_region 12 with fail
          refine nameW ?_
          intro W4 hW4
          have hby : Below w4.heap.size w4 W4 := by rw [hW4]; exact (Below.refl _ _).alloc (Nat.le_refl _) _
          have hyy : Bx W4 w4.heap.size (tskC A n c nx1 r1) := by rw [hW4]; exact Bx.new _ _ _ _ rfl
          have hbz := bt hb hby
          have hxx := hx3.to hbz
          have hbb := hb3.trans (hbz.mono hb3.size)
          have hl4 : w1.heap.size < w4.heap.size := (hx3.to hb).lt
          clear hW4 hb hby hbz hx3 hb3
          cases cb
          · go_upto_region 16 with fail
            have HC := hide (⟨hxx, hyy, hbb⟩ : CntI w1 w1.heap.size w4.heap.size A n c nx nx1 r r1 W4)
            clear hxx hyy hbb
            go_wp2
            go_loopw [12, 13] (fun ch kk wr => ∃ j, j ≤ 8 ∧ kk = .int .i64 (j : Nat) ∧ ch = .int .i64 (cnt r r1 j) ∧ CntI w1 w1.heap.size w4.heap.size A n c nx nx1 r r1 wr) (fun _ kk _ => 8 - (intOf kk).toNat)
            case atStart => exact ⟨0, Nat.zero_le _, rfl, rfl, unhide HC⟩
            case round =>
              clear HC
              obtain ⟨j, hj, rfl, rfl, hI⟩ := hrel
              have hcl := cnt_le r r1 j
              by_cases hlj : j < 8
              · have k1 := (hI.t.cell (2 + j)).trans (tsk_get A n c nx r j hlj)
                have k2 := (hI.u.cell (2 + j)).trans (tsk_get A n c nx1 r1 j hlj)
                have jb : (j : Int) < 8 := by omega
                have jb1 : ((j : Int)).toNat = j := by omega
                by_cases he : r1 j = r j
                · have hcc := Lib.hid (cnt_yes he)
                  rw [he] at k2
                  clear he
                  go_wp2
                  go_quiet (fail)
                  go_wp2
                  go_roundw
                  case rel => exact ⟨j + 1, by omega, by go_num, by rw [hcc.out], hI.t.to (below_drewN (Below.refl _ _) _), hI.u.to (below_drewN (Below.refl _ _) _), hI.b.trans ((below_drewN (Below.refl _ _) _ : Below wr.heap.size wr _).mono hI.b.size)⟩
                  case measure => simp [intOf]; omega
                · have hcc := Lib.hid (cnt_no he)
                  have he1 : (r1 j == r j) = false := by simpa using he
                  clear he
                  go_wp2
                  go_quiet (fail)
                  go_wp2
                  go_roundw
                  case rel => exact ⟨j + 1, by omega, by go_num, by rw [hcc.out]; go_num, hI.t.to (below_drewN (Below.refl _ _) _), hI.u.to (below_drewN (Below.refl _ _) _), hI.b.trans ((below_drewN (Below.refl _ _) _ : Below wr.heap.size wr _).mono hI.b.size)⟩
                  case measure => simp [intOf]; omega
              · have e8 : j = 8 := by omega
                subst e8
                obtain ⟨hx9, hy9, hbr9⟩ := hI
                have hz : decide (1 < (cnt r r1 8 : Int)) = false := decide_eq_false (by omega)
                have hz3 : decide (3 < (cnt r r1 8 : Int)) = false := decide_eq_false (by omega)
                have hzn : decide (n < nx1) = false := decide_eq_false (by omega)
                have a0 : (_ : Option Value) = some (.slice A n c) := hx9.cell 0
                have af0 := hx9.frozen 0
                have a1 : (_ : Option Value) = some (.int .i64 (nx:Int)) := hx9.cell 1
                have af1 := hx9.frozen 1
                have a2 : (_ : Option Value) = some (.int .u64 (r 0)) := hx9.cell 2
                have af2 := hx9.frozen 2
                have a3 : (_ : Option Value) = some (.int .u64 (r 1)) := hx9.cell 3
                have af3 := hx9.frozen 3
                have a4 : (_ : Option Value) = some (.int .u64 (r 2)) := hx9.cell 4
                have af4 := hx9.frozen 4
                have a5 : (_ : Option Value) = some (.int .u64 (r 3)) := hx9.cell 5
                have af5 := hx9.frozen 5
                have a6 : (_ : Option Value) = some (.int .u64 (r 4)) := hx9.cell 6
                have af6 := hx9.frozen 6
                have a7 : (_ : Option Value) = some (.int .u64 (r 5)) := hx9.cell 7
                have af7 := hx9.frozen 7
                have a8 : (_ : Option Value) = some (.int .u64 (r 6)) := hx9.cell 8
                have af8 := hx9.frozen 8
                have a9 : (_ : Option Value) = some (.int .u64 (r 7)) := hx9.cell 9
                have af9 := hx9.frozen 9
                have b0 : (_ : Option Value) = some (.slice A n c) := hy9.cell 0
                have b1 : (_ : Option Value) = some (.int .i64 (nx1:Int)) := hy9.cell 1
                have b2 : (_ : Option Value) = some (.int .u64 (r1 0)) := hy9.cell 2
                have b3 : (_ : Option Value) = some (.int .u64 (r1 1)) := hy9.cell 3
                have b4 : (_ : Option Value) = some (.int .u64 (r1 2)) := hy9.cell 4
                have b5 : (_ : Option Value) = some (.int .u64 (r1 3)) := hy9.cell 5
                have b6 : (_ : Option Value) = some (.int .u64 (r1 4)) := hy9.cell 6
                have b7 : (_ : Option Value) = some (.int .u64 (r1 5)) := hy9.cell 7
                have b8 : (_ : Option Value) = some (.int .u64 (r1 6)) := hy9.cell 8
                have b9 : (_ : Option Value) = some (.int .u64 (r1 7)) := hy9.cell 9
                skip
                have hz0 : decide ((nx1 : Int) < 0) = false := decide_eq_false (by omega)
                have hz0' : ¬ (nx1 : Int) < 0 := by omega
                go_upto_region 22 with fail
                go_big_quiet (fail)
                go_upto_region 24 with fail
                refine nameW ?_
                intro W10 hW10
                have hb : Below wr.heap.size wr W10 := by rw [hW10]; exact below_drewN (Below.refl _ _) _
                have hx10 := hx9.to hb
                have hy10 := hy9.to hb
                have hbr10 := hbr9.trans (hb.mono hbr9.size)
                clear hW10 hx9 hy9 hbr9 hb a0 a1 a2 a3 a4 a5 a6 a7 a8 a9 af0 af1 af2 af3 af4 af5 af6 af7 af8 af9 b0 b1 b2 b3 b4 b5 b6 b7 b8 b9
                have a0 : (_ : Option Value) = some (.slice A n c) := hx10.cell 0
                have af0 := hx10.frozen 0
                have a1 : (_ : Option Value) = some (.int .i64 (nx:Int)) := hx10.cell 1
                have af1 := hx10.frozen 1
                have a2 : (_ : Option Value) = some (.int .u64 (r 0)) := hx10.cell 2
                have af2 := hx10.frozen 2
                have a3 : (_ : Option Value) = some (.int .u64 (r 1)) := hx10.cell 3
                have af3 := hx10.frozen 3
                have a4 : (_ : Option Value) = some (.int .u64 (r 2)) := hx10.cell 4
                have af4 := hx10.frozen 4
                have a5 : (_ : Option Value) = some (.int .u64 (r 3)) := hx10.cell 5
                have af5 := hx10.frozen 5
                have a6 : (_ : Option Value) = some (.int .u64 (r 4)) := hx10.cell 6
                have af6 := hx10.frozen 6
                have a7 : (_ : Option Value) = some (.int .u64 (r 5)) := hx10.cell 7
                have af7 := hx10.frozen 7
                have a8 : (_ : Option Value) = some (.int .u64 (r 6)) := hx10.cell 8
                have af8 := hx10.frozen 8
                have a9 : (_ : Option Value) = some (.int .u64 (r 7)) := hx10.cell 9
                have af9 := hx10.frozen 9
                have b0 : (_ : Option Value) = some (.slice A n c) := hy10.cell 0
                have b1 : (_ : Option Value) = some (.int .i64 (nx1:Int)) := hy10.cell 1
                have b2 : (_ : Option Value) = some (.int .u64 (r1 0)) := hy10.cell 2
                have b3 : (_ : Option Value) = some (.int .u64 (r1 1)) := hy10.cell 3
                have b4 : (_ : Option Value) = some (.int .u64 (r1 2)) := hy10.cell 4
                have b5 : (_ : Option Value) = some (.int .u64 (r1 3)) := hy10.cell 5
                have b6 : (_ : Option Value) = some (.int .u64 (r1 4)) := hy10.cell 6
                have b7 : (_ : Option Value) = some (.int .u64 (r1 5)) := hy10.cell 7
                have b8 : (_ : Option Value) = some (.int .u64 (r1 6)) := hy10.cell 8
                have b9 : (_ : Option Value) = some (.int .u64 (r1 7)) := hy10.cell 9
                have hxx := hx10.ten (.slice A n c) (.int .i64 (nx1:Int)) (.int .u64 (r1 0)) (.int .u64 (r1 1)) (.int .u64 (r1 2)) (.int .u64 (r1 3)) (.int .u64 (r1 4)) (.int .u64 (r1 5)) (.int .u64 (r1 6)) (.int .u64 (r1 7))
                have hbb := below_ten (w0 := w1) (g := w1.heap.size) hbr10 (Nat.le_refl _) (.slice A n c) (.int .i64 (nx1:Int)) (.int .u64 (r1 0)) (.int .u64 (r1 1)) (.int .u64 (r1 2)) (.int .u64 (r1 3)) (.int .u64 (r1 4)) (.int .u64 (r1 5)) (.int .u64 (r1 6)) (.int .u64 (r1 7))
                have HG := hide (⟨hsn, hxx, hbb⟩ : GoesI w1 w1.heap.size A n c nx1 r1 _)
                clear hxx hbb hx10 hy10 hbr10
                go_wp2
                go_roundw
                case rel => exact ⟨k + 1, nx1, r1, by omega, by go_num, unhide HG⟩
                case measure => simp [intOf]; omega
          · obtain ⟨e1, e2⟩ := (unhide HC1) rfl
            subst e1 e2
            obtain ⟨b2, o2, x, rfl, hbl2, hxk, g0, g1, g2⟩ := (unhide HR2).res hlt
            have HG := hide (fun (W : World) (hb : Below w1.heap.size w1 W) => (⟨(hb.cell (p := ⟨b2, o2 + k * 3, none⟩) hbl2).trans g0, (hb.cell (p := ⟨b2, o2 + k * 3 + 1, none⟩) hbl2).trans g1, (hb.cell (p := ⟨b2, o2 + k * 3 + 2, none⟩) hbl2).trans g2⟩ : W.cell? ⟨b2, o2 + k * 3, none⟩ = some (.int .i64 x.e) ∧ W.cell? ⟨b2, o2 + k * 3 + 1, none⟩ = some (.int .u64 x.v) ∧ W.cell? ⟨b2, o2 + k * 3 + 2, none⟩ = some (.int .u32 x.h)))
            have hxo := hok x (mem_of_get hxk)
            have HB := HCB.out
            clear g0 g1 g2 hxk
            have hE := fun w => eq8_same r1 w
            have hG := guard8
            have a0 : (_ : Option Value) = some (.slice A n c) := hxx.cell 0
            have a1 : (_ : Option Value) = some (.int .i64 nx1) := hxx.cell 1
            have a2 : (_ : Option Value) = some (.int .u64 (r1 0)) := hxx.cell 2
            have a3 : (_ : Option Value) = some (.int .u64 (r1 1)) := hxx.cell 3
            have a4 : (_ : Option Value) = some (.int .u64 (r1 2)) := hxx.cell 4
            have a5 : (_ : Option Value) = some (.int .u64 (r1 3)) := hxx.cell 5
            have a6 : (_ : Option Value) = some (.int .u64 (r1 4)) := hxx.cell 6
            have a7 : (_ : Option Value) = some (.int .u64 (r1 5)) := hxx.cell 7
            have a8 : (_ : Option Value) = some (.int .u64 (r1 6)) := hxx.cell 8
            have a9 : (_ : Option Value) = some (.int .u64 (r1 7)) := hxx.cell 9
            have b0 : (_ : Option Value) = some (.slice A n c) := hyy.cell 0
            have b1 : (_ : Option Value) = some (.int .i64 nx1) := hyy.cell 1
            have b2 : (_ : Option Value) = some (.int .u64 (r1 0)) := hyy.cell 2
            have b3 : (_ : Option Value) = some (.int .u64 (r1 1)) := hyy.cell 3
            have b4 : (_ : Option Value) = some (.int .u64 (r1 2)) := hyy.cell 4
            have b5 : (_ : Option Value) = some (.int .u64 (r1 3)) := hyy.cell 5
            have b6 : (_ : Option Value) = some (.int .u64 (r1 4)) := hyy.cell 6
            have b7 : (_ : Option Value) = some (.int .u64 (r1 5)) := hyy.cell 7
            have b8 : (_ : Option Value) = some (.int .u64 (r1 6)) := hyy.cell 8
            have b9 : (_ : Option Value) = some (.int .u64 (r1 7)) := hyy.cell 9
            go_upto_region 15 with fail
            clear a0 a1 a2 a3 a4 a5 a6 a7 a8 a9 b0 b1 b2 b3 b4 b5 b6 b7 b8 b9 hE hG
            refine wp_still_tail_drew 5 (by kernel_rfl) (by kernel_rfl) ?_
            obtain ⟨W9, hW9⟩ : ∃ W9, W4.drew = W9 := ⟨_, rfl⟩
            rw [hW9]
            have hbd : Below W4.heap.size W4 W9 := by rw [← hW9]; exact (Below.refl _ _).drew
            have hx9 := hxx.to hbd
            have hy9 := hyy.to hbd
            have hbr9 := hbb.trans (hbd.mono hbb.size)
            obtain ⟨g0, g1, g2⟩ := (unhide HG) _ hbr9
            clear hxx hyy hbb hbd hW9
            have hT := takes_any (A := A) (n := n) (c := c) (nx := nx1) (r := r1) (w := W9) (l := l) hp ((unhide HRD) _ hbr9) HB x.e x.v x.h hxo.2 (by omega)
            have hcn3 := cnt_tR (l := l) (nx := nx1) r1 x.e x.v x.h 8
            have htl := tN_le (l := l) (nx := nx1) (by rw [HN.out]; exact hnl)
            have hti := fun h : nx1 < n => tN_in (l := l) (nx := nx1) (by rw [HN.out]; exact h)
            have htr := fun h : nx1 < n => tR_in (l := l) (nx := nx1) (by rw [HN.out]; exact h) r1 x.e x.v x.h
            rw [HN.out] at htl
            obtain ⟨nx2, hnx2⟩ : ∃ q, tN l nx1 = q := ⟨_, rfl⟩
            obtain ⟨r2, hr2⟩ : ∃ q, tR l nx1 r1 x.e x.v x.h = q := ⟨_, rfl⟩
            rw [hnx2, hr2] at hT
            rw [hnx2] at hti htl
            rw [hr2] at hcn3 htr
            simp only [tskV, tskC, resV] at hT
            have HT := hide hT
            have HTI := hide hti
            have HTR := hide htr
            clear hT hnx2 hr2 hti htr
            have jn : (k : Int) < n2 := by omega
            have jn1 : ((k : Int)).toNat = k := by omega
            have a0 : (_ : Option Value) = some (.slice A n c) := hx9.cell 0
            have a1 : (_ : Option Value) = some (.int .i64 nx1) := hx9.cell 1
            have a2 : (_ : Option Value) = some (.int .u64 (r1 0)) := hx9.cell 2
            have a3 : (_ : Option Value) = some (.int .u64 (r1 1)) := hx9.cell 3
            have a4 : (_ : Option Value) = some (.int .u64 (r1 2)) := hx9.cell 4
            have a5 : (_ : Option Value) = some (.int .u64 (r1 3)) := hx9.cell 5
            have a6 : (_ : Option Value) = some (.int .u64 (r1 4)) := hx9.cell 6
            have a7 : (_ : Option Value) = some (.int .u64 (r1 5)) := hx9.cell 7
            have a8 : (_ : Option Value) = some (.int .u64 (r1 6)) := hx9.cell 8
            have a9 : (_ : Option Value) = some (.int .u64 (r1 7)) := hx9.cell 9
            simp only [List.take_succ_cons, List.take_zero, List.drop_succ_cons, List.drop_zero]
            repeat still_step
            refine wpStill_nil ?_
            go_wp2_with fail
            refine (unhide HT).mono ?_
            rintro e w10 ⟨rfl, hb⟩
            clear a0 a1 a2 a3 a4 a5 a6 a7 a8 a9 HT g0 g1 g2
            have hx11 := hx9.to hb
            have hy11 := hy9.to hb
            have hbr11 := hbr9.trans (hb.mono hbr9.size)
            clear hx9 hy9 hbr9 hb
            have a0 : (_ : Option Value) = some (.slice A n c) := hy11.cell 0
            have af0 := hy11.frozen 0
            have a1 : (_ : Option Value) = some (.int .i64 nx1) := hy11.cell 1
            have af1 := hy11.frozen 1
            have a2 : (_ : Option Value) = some (.int .u64 (r1 0)) := hy11.cell 2
            have af2 := hy11.frozen 2
            have a3 : (_ : Option Value) = some (.int .u64 (r1 1)) := hy11.cell 3
            have af3 := hy11.frozen 3
            have a4 : (_ : Option Value) = some (.int .u64 (r1 2)) := hy11.cell 4
            have af4 := hy11.frozen 4
            have a5 : (_ : Option Value) = some (.int .u64 (r1 3)) := hy11.cell 5
            have af5 := hy11.frozen 5
            have a6 : (_ : Option Value) = some (.int .u64 (r1 4)) := hy11.cell 6
            have af6 := hy11.frozen 6
            have a7 : (_ : Option Value) = some (.int .u64 (r1 5)) := hy11.cell 7
            have af7 := hy11.frozen 7
            have a8 : (_ : Option Value) = some (.int .u64 (r1 6)) := hy11.cell 8
            have af8 := hy11.frozen 8
            have a9 : (_ : Option Value) = some (.int .u64 (r1 7)) := hy11.cell 9
            have af9 := hy11.frozen 9
            go_upto_region 16 with fail
            refine nameW ?_
            intro W11 hW11
            have hyy := hy11.ten (.slice A n c) (.int .i64 (nx2:Int)) (.int .u64 (r2 0)) (.int .u64 (r2 1)) (.int .u64 (r2 2)) (.int .u64 (r2 3)) (.int .u64 (r2 4)) (.int .u64 (r2 5)) (.int .u64 (r2 6)) (.int .u64 (r2 7))
            have hxx := hx11.far10 (g := w4.heap.size) (by omega) (.slice A n c) (.int .i64 (nx2:Int)) (.int .u64 (r2 0)) (.int .u64 (r2 1)) (.int .u64 (r2 2)) (.int .u64 (r2 3)) (.int .u64 (r2 4)) (.int .u64 (r2 5)) (.int .u64 (r2 6)) (.int .u64 (r2 7))
            have hbb := below_ten' (w0 := w1) (g := w4.heap.size) hbr11 (by omega) (.slice A n c) (.int .i64 (nx2:Int)) (.int .u64 (r2 0)) (.int .u64 (r2 1)) (.int .u64 (r2 2)) (.int .u64 (r2 3)) (.int .u64 (r2 4)) (.int .u64 (r2 5)) (.int .u64 (r2 6)) (.int .u64 (r2 7))
            rw [← hW11] at hxx hyy hbb
            clear hW11 hx11 hy11 hbr11 a0 a1 a2 a3 a4 a5 a6 a7 a8 a9 af0 af1 af2 af3 af4 af5 af6 af7 af8 af9
            by_cases hin : nx1 < n
            · have e2 := (unhide HTI) hin
              have e7 := Lib.hid ((unhide HTR) hin)
              subst e2
              have HE7 := e7
              clear e7
              have HC := hide (⟨hxx, hyy, hbb⟩ : CntI w1 w1.heap.size w4.heap.size A n c nx1 (nx1+1) r1 r2 W11)
              clear hxx hyy hbb
              go_wp2
              go_loopw [12, 13] (fun ch kk wr => ∃ j, j ≤ 8 ∧ kk = .int .i64 (j : Nat) ∧ ch = .int .i64 (cnt r1 r2 j) ∧ CntI w1 w1.heap.size w4.heap.size A n c nx1 (nx1+1) r1 r2 wr) (fun _ kk _ => 8 - (intOf kk).toNat)
              case atStart => exact ⟨0, Nat.zero_le _, rfl, rfl, unhide HC⟩
              case round =>
                clear HC
                obtain ⟨j, hj, rfl, rfl, hI⟩ := hrel
                have hcl := cnt_le r1 r2 j
                by_cases hlj : j < 8
                · have k1 := (hI.t.cell (2 + j)).trans (tsk_get A n c nx1 r1 j hlj)
                  have k2 := (hI.u.cell (2 + j)).trans (tsk_get A n c (nx1+1) r2 j hlj)
                  have jb : (j : Int) < 8 := by omega
                  have jb1 : ((j : Int)).toNat = j := by omega
                  by_cases he : r2 j = r1 j
                  · have hcc := Lib.hid (cnt_yes he)
                    rw [he] at k2
                    clear he
                    go_wp2
                    go_quiet (fail)
                    go_wp2
                    go_roundw
                    case rel => exact ⟨j + 1, by omega, by go_num, by rw [hcc.out], hI.t.to (below_drewN (Below.refl _ _) _), hI.u.to (below_drewN (Below.refl _ _) _), hI.b.trans ((below_drewN (Below.refl _ _) _ : Below wr.heap.size wr _).mono hI.b.size)⟩
                    case measure => simp [intOf]; omega
                  · have hcc := Lib.hid (cnt_no he)
                    have he1 : (r2 j == r1 j) = false := by simpa using he
                    clear he
                    go_wp2
                    go_quiet (fail)
                    go_wp2
                    go_roundw
                    case rel => exact ⟨j + 1, by omega, by go_num, by rw [hcc.out]; go_num, hI.t.to (below_drewN (Below.refl _ _) _), hI.u.to (below_drewN (Below.refl _ _) _), hI.b.trans ((below_drewN (Below.refl _ _) _ : Below wr.heap.size wr _).mono hI.b.size)⟩
                    case measure => simp [intOf]; omega
                · have e8 : j = 8 := by omega
                  subst e8
                  obtain ⟨hx9, hy9, hbr9⟩ := hI
                  have hz3 : decide (3 < (cnt r1 r2 8 : Int)) = false := decide_eq_false (by omega)
                  have hzn : decide (n < nx1 + 1) = false := decide_eq_false (by omega)
                  have hzn' : decide ((n : Int) < (nx1 : Int) + 1) = false := decide_eq_false (by omega)
                  obtain ⟨g0, g1, g2⟩ := (unhide HG) _ hbr9
                  have jn : (k : Int) < n2 := by omega
                  have jn1 : ((k : Int)).toNat = k := by omega
                  have a0 : (_ : Option Value) = some (.slice A n c) := hx9.cell 0
                  have af0 := hx9.frozen 0
                  have a1 : (_ : Option Value) = some (.int .i64 (nx1:Int)) := hx9.cell 1
                  have af1 := hx9.frozen 1
                  have a2 : (_ : Option Value) = some (.int .u64 (r1 0)) := hx9.cell 2
                  have af2 := hx9.frozen 2
                  have a3 : (_ : Option Value) = some (.int .u64 (r1 1)) := hx9.cell 3
                  have af3 := hx9.frozen 3
                  have a4 : (_ : Option Value) = some (.int .u64 (r1 2)) := hx9.cell 4
                  have af4 := hx9.frozen 4
                  have a5 : (_ : Option Value) = some (.int .u64 (r1 3)) := hx9.cell 5
                  have af5 := hx9.frozen 5
                  have a6 : (_ : Option Value) = some (.int .u64 (r1 4)) := hx9.cell 6
                  have af6 := hx9.frozen 6
                  have a7 : (_ : Option Value) = some (.int .u64 (r1 5)) := hx9.cell 7
                  have af7 := hx9.frozen 7
                  have a8 : (_ : Option Value) = some (.int .u64 (r1 6)) := hx9.cell 8
                  have af8 := hx9.frozen 8
                  have a9 : (_ : Option Value) = some (.int .u64 (r1 7)) := hx9.cell 9
                  have af9 := hx9.frozen 9
                  have b0 : (_ : Option Value) = some (.slice A n c) := hy9.cell 0
                  have b1 : (_ : Option Value) = some (.int .i64 ((nx1+1):Int)) := hy9.cell 1
                  have b2 : (_ : Option Value) = some (.int .u64 (r2 0)) := hy9.cell 2
                  have b3 : (_ : Option Value) = some (.int .u64 (r2 1)) := hy9.cell 3
                  have b4 : (_ : Option Value) = some (.int .u64 (r2 2)) := hy9.cell 4
                  have b5 : (_ : Option Value) = some (.int .u64 (r2 3)) := hy9.cell 5
                  have b6 : (_ : Option Value) = some (.int .u64 (r2 4)) := hy9.cell 6
                  have b7 : (_ : Option Value) = some (.int .u64 (r2 5)) := hy9.cell 7
                  have b8 : (_ : Option Value) = some (.int .u64 (r2 6)) := hy9.cell 8
                  have b9 : (_ : Option Value) = some (.int .u64 (r2 7)) := hy9.cell 9
                  rw [HE7.out] at b9
                  have hz0 : decide (((nx1+1) : Int) < 0) = false := decide_eq_false (by omega)
                  have hz0' : ¬ ((nx1+1) : Int) < 0 := by omega
                  go_upto_region 22 with fail
                  go_big_quiet (fail)
                  go_upto_region 24 with fail
                  refine nameW ?_
                  intro W10 hW10
                  have hb : Below wr.heap.size wr W10 := by rw [hW10]; exact below_drewN (Below.refl _ _) _
                  have hx10 := hx9.to hb
                  have hy10 := hy9.to hb
                  have hbr10 := hbr9.trans (hb.mono hbr9.size)
                  clear hW10 hx9 hy9 hbr9 hb a0 a1 a2 a3 a4 a5 a6 a7 a8 a9 af0 af1 af2 af3 af4 af5 af6 af7 af8 af9 b0 b1 b2 b3 b4 b5 b6 b7 b8 b9
                  have a0 : (_ : Option Value) = some (.slice A n c) := hx10.cell 0
                  have af0 := hx10.frozen 0
                  have a1 : (_ : Option Value) = some (.int .i64 (nx1:Int)) := hx10.cell 1
                  have af1 := hx10.frozen 1
                  have a2 : (_ : Option Value) = some (.int .u64 (r1 0)) := hx10.cell 2
                  have af2 := hx10.frozen 2
                  have a3 : (_ : Option Value) = some (.int .u64 (r1 1)) := hx10.cell 3
                  have af3 := hx10.frozen 3
                  have a4 : (_ : Option Value) = some (.int .u64 (r1 2)) := hx10.cell 4
                  have af4 := hx10.frozen 4
                  have a5 : (_ : Option Value) = some (.int .u64 (r1 3)) := hx10.cell 5
                  have af5 := hx10.frozen 5
                  have a6 : (_ : Option Value) = some (.int .u64 (r1 4)) := hx10.cell 6
                  have af6 := hx10.frozen 6
                  have a7 : (_ : Option Value) = some (.int .u64 (r1 5)) := hx10.cell 7
                  have af7 := hx10.frozen 7
                  have a8 : (_ : Option Value) = some (.int .u64 (r1 6)) := hx10.cell 8
                  have af8 := hx10.frozen 8
                  have a9 : (_ : Option Value) = some (.int .u64 (r1 7)) := hx10.cell 9
                  have af9 := hx10.frozen 9
                  have b0 : (_ : Option Value) = some (.slice A n c) := hy10.cell 0
                  have b1 : (_ : Option Value) = some (.int .i64 ((nx1+1):Int)) := hy10.cell 1
                  have b2 : (_ : Option Value) = some (.int .u64 (r2 0)) := hy10.cell 2
                  have b3 : (_ : Option Value) = some (.int .u64 (r2 1)) := hy10.cell 3
                  have b4 : (_ : Option Value) = some (.int .u64 (r2 2)) := hy10.cell 4
                  have b5 : (_ : Option Value) = some (.int .u64 (r2 3)) := hy10.cell 5
                  have b6 : (_ : Option Value) = some (.int .u64 (r2 4)) := hy10.cell 6
                  have b7 : (_ : Option Value) = some (.int .u64 (r2 5)) := hy10.cell 7
                  have b8 : (_ : Option Value) = some (.int .u64 (r2 6)) := hy10.cell 8
                  have b9 : (_ : Option Value) = some (.int .u64 (r2 7)) := hy10.cell 9
                  have hxx := hx10.ten (.slice A n c) (.int .i64 ((nx1+1):Int)) (.int .u64 (r2 0)) (.int .u64 (r2 1)) (.int .u64 (r2 2)) (.int .u64 (r2 3)) (.int .u64 (r2 4)) (.int .u64 (r2 5)) (.int .u64 (r2 6)) (.int .u64 (r2 7))
                  have hbb := below_ten (w0 := w1) (g := w1.heap.size) hbr10 (Nat.le_refl _) (.slice A n c) (.int .i64 ((nx1+1):Int)) (.int .u64 (r2 0)) (.int .u64 (r2 1)) (.int .u64 (r2 2)) (.int .u64 (r2 3)) (.int .u64 (r2 4)) (.int .u64 (r2 5)) (.int .u64 (r2 6)) (.int .u64 (r2 7))
                  have HG := hide (⟨htl, hxx, hbb⟩ : GoesI w1 w1.heap.size A n c (nx1+1) r2 _)
                  clear hxx hbb hx10 hy10 hbr10
                  go_wp2
                  go_roundw
                  case rel => exact ⟨k + 1, (nx1+1), r2, by omega, by go_num, unhide HG⟩
                  case measure => simp [intOf]; omega
            · have hin' : decide (nx1 < n) = false := decide_eq_false hin
              clear HTI HTR
              have HC := hide (⟨hxx, hyy, hbb⟩ : CntI w1 w1.heap.size w4.heap.size A n c nx1 nx2 r1 r2 W11)
              clear hxx hyy hbb
              go_wp2
              go_loopw [12, 13] (fun ch kk wr => ∃ j, j ≤ 8 ∧ kk = .int .i64 (j : Nat) ∧ ch = .int .i64 (cnt r1 r2 j) ∧ CntI w1 w1.heap.size w4.heap.size A n c nx1 nx2 r1 r2 wr) (fun _ kk _ => 8 - (intOf kk).toNat)
              case atStart => exact ⟨0, Nat.zero_le _, rfl, rfl, unhide HC⟩
              case round =>
                clear HC
                obtain ⟨j, hj, rfl, rfl, hI⟩ := hrel
                have hcl := cnt_le r1 r2 j
                by_cases hlj : j < 8
                · have k1 := (hI.t.cell (2 + j)).trans (tsk_get A n c nx1 r1 j hlj)
                  have k2 := (hI.u.cell (2 + j)).trans (tsk_get A n c nx2 r2 j hlj)
                  have jb : (j : Int) < 8 := by omega
                  have jb1 : ((j : Int)).toNat = j := by omega
                  by_cases he : r2 j = r1 j
                  · have hcc := Lib.hid (cnt_yes he)
                    rw [he] at k2
                    clear he
                    go_wp2
                    go_quiet (fail)
                    go_wp2
                    go_roundw
                    case rel => exact ⟨j + 1, by omega, by go_num, by rw [hcc.out], hI.t.to (below_drewN (Below.refl _ _) _), hI.u.to (below_drewN (Below.refl _ _) _), hI.b.trans ((below_drewN (Below.refl _ _) _ : Below wr.heap.size wr _).mono hI.b.size)⟩
                    case measure => simp [intOf]; omega
                  · have hcc := Lib.hid (cnt_no he)
                    have he1 : (r2 j == r1 j) = false := by simpa using he
                    clear he
                    go_wp2
                    go_quiet (fail)
                    go_wp2
                    go_roundw
                    case rel => exact ⟨j + 1, by omega, by go_num, by rw [hcc.out]; go_num, hI.t.to (below_drewN (Below.refl _ _) _), hI.u.to (below_drewN (Below.refl _ _) _), hI.b.trans ((below_drewN (Below.refl _ _) _ : Below wr.heap.size wr _).mono hI.b.size)⟩
                    case measure => simp [intOf]; omega
                · have e8 : j = 8 := by omega
                  subst e8
                  obtain ⟨hx9, hy9, hbr9⟩ := hI
                  have hz3 : decide (3 < (cnt r1 r2 8 : Int)) = false := decide_eq_false (by omega)
                  have hzn : decide (n < nx2) = false := decide_eq_false (by omega)
                  have a0 : (_ : Option Value) = some (.slice A n c) := hx9.cell 0
                  have af0 := hx9.frozen 0
                  have a1 : (_ : Option Value) = some (.int .i64 (nx1:Int)) := hx9.cell 1
                  have af1 := hx9.frozen 1
                  have a2 : (_ : Option Value) = some (.int .u64 (r1 0)) := hx9.cell 2
                  have af2 := hx9.frozen 2
                  have a3 : (_ : Option Value) = some (.int .u64 (r1 1)) := hx9.cell 3
                  have af3 := hx9.frozen 3
                  have a4 : (_ : Option Value) = some (.int .u64 (r1 2)) := hx9.cell 4
                  have af4 := hx9.frozen 4
                  have a5 : (_ : Option Value) = some (.int .u64 (r1 3)) := hx9.cell 5
                  have af5 := hx9.frozen 5
                  have a6 : (_ : Option Value) = some (.int .u64 (r1 4)) := hx9.cell 6
                  have af6 := hx9.frozen 6
                  have a7 : (_ : Option Value) = some (.int .u64 (r1 5)) := hx9.cell 7
                  have af7 := hx9.frozen 7
                  have a8 : (_ : Option Value) = some (.int .u64 (r1 6)) := hx9.cell 8
                  have af8 := hx9.frozen 8
                  have a9 : (_ : Option Value) = some (.int .u64 (r1 7)) := hx9.cell 9
                  have af9 := hx9.frozen 9
                  have b0 : (_ : Option Value) = some (.slice A n c) := hy9.cell 0
                  have b1 : (_ : Option Value) = some (.int .i64 (nx2:Int)) := hy9.cell 1
                  have b2 : (_ : Option Value) = some (.int .u64 (r2 0)) := hy9.cell 2
                  have b3 : (_ : Option Value) = some (.int .u64 (r2 1)) := hy9.cell 3
                  have b4 : (_ : Option Value) = some (.int .u64 (r2 2)) := hy9.cell 4
                  have b5 : (_ : Option Value) = some (.int .u64 (r2 3)) := hy9.cell 5
                  have b6 : (_ : Option Value) = some (.int .u64 (r2 4)) := hy9.cell 6
                  have b7 : (_ : Option Value) = some (.int .u64 (r2 5)) := hy9.cell 7
                  have b8 : (_ : Option Value) = some (.int .u64 (r2 6)) := hy9.cell 8
                  have b9 : (_ : Option Value) = some (.int .u64 (r2 7)) := hy9.cell 9
                  skip
                  have hz0 : decide ((nx2 : Int) < 0) = false := decide_eq_false (by omega)
                  have hz0' : ¬ (nx2 : Int) < 0 := by omega
                  go_upto_region 22 with fail
                  go_big_quiet (fail)
                  go_upto_region 24 with fail
                  refine nameW ?_
                  intro W10 hW10
                  have hb : Below wr.heap.size wr W10 := by rw [hW10]; exact below_drewN (Below.refl _ _) _
                  have hx10 := hx9.to hb
                  have hy10 := hy9.to hb
                  have hbr10 := hbr9.trans (hb.mono hbr9.size)
                  clear hW10 hx9 hy9 hbr9 hb a0 a1 a2 a3 a4 a5 a6 a7 a8 a9 af0 af1 af2 af3 af4 af5 af6 af7 af8 af9 b0 b1 b2 b3 b4 b5 b6 b7 b8 b9
                  have a0 : (_ : Option Value) = some (.slice A n c) := hx10.cell 0
                  have af0 := hx10.frozen 0
                  have a1 : (_ : Option Value) = some (.int .i64 (nx1:Int)) := hx10.cell 1
                  have af1 := hx10.frozen 1
                  have a2 : (_ : Option Value) = some (.int .u64 (r1 0)) := hx10.cell 2
                  have af2 := hx10.frozen 2
                  have a3 : (_ : Option Value) = some (.int .u64 (r1 1)) := hx10.cell 3
                  have af3 := hx10.frozen 3
                  have a4 : (_ : Option Value) = some (.int .u64 (r1 2)) := hx10.cell 4
                  have af4 := hx10.frozen 4
                  have a5 : (_ : Option Value) = some (.int .u64 (r1 3)) := hx10.cell 5
                  have af5 := hx10.frozen 5
                  have a6 : (_ : Option Value) = some (.int .u64 (r1 4)) := hx10.cell 6
                  have af6 := hx10.frozen 6
                  have a7 : (_ : Option Value) = some (.int .u64 (r1 5)) := hx10.cell 7
                  have af7 := hx10.frozen 7
                  have a8 : (_ : Option Value) = some (.int .u64 (r1 6)) := hx10.cell 8
                  have af8 := hx10.frozen 8
                  have a9 : (_ : Option Value) = some (.int .u64 (r1 7)) := hx10.cell 9
                  have af9 := hx10.frozen 9
                  have b0 : (_ : Option Value) = some (.slice A n c) := hy10.cell 0
                  have b1 : (_ : Option Value) = some (.int .i64 (nx2:Int)) := hy10.cell 1
                  have b2 : (_ : Option Value) = some (.int .u64 (r2 0)) := hy10.cell 2
                  have b3 : (_ : Option Value) = some (.int .u64 (r2 1)) := hy10.cell 3
                  have b4 : (_ : Option Value) = some (.int .u64 (r2 2)) := hy10.cell 4
                  have b5 : (_ : Option Value) = some (.int .u64 (r2 3)) := hy10.cell 5
                  have b6 : (_ : Option Value) = some (.int .u64 (r2 4)) := hy10.cell 6
                  have b7 : (_ : Option Value) = some (.int .u64 (r2 5)) := hy10.cell 7
                  have b8 : (_ : Option Value) = some (.int .u64 (r2 6)) := hy10.cell 8
                  have b9 : (_ : Option Value) = some (.int .u64 (r2 7)) := hy10.cell 9
                  have hxx := hx10.ten (.slice A n c) (.int .i64 (nx2:Int)) (.int .u64 (r2 0)) (.int .u64 (r2 1)) (.int .u64 (r2 2)) (.int .u64 (r2 3)) (.int .u64 (r2 4)) (.int .u64 (r2 5)) (.int .u64 (r2 6)) (.int .u64 (r2 7))
                  have hbb := below_ten (w0 := w1) (g := w1.heap.size) hbr10 (Nat.le_refl _) (.slice A n c) (.int .i64 (nx2:Int)) (.int .u64 (r2 0)) (.int .u64 (r2 1)) (.int .u64 (r2 2)) (.int .u64 (r2 3)) (.int .u64 (r2 4)) (.int .u64 (r2 5)) (.int .u64 (r2 6)) (.int .u64 (r2 7))
                  have HG := hide (⟨htl, hxx, hbb⟩ : GoesI w1 w1.heap.size A n c nx2 r2 _)
                  clear hxx hbb hx10 hy10 hbr10
                  go_wp2
                  go_roundw
                  case rel => exact ⟨k + 1, nx2, r2, by omega, by go_num, unhide HG⟩
                  case measure => simp [intOf]; omega
        · go_wp2_with fail
          refine (wakes14_any wr).mono ?_
          rintro e w9 ⟨rfl, hb9⟩
          go_wp2
          go_ret
          exact ⟨rfl, bt (bt hb1 hI.b) hb9⟩
    · replace hd : decOk s = false := by simpa using hd
      have h1 := Lib.hid (decE_no hd).1
      have h2 := Lib.hid (decE_no hd).2
      clear hd
      go_enter Try.func4, Try.ntmps4
      go_wp2_with fail
      refine (of14_any s w (by omega)).mono ?_
      rintro e w1 ⟨A, c, rfl, hr1, hb1⟩
      rw [h1.out, h2.out] at *
      rw [show ([] : List Ins).length = 0 from rfl]
      simp only [tskV, tskC]
      clear hr hr1
      go_upto_region 4 with fail
      refine nameW ?_
      intro W1 hW1
      have hb2 : Below w1.heap.size w1 W1 := by rw [hW1]; exact (Below.refl _ _).alloc (Nat.le_refl _) _
      clear hW1
      go_wp2_with fail
      refine (wakes14_any _).mono ?_
      rintro e w9 ⟨rfl, hb9⟩
      go_wp2
      go_ret
      exact ⟨rfl, bt (bt hb1 hb2) hb9⟩
  · go_enter Try.func4, Try.ntmps4
    go_wp2_with fail
    all_goals
      refine (wakes14_any w).mono ?_
      rintro e w1 ⟨rfl, hb1⟩
      go_wp2
      go_ret
      exact ⟨rfl, hb1⟩
end Go.Proofs.Ytmiagijgecgfoaa
