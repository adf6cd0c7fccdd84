/-
  The walks of bailiwicklaw24's begins, halts, steps, result.
-/
import Derived.Test.YtmiagijgecgfoaaFWakes
namespace Go.Proofs.Ytmiagijgecgfoaa
open Go.RowKit

theorem insOf_by8 {x : Ins} (h : x.ok) : insOf (by8 x.op) (by8 x.a) (by8 x.b) (by8 x.c) (by8 (x.n % 256)) (by8 (x.n / 256)) = x := by
  obtain ⟨op, a, b, c, n⟩ := x
  obtain ⟨⟨p0, q0⟩, ⟨p1, q1⟩, ⟨p2, q2⟩, ⟨p3, q3⟩, ⟨p4, q4⟩⟩ := h
  simp only [insOf] at *
  rw [by8_val _ p0 q0, by8_val _ p1 q1, by8_val _ p2 q2, by8_val _ p3 q3, by8_val _ (by omega) (by omega), by8_val _ (by omega) (by omega)]
  congr 1
  omega
theorem chunk_enc : ∀ (l : List Ins), (∀ x ∈ l, x.ok) → chunk (encB l) = l
  | [], _ => rfl
  | x :: l, h => by
    show chunk (encX x ++ encB l) = _
    simp only [encX, List.cons_append, List.nil_append]
    rw [chunk, insOf_by8 (h x (by simp)), chunk_enc l (fun y hy => h y (by simp [hy]))]
theorem decOk_enc {l : List Ins} (hok : ∀ x ∈ l, x.ok) (hm : mayP l = true) : decOk (encB l) = true := by
  unfold decOk
  rw [chunk_enc l hok, encB_length, hm]
  simp
theorem decL_enc {l : List Ins} (hok : ∀ x ∈ l, x.ok) (hm : mayP l = true) : decL (encB l) = l ∧ decE (encB l) = 0 := by
  have h := decE_ok (decOk_enc hok hm)
  exact ⟨h.2.trans (chunk_enc l hok), h.1⟩

/-- does a task want to call Exit from now on? -/
def haltB (l : List Ins) (nx : Nat) : Bool := match l[nx]? with
  | none => true
  | some x => decide (x.op = 0)
def pN (l : List Ins) (nx : Nat) (r : Nat → Int) : Nat := if wB l nx then tN l nx else sN l nx r
def pR (l : List Ins) (nx : Nat) (r : Nat → Int) (x : Res) : Nat → Int := if wB l nx then tR l nx r x.e x.v x.h else sR l nx r
/-- the result of a number -/
def resAt (L : List Res) (i : Nat) : Res := (L[i % L.length]?).getD ⟨0, 0, 0⟩
theorem resAt_ok {L : List Res} (h : ∀ x ∈ L, x.ok) (i : Nat) : (resAt L i).ok := by
  unfold resAt
  cases hx : L[i % L.length]? with
  | none => exact ⟨⟨by show (0 : Int) ≤ 0; omega, by show (0 : Int) < _; omega⟩, ⟨by show (0 : Int) ≤ 0; omega, by show (0 : Int) ≤ _; omega⟩⟩
  | some x => exact h x (mem_of_get hx)

set_option maxRecDepth 100000 in
set_option maxHeartbeats 2000000 in
theorem of14b_any (s : List UInt8) (w : World) (hs : s.length ≤ 1000000) (hd : decOk s = true) :
    Calls Try.prog 12 #[.string (S s)] w fun e w' => ∃ A c, e = .returned (.tuple #[tskV A (decL s).length c 0 (fun _ => 0), .int .i64 (decE s)]) ∧ RdB w' (w.heap.size + 1) w'.heap.size 5 A (decL s).length ((decL s).flatMap Ins.cu) ∧ Below w.heap.size w w' := by
  have hb0 : Below w.heap.size w (w.alloc (.cells (tskC none 0 0 0 (fun _ => 0)) 28)) := (Below.refl _ _).alloc (Nat.le_refl _) _
  have hx0 : Bx (w.alloc (.cells (tskC none 0 0 0 (fun _ => 0)) 28)) w.heap.size (tskC none 0 0 0 (fun _ => 0)) := Bx.new _ _ _ _ rfl
  have hml := decL_le s
  · have h1 := Lib.hid (decE_ok hd).1
    clear hd
    simp only [tskC] at hx0
    go_enter Try.func12, Try.ntmps12
    go_wp2_with fail
    refine (dec_any s _ (by omega)).mono ?_
    rintro e w1 ⟨A, c, rfl, hown, hb1⟩
    rw [h1.out]
    generalize hLn : (decL s).length = ln at *
    have HLn := Lib.hid hLn
    clear hLn
    have hx1 := hx0.to hb1
    have hbx := bt hb0 hb1
    have f0 := hx1.frozen 0
    have c0 := hx1.cell 0
    have f1 := hx1.frozen 1
    have c1 := hx1.cell 1
    have f2 := hx1.frozen 2
    have c2 := hx1.cell 2
    have f3 := hx1.frozen 3
    have c3 := hx1.cell 3
    have f4 := hx1.frozen 4
    have c4 := hx1.cell 4
    have f5 := hx1.frozen 5
    have c5 := hx1.cell 5
    have f6 := hx1.frozen 6
    have c6 := hx1.cell 6
    have f7 := hx1.frozen 7
    have c7 := hx1.cell 7
    have f8 := hx1.frozen 8
    have c8 := hx1.cell 8
    have f9 := hx1.frozen 9
    have c9 := hx1.cell 9
    have hbG := below_ten (g := w.heap.size) hbx (by omega) (.slice A ln c) (.int .i64 0) (.int .u64 0) (.int .u64 0) (.int .u64 0) (.int .u64 0) (.int .u64 0) (.int .u64 0) (.int .u64 0) (.int .u64 0)
    have hyF := hx1.ten (.slice A ln c) (.int .i64 0) (.int .u64 0) (.int .u64 0) (.int .u64 0) (.int .u64 0) (.int .u64 0) (.int .u64 0) (.int .u64 0) (.int .u64 0)
    have hr2 := RdB.of_own (own_ten (g := w.heap.size) hown (by simp) (.slice A ln c) (.int .i64 0) (.int .u64 0) (.int .u64 0) (.int .u64 0) (.int .u64 0) (.int .u64 0) (.int .u64 0) (.int .u64 0) (.int .u64 0))
    have HBG := hide hbG
    have HYF := hide hyF
    have HR := hide hr2
    clear hb0 hx0 hown hb1 hx1 hbx hbG hyF hr2
    go_wp2
    have d0 := (unhide HYF).cell 0
    have d1 := (unhide HYF).cell 1
    have d2 := (unhide HYF).cell 2
    have d3 := (unhide HYF).cell 3
    have d4 := (unhide HYF).cell 4
    have d5 := (unhide HYF).cell 5
    have d6 := (unhide HYF).cell 6
    have d7 := (unhide HYF).cell 7
    have d8 := (unhide HYF).cell 8
    have d9 := (unhide HYF).cell 9
    refine bodyPost_ret (v := .tuple #[.agg #[.slice A ln c, .int .i64 0, .int .u64 0, .int .u64 0, .int .u64 0, .int .u64 0, .int .u64 0, .int .u64 0, .int .u64 0, .int .u64 0], .int .i64 0]) (by simp [results, Try.results12, go_sem, d0, d1, d2, d3, d4, d5, d6, d7, d8, d9]) rfl ?_
    refine ⟨A, c, ?_, ?_, ?_⟩
    · rw [HLn.out, h1.out]; simp [tskV, tskC]
    · rw [HLn.out]; simpa using HR.out
    · exact HBG.out

section
variable {l : List Ins} {A A' : Option Addr} {n c c' nx : Nat} {r : Nat → Int} {w : World}

set_option maxRecDepth 100000 in
set_option maxHeartbeats 4000000 in
theorem begins_yes (hp : Prog l) (hr : Rd w w.heap.size 5 A n (l.flatMap Ins.cu)) :
    Calls Try.prog 40 #[.slice A n c] w fun e w' => ∃ A' c', e = .returned (.tuple #[tskV A' n c' 0 rg0, .bool true]) ∧ Rd w' w'.heap.size 5 A' n (l.flatMap Ins.cu) ∧ Below w.heap.size w w' := by
  have hln := hr.lenU
  have hle := hp.le
  obtain ⟨d1, d2⟩ := decL_enc hp.ok hp.may
  have hdo := decOk_enc hp.ok hp.may
  have hen : encS l = encB l ∧ encE l = 0 := by unfold encS encE; rw [hp.may]; exact ⟨rfl, rfl⟩
  have hlen : (encB l).length ≤ 1000000 := by rw [encB_length]; omega
  have HOF := hide (fun W => of14b_any (encB l) W hlen hdo)
  have HR := hide hr
  have D1 := Lib.hid d1
  have D2 := Lib.hid d2
  have E1 := Lib.hid hen.1
  have E2 := Lib.hid hen.2
  have HLN := Lib.hid hln
  have hok := hp.ok
  clear d1 d2 hen hlen hr hln
  go_enter Try.func40, Try.ntmps40
  go_upto_region 1 with fail
  refine nameW ?_
  intro W0 hW0
  have hb0 : Below w.heap.size w W0 := by rw [hW0]; exact (Below.refl _ _).alloc (Nat.le_refl _) _
  have hx0 : Bx W0 w.heap.size (tskC none 0 0 0 rg0) := by rw [hW0]; exact Bx.new _ _ _ _ rfl
  clear hW0
  go_wp2_with fail
  refine (enc_any A n c l W0 (by have := HLN.out; omega) ((unhide HR).to hb0) hok).mono ?_
  rintro e w1 ⟨rfl, hb1⟩
  rw [E1.out, E2.out]
  go_wp2_with fail
  refine (unhide HOF w1).mono ?_
  rintro e w2 ⟨A', c', rfl, hr2, hb2⟩
  rw [D1.out, D2.out] at *
  rw [HLN.out] at *
  simp only [tskV, tskC]
  have hrz := hr2.to (Nat.le_refl _) (Below.refl _ _)
  have hlo : w.heap.size < w1.heap.size + 1 := by have := (hx0.to hb1).lt; omega
  have hbx := bt hb1 hb2
  have hx2 := hx0.to hbx
  have hb3 := bt hb0 hbx
  clear hrz hx0 hb0 hb1 hb2 hbx
  go_upto_region 3 with fail
  refine nameW ?_
  intro W3 hW3
  have hb4 : Below w2.heap.size w2 W3 := by rw [hW3]; exact (Below.refl _ _).alloc (Nat.le_refl _) _
  have hx3 := hx2.to hb4
  have hy3 : Bx W3 w2.heap.size (tskC A' n c' 0 rg0) := by rw [hW3]; exact Bx.new _ _ _ _ rfl
  have hb5 := bt hb3 hb4
  clear hW3 hx2
  have a0 : (_ : Option Value) = some (.slice A' n c') := hy3.cell 0
  have a1 : (_ : Option Value) = some (.int .i64 (0:Int)) := hy3.cell 1
  have a2 : (_ : Option Value) = some (.int .u64 (rg0 0)) := hy3.cell 2
  have a3 : (_ : Option Value) = some (.int .u64 (rg0 1)) := hy3.cell 3
  have a4 : (_ : Option Value) = some (.int .u64 (rg0 2)) := hy3.cell 4
  have a5 : (_ : Option Value) = some (.int .u64 (rg0 3)) := hy3.cell 5
  have a6 : (_ : Option Value) = some (.int .u64 (rg0 4)) := hy3.cell 6
  have a7 : (_ : Option Value) = some (.int .u64 (rg0 5)) := hy3.cell 7
  have a8 : (_ : Option Value) = some (.int .u64 (rg0 6)) := hy3.cell 8
  have a9 : (_ : Option Value) = some (.int .u64 (rg0 7)) := hy3.cell 9
  have e0 : (_ : Option Value) = some (.slice none 0 0) := hx3.cell 0
  have ef0 := hx3.frozen 0
  have e1 : (_ : Option Value) = some (.int .i64 (0:Int)) := hx3.cell 1
  have ef1 := hx3.frozen 1
  have e2 : (_ : Option Value) = some (.int .u64 (rg0 0)) := hx3.cell 2
  have ef2 := hx3.frozen 2
  have e3 : (_ : Option Value) = some (.int .u64 (rg0 1)) := hx3.cell 3
  have ef3 := hx3.frozen 3
  have e4 : (_ : Option Value) = some (.int .u64 (rg0 2)) := hx3.cell 4
  have ef4 := hx3.frozen 4
  have e5 : (_ : Option Value) = some (.int .u64 (rg0 3)) := hx3.cell 5
  have ef5 := hx3.frozen 5
  have e6 : (_ : Option Value) = some (.int .u64 (rg0 4)) := hx3.cell 6
  have ef6 := hx3.frozen 6
  have e7 : (_ : Option Value) = some (.int .u64 (rg0 5)) := hx3.cell 7
  have ef7 := hx3.frozen 7
  have e8 : (_ : Option Value) = some (.int .u64 (rg0 6)) := hx3.cell 8
  have ef8 := hx3.frozen 8
  have e9 : (_ : Option Value) = some (.int .u64 (rg0 7)) := hx3.cell 9
  have ef9 := hx3.frozen 9
  have hzF := hx3.ten (.slice A' n c') (.int .i64 (0:Int)) (.int .u64 (rg0 0)) (.int .u64 (rg0 1)) (.int .u64 (rg0 2)) (.int .u64 (rg0 3)) (.int .u64 (rg0 4)) (.int .u64 (rg0 5)) (.int .u64 (rg0 6)) (.int .u64 (rg0 7))
  have hbF := below_ten (g := w.heap.size) hb5 (Nat.le_refl _) (.slice A' n c') (.int .i64 (0:Int)) (.int .u64 (rg0 0)) (.int .u64 (rg0 1)) (.int .u64 (rg0 2)) (.int .u64 (rg0 3)) (.int .u64 (rg0 4)) (.int .u64 (rg0 5)) (.int .u64 (rg0 6)) (.int .u64 (rg0 7))
  have HFX := hide hzF
  have HBF := hide hbF
  have hrt := (hr2.to (Nat.le_refl _) hb4).ten (g := w.heap.size) (Or.inl hlo) (.slice A' n c') (.int .i64 (0:Int)) (.int .u64 (rg0 0)) (.int .u64 (rg0 1)) (.int .u64 (rg0 2)) (.int .u64 (rg0 3)) (.int .u64 (rg0 4)) (.int .u64 (rg0 5)) (.int .u64 (rg0 6)) (.int .u64 (rg0 7))
  have HY := hide (hrt.rd (by simpa using hb4.size))
  clear hrt hr2 hx3 hy3 hb3 hb4 hb5 hzF hbF
  go_wp2
  have x0 := (unhide HFX).cell 0
  have x1 := (unhide HFX).cell 1
  have x2 := (unhide HFX).cell 2
  have x3 := (unhide HFX).cell 3
  have x4 := (unhide HFX).cell 4
  have x5 := (unhide HFX).cell 5
  have x6 := (unhide HFX).cell 6
  have x7 := (unhide HFX).cell 7
  have x8 := (unhide HFX).cell 8
  have x9 := (unhide HFX).cell 9
  refine bodyPost_ret (v := .tuple #[.agg #[.slice A' n c', .int .i64 (0:Int), .int .u64 (rg0 0), .int .u64 (rg0 1), .int .u64 (rg0 2), .int .u64 (rg0 3), .int .u64 (rg0 4), .int .u64 (rg0 5), .int .u64 (rg0 6), .int .u64 (rg0 7)], .bool true]) (by simp [results, Try.results40, go_sem, x0, x1, x2, x3, x4, x5, x6, x7, x8, x9]) rfl ⟨A', ⟨c', rfl⟩, HY.out, HBF.out⟩

set_option maxRecDepth 100000 in
set_option maxHeartbeats 4000000 in
theorem begins_no (hok : ∀ x ∈ l, x.ok) (hm : mayP l = false) (hn : n ≤ 140737488355328) (hr : Rd w w.heap.size 5 A n (l.flatMap Ins.cu)) :
    Calls Try.prog 40 #[.slice A n c] w fun e w' => (∃ A' nn c', e = .returned (.tuple #[tskV A' nn c' 0 rg0, .bool false])) ∧ Below w.heap.size w w' := by
  have hen : encS l = [] ∧ encE l = 3 := by unfold encS encE; rw [hm]; exact ⟨rfl, rfl⟩
  have HOF := hide (fun W => of14_any [] W (by simp))
  have HR := hide hr
  have E1 := Lib.hid hen.1
  have E2 := Lib.hid hen.2
  have HE := Lib.hid (show decE [] = 0 by decide)
  clear hen hr hm
  go_enter Try.func40, Try.ntmps40
  go_upto_region 1 with fail
  refine nameW ?_
  intro W0 hW0
  have hb0 : Below w.heap.size w W0 := by rw [hW0]; exact (Below.refl _ _).alloc (Nat.le_refl _) _
  have hx0 : Bx W0 w.heap.size (tskC none 0 0 0 rg0) := by rw [hW0]; exact Bx.new _ _ _ _ rfl
  clear hW0
  go_wp2_with fail
  refine (enc_any A n c l W0 hn ((unhide HR).to hb0) hok).mono ?_
  rintro e w1 ⟨rfl, hb1⟩
  rw [E1.out, E2.out]
  go_wp2_with fail
  refine (unhide HOF w1).mono ?_
  rintro e w2 ⟨A', c', rfl, hr2, hb2⟩
  rw [HE.out]
  obtain ⟨nn, hnn⟩ : ∃ q, (decL []).length = q := ⟨_, rfl⟩
  rw [hnn]
  simp only [tskV, tskC]
  have hbx := bt hb1 hb2
  have hx2 := hx0.to hbx
  have hb3 := bt hb0 hbx
  clear hr2 hx0 hb0 hb1 hb2 hbx hnn
  go_upto_region 3 with fail
  refine nameW ?_
  intro W3 hW3
  have hb4 : Below w2.heap.size w2 W3 := by rw [hW3]; exact (Below.refl _ _).alloc (Nat.le_refl _) _
  have hx3 := hx2.to hb4
  have hy3 : Bx W3 w2.heap.size (tskC A' nn c' 0 rg0) := by rw [hW3]; exact Bx.new _ _ _ _ rfl
  have hb5 := bt hb3 hb4
  clear hW3 hx2
  have a0 : (_ : Option Value) = some (.slice A' nn c') := hy3.cell 0
  have a1 : (_ : Option Value) = some (.int .i64 (0:Int)) := hy3.cell 1
  have a2 : (_ : Option Value) = some (.int .u64 (rg0 0)) := hy3.cell 2
  have a3 : (_ : Option Value) = some (.int .u64 (rg0 1)) := hy3.cell 3
  have a4 : (_ : Option Value) = some (.int .u64 (rg0 2)) := hy3.cell 4
  have a5 : (_ : Option Value) = some (.int .u64 (rg0 3)) := hy3.cell 5
  have a6 : (_ : Option Value) = some (.int .u64 (rg0 4)) := hy3.cell 6
  have a7 : (_ : Option Value) = some (.int .u64 (rg0 5)) := hy3.cell 7
  have a8 : (_ : Option Value) = some (.int .u64 (rg0 6)) := hy3.cell 8
  have a9 : (_ : Option Value) = some (.int .u64 (rg0 7)) := hy3.cell 9
  have e0 : (_ : Option Value) = some (.slice none 0 0) := hx3.cell 0
  have ef0 := hx3.frozen 0
  have e1 : (_ : Option Value) = some (.int .i64 (0:Int)) := hx3.cell 1
  have ef1 := hx3.frozen 1
  have e2 : (_ : Option Value) = some (.int .u64 (rg0 0)) := hx3.cell 2
  have ef2 := hx3.frozen 2
  have e3 : (_ : Option Value) = some (.int .u64 (rg0 1)) := hx3.cell 3
  have ef3 := hx3.frozen 3
  have e4 : (_ : Option Value) = some (.int .u64 (rg0 2)) := hx3.cell 4
  have ef4 := hx3.frozen 4
  have e5 : (_ : Option Value) = some (.int .u64 (rg0 3)) := hx3.cell 5
  have ef5 := hx3.frozen 5
  have e6 : (_ : Option Value) = some (.int .u64 (rg0 4)) := hx3.cell 6
  have ef6 := hx3.frozen 6
  have e7 : (_ : Option Value) = some (.int .u64 (rg0 5)) := hx3.cell 7
  have ef7 := hx3.frozen 7
  have e8 : (_ : Option Value) = some (.int .u64 (rg0 6)) := hx3.cell 8
  have ef8 := hx3.frozen 8
  have e9 : (_ : Option Value) = some (.int .u64 (rg0 7)) := hx3.cell 9
  have ef9 := hx3.frozen 9
  have hzF := hx3.ten (.slice A' nn c') (.int .i64 (0:Int)) (.int .u64 (rg0 0)) (.int .u64 (rg0 1)) (.int .u64 (rg0 2)) (.int .u64 (rg0 3)) (.int .u64 (rg0 4)) (.int .u64 (rg0 5)) (.int .u64 (rg0 6)) (.int .u64 (rg0 7))
  have hbF := below_ten (g := w.heap.size) hb5 (Nat.le_refl _) (.slice A' nn c') (.int .i64 (0:Int)) (.int .u64 (rg0 0)) (.int .u64 (rg0 1)) (.int .u64 (rg0 2)) (.int .u64 (rg0 3)) (.int .u64 (rg0 4)) (.int .u64 (rg0 5)) (.int .u64 (rg0 6)) (.int .u64 (rg0 7))
  have HFX := hide hzF
  have HBF := hide hbF
  clear hx3 hy3 hb3 hb4 hb5 hzF hbF
  go_wp2
  have x0 := (unhide HFX).cell 0
  have x1 := (unhide HFX).cell 1
  have x2 := (unhide HFX).cell 2
  have x3 := (unhide HFX).cell 3
  have x4 := (unhide HFX).cell 4
  have x5 := (unhide HFX).cell 5
  have x6 := (unhide HFX).cell 6
  have x7 := (unhide HFX).cell 7
  have x8 := (unhide HFX).cell 8
  have x9 := (unhide HFX).cell 9
  refine bodyPost_ret (v := .tuple #[.agg #[.slice A' nn c', .int .i64 (0:Int), .int .u64 (rg0 0), .int .u64 (rg0 1), .int .u64 (rg0 2), .int .u64 (rg0 3), .int .u64 (rg0 4), .int .u64 (rg0 5), .int .u64 (rg0 6), .int .u64 (rg0 7)], .bool false]) (by simp [results, Try.results40, go_sem, x0, x1, x2, x3, x4, x5, x6, x7, x8, x9]) rfl ⟨⟨A', nn, c', rfl⟩, HBF.out⟩

set_option maxRecDepth 100000 in
set_option maxHeartbeats 4000000 in
theorem halts_any (hr : Rd w w.heap.size 5 A n (l.flatMap Ins.cu)) {n' : Nat} :
    Calls Try.prog 41 #[tskV A' n' c' nx r, .slice A n c] w fun e w' => e = .returned (.bool (haltB l nx)) ∧ Below w.heap.size w w' := by
  have hln := hr.lenU
  have hb0 : Below w.heap.size w (w.alloc (.cells (tskC A' n' c' nx r) 28)) := (Below.refl _ _).alloc (Nat.le_refl _) _
  have hx0 : Bx (w.alloc (.cells (tskC A' n' c' nx r) 28)) w.heap.size (tskC A' n' c' nx r) := Bx.new _ _ _ _ rfl
  have a1 := hx0.cell 1
  have hr0 := hr.to hb0
  simp only [tskV, tskC] at *
  by_cases hlt : nx < n
  · obtain ⟨b, o, x, rfl, hbl, hx, g0, g1, g2, g3, g4⟩ := hr0.insU hlt
    have e1 : haltB l nx = (x.op == 0) := by
      unfold haltB
      rw [hx]
      simp only
      rw [Bool.eq_iff_iff]
      simp
    rw [e1]
    have hd : decide (n ≤ nx) = false := decide_eq_false (by omega)
    clear hr hr0 hx0 hx e1 hln
    go_enter Try.func41, Try.ntmps41
    go_wp2
    go_ret
    refine ⟨?_, hb0⟩
    first | rfl | (congr 2)
  · have e1 : haltB l nx = true := by unfold haltB; rw [List.getElem?_eq_none (by omega)]
    rw [e1]
    have hd : decide (n ≤ nx) = true := decide_eq_true (by omega)
    clear hr hr0 hx0 e1 hln
    go_enter Try.func41, Try.ntmps41
    go_wp2
    go_ret
    exact ⟨rfl, hb0⟩

set_option maxRecDepth 100000 in
set_option maxHeartbeats 4000000 in
theorem steps_any (hp : Prog l) (hr : Rd w w.heap.size 5 A n (l.flatMap Ins.cu)) (x : Res) (hx : x.ok) :
    Calls Try.prog 42 #[tskV A n c nx r, resV x.e x.v x.h] w fun e w' => e = .returned (tskV A n c (pN l nx r) (pR l nx r x)) ∧ Below w.heap.size w w' := by
  have hln := hr.lenU
  have hle := hp.le
  have hn64 : n ≤ 1000 := by omega
  have HR := hide hr
  have hW := fun w h => wants_any (A := A) (n := n) (c := c) (nx := nx) (r := r) (w := w) (l := l) hp h
  obtain ⟨⟨p0, p1, p2, p3, p4, p5⟩, hq⟩ : ∃ q, wP l nx r = q := ⟨_, rfl⟩
  rw [hq] at hW
  obtain ⟨cb, hcb⟩ : ∃ cb, wB l nx = cb := ⟨_, rfl⟩
  rw [hcb] at hW
  have hS := fun w h => step_any (A := A) (n := n) (c := c) (nx := nx) (r := r) (w := w) (l := l) hp h hn64
  have hT := fun w h hc => takes_any (A := A) (n := n) (c := c) (nx := nx) (r := r) (w := w) (l := l) hp h hc x.e x.v x.h hx.2 hn64
  have hfin : pN l nx r = (if cb = true then tN l nx else sN l nx r) ∧ pR l nx r x = (if cb = true then tR l nx r x.e x.v x.h else sR l nx r) := by unfold pN pR; rw [hcb]; exact ⟨rfl, rfl⟩
  rw [hfin.1, hfin.2]
  have HCB := Lib.hid hcb
  obtain ⟨xe, xv, xh⟩ := x
  simp only [tskV, tskC, resV, callP, callV] at hW hS hT ⊢
  have HW := hide hW
  have HS := hide hS
  have HT := hide hT
  clear hW hS hT hq hcb hr hfin hln hle hx
  cases cb
  · simp only [Bool.false_eq_true, if_false]
    go_enter Try.func42, Try.ntmps42
    go_upto_region 1 with fail
    refine nameW ?_
    intro W0 hW0
    have hb0 : Below w.heap.size w W0 := by rw [hW0]; exact (((Below.refl _ _).alloc (Nat.le_refl _) _).alloc (by simp) _).alloc (by simp; omega) _
    have hx0 : Bx W0 w.heap.size (tskC A n c nx r) := by rw [hW0]; exact ((Bx.new _ _ _ _ rfl).alloc _).alloc _
    have hz0 : Bx W0 (w.heap.size + 1 + 1) (tskC none 0 0 0 rg0) := by rw [hW0]; exact Bx.new _ _ _ _ (by simp)
    have hr0 := (unhide HR).to hb0
    clear hW0 HR
    have a0 : (_ : Option Value) = some (.slice A n c) := hx0.cell 0
    have a1 : (_ : Option Value) = some (.int .i64 nx) := hx0.cell 1
    have a2 : (_ : Option Value) = some (.int .u64 (r 0)) := hx0.cell 2
    have a3 : (_ : Option Value) = some (.int .u64 (r 1)) := hx0.cell 3
    have a4 : (_ : Option Value) = some (.int .u64 (r 2)) := hx0.cell 4
    have a5 : (_ : Option Value) = some (.int .u64 (r 3)) := hx0.cell 5
    have a6 : (_ : Option Value) = some (.int .u64 (r 4)) := hx0.cell 6
    have a7 : (_ : Option Value) = some (.int .u64 (r 5)) := hx0.cell 7
    have a8 : (_ : Option Value) = some (.int .u64 (r 6)) := hx0.cell 8
    have a9 : (_ : Option Value) = some (.int .u64 (r 7)) := hx0.cell 9
    go_wp2_with fail
    refine (unhide HW _ hr0).mono ?_
    rintro e w1 ⟨rfl, hb1⟩
    clear a0 a1 a2 a3 a4 a5 a6 a7 a8 a9
    go_upto_region 2 with fail
    refine nameW ?_
    intro W1 hW1
    have hby : Below w1.heap.size w1 W1 := by rw [hW1]; exact (Below.refl _ _).alloc (Nat.le_refl _) _
    have hx1 := (hx0.to hb1).to hby
    have hz1 := (hz0.to hb1).to hby
    have hr1 := (hr0.to hb1).to hby
    have hb2 := bt (bt hb0 hb1) hby
    clear hW1 hx0 hz0 hr0 hb0 hb1 hby
    have a0 : (_ : Option Value) = some (.slice A n c) := hx1.cell 0
    have a1 : (_ : Option Value) = some (.int .i64 nx) := hx1.cell 1
    have a2 : (_ : Option Value) = some (.int .u64 (r 0)) := hx1.cell 2
    have a3 : (_ : Option Value) = some (.int .u64 (r 1)) := hx1.cell 3
    have a4 : (_ : Option Value) = some (.int .u64 (r 2)) := hx1.cell 4
    have a5 : (_ : Option Value) = some (.int .u64 (r 3)) := hx1.cell 5
    have a6 : (_ : Option Value) = some (.int .u64 (r 4)) := hx1.cell 6
    have a7 : (_ : Option Value) = some (.int .u64 (r 5)) := hx1.cell 7
    have a8 : (_ : Option Value) = some (.int .u64 (r 6)) := hx1.cell 8
    have a9 : (_ : Option Value) = some (.int .u64 (r 7)) := hx1.cell 9
    go_wp2_with fail
    refine (unhide HS _ hr1).mono ?_
    rintro e w2 ⟨rfl, hb1⟩
    obtain ⟨N, hN⟩ : ∃ q, sN l nx r = q := ⟨_, rfl⟩
    obtain ⟨R, hR⟩ : ∃ q, sR l nx r = q := ⟨_, rfl⟩
    rw [hN, hR]
    have hz2 := hz1.to hb1
    have hb3 := bt hb2 hb1
    have HNN := Lib.hid hN
    have HRR := Lib.hid hR
    clear a0 a1 a2 a3 a4 a5 a6 a7 a8 a9 hx1 hz1 hr1 hb2 hb1 hN hR
    have e0 : (_ : Option Value) = some (.slice none 0 0) := hz2.cell 0
    have ef0 := hz2.frozen 0
    have e1 : (_ : Option Value) = some (.int .i64 (0:Int)) := hz2.cell 1
    have ef1 := hz2.frozen 1
    have e2 : (_ : Option Value) = some (.int .u64 (rg0 0)) := hz2.cell 2
    have ef2 := hz2.frozen 2
    have e3 : (_ : Option Value) = some (.int .u64 (rg0 1)) := hz2.cell 3
    have ef3 := hz2.frozen 3
    have e4 : (_ : Option Value) = some (.int .u64 (rg0 2)) := hz2.cell 4
    have ef4 := hz2.frozen 4
    have e5 : (_ : Option Value) = some (.int .u64 (rg0 3)) := hz2.cell 5
    have ef5 := hz2.frozen 5
    have e6 : (_ : Option Value) = some (.int .u64 (rg0 4)) := hz2.cell 6
    have ef6 := hz2.frozen 6
    have e7 : (_ : Option Value) = some (.int .u64 (rg0 5)) := hz2.cell 7
    have ef7 := hz2.frozen 7
    have e8 : (_ : Option Value) = some (.int .u64 (rg0 6)) := hz2.cell 8
    have ef8 := hz2.frozen 8
    have e9 : (_ : Option Value) = some (.int .u64 (rg0 7)) := hz2.cell 9
    have ef9 := hz2.frozen 9
    have hzF := hz2.ten (.slice A n c) (.int .i64 (N:Int)) (.int .u64 (R 0)) (.int .u64 (R 1)) (.int .u64 (R 2)) (.int .u64 (R 3)) (.int .u64 (R 4)) (.int .u64 (R 5)) (.int .u64 (R 6)) (.int .u64 (R 7))
    have hbF := below_ten (g := w.heap.size + 1 + 1) hb3 (by omega) (.slice A n c) (.int .i64 (N:Int)) (.int .u64 (R 0)) (.int .u64 (R 1)) (.int .u64 (R 2)) (.int .u64 (R 3)) (.int .u64 (R 4)) (.int .u64 (R 5)) (.int .u64 (R 6)) (.int .u64 (R 7))
    have HFX := hide hzF
    have HBF := hide hbF
    clear hz2 hb3 hzF hbF
    go_wp2
    have x0 := (unhide HFX).cell 0
    have x1 := (unhide HFX).cell 1
    have x2 := (unhide HFX).cell 2
    have x3 := (unhide HFX).cell 3
    have x4 := (unhide HFX).cell 4
    have x5 := (unhide HFX).cell 5
    have x6 := (unhide HFX).cell 6
    have x7 := (unhide HFX).cell 7
    have x8 := (unhide HFX).cell 8
    have x9 := (unhide HFX).cell 9
    refine bodyPost_ret (v := .agg #[.slice A n c, .int .i64 (N:Int), .int .u64 (R 0), .int .u64 (R 1), .int .u64 (R 2), .int .u64 (R 3), .int .u64 (R 4), .int .u64 (R 5), .int .u64 (R 6), .int .u64 (R 7)]) (by simp [results, Try.results42, go_sem, x0, x1, x2, x3, x4, x5, x6, x7, x8, x9]) rfl ⟨?_, HBF.out⟩
    rw [HNN.out, HRR.out]
  · simp only [if_true]
    go_enter Try.func42, Try.ntmps42
    go_upto_region 1 with fail
    refine nameW ?_
    intro W0 hW0
    have hb0 : Below w.heap.size w W0 := by rw [hW0]; exact (((Below.refl _ _).alloc (Nat.le_refl _) _).alloc (by simp) _).alloc (by simp; omega) _
    have hx0 : Bx W0 w.heap.size (tskC A n c nx r) := by rw [hW0]; exact ((Bx.new _ _ _ _ rfl).alloc _).alloc _
    have hy0 : Bx W0 (w.heap.size + 1) #[.int .i64 xe, .int .u64 xv, .int .u32 xh] := by rw [hW0]; exact (Bx.new _ _ _ _ (by simp)).alloc _
    have hz0 : Bx W0 (w.heap.size + 1 + 1) (tskC none 0 0 0 rg0) := by rw [hW0]; exact Bx.new _ _ _ _ (by simp)
    have hr0 := (unhide HR).to hb0
    clear hW0 HR
    have a0 : (_ : Option Value) = some (.slice A n c) := hx0.cell 0
    have a1 : (_ : Option Value) = some (.int .i64 nx) := hx0.cell 1
    have a2 : (_ : Option Value) = some (.int .u64 (r 0)) := hx0.cell 2
    have a3 : (_ : Option Value) = some (.int .u64 (r 1)) := hx0.cell 3
    have a4 : (_ : Option Value) = some (.int .u64 (r 2)) := hx0.cell 4
    have a5 : (_ : Option Value) = some (.int .u64 (r 3)) := hx0.cell 5
    have a6 : (_ : Option Value) = some (.int .u64 (r 4)) := hx0.cell 6
    have a7 : (_ : Option Value) = some (.int .u64 (r 5)) := hx0.cell 7
    have a8 : (_ : Option Value) = some (.int .u64 (r 6)) := hx0.cell 8
    have a9 : (_ : Option Value) = some (.int .u64 (r 7)) := hx0.cell 9
    go_wp2_with fail
    refine (unhide HW _ hr0).mono ?_
    rintro e w1 ⟨rfl, hb1⟩
    clear a0 a1 a2 a3 a4 a5 a6 a7 a8 a9
    go_upto_region 2 with fail
    refine nameW ?_
    intro W1 hW1
    have hby : Below w1.heap.size w1 W1 := by rw [hW1]; exact (Below.refl _ _).alloc (Nat.le_refl _) _
    have hx1 := (hx0.to hb1).to hby
    have hy1 := (hy0.to hb1).to hby
    have hz1 := (hz0.to hb1).to hby
    have hr1 := (hr0.to hb1).to hby
    have hb2 := bt (bt hb0 hb1) hby
    clear hW1 hx0 hy0 hz0 hr0 hb0 hb1 hby
    have a0 : (_ : Option Value) = some (.slice A n c) := hx1.cell 0
    have a1 : (_ : Option Value) = some (.int .i64 nx) := hx1.cell 1
    have a2 : (_ : Option Value) = some (.int .u64 (r 0)) := hx1.cell 2
    have a3 : (_ : Option Value) = some (.int .u64 (r 1)) := hx1.cell 3
    have a4 : (_ : Option Value) = some (.int .u64 (r 2)) := hx1.cell 4
    have a5 : (_ : Option Value) = some (.int .u64 (r 3)) := hx1.cell 5
    have a6 : (_ : Option Value) = some (.int .u64 (r 4)) := hx1.cell 6
    have a7 : (_ : Option Value) = some (.int .u64 (r 5)) := hx1.cell 7
    have a8 : (_ : Option Value) = some (.int .u64 (r 6)) := hx1.cell 8
    have a9 : (_ : Option Value) = some (.int .u64 (r 7)) := hx1.cell 9
    have y0 := hy1.cell 0
    have y1 := hy1.cell 1
    have y2 := hy1.cell 2
    go_wp2_with fail
    refine (unhide HT _ hr1 HCB.out).mono ?_
    rintro e w2 ⟨rfl, hb1⟩
    obtain ⟨N, hN⟩ : ∃ q, tN l nx = q := ⟨_, rfl⟩
    obtain ⟨R, hR⟩ : ∃ q, tR l nx r xe xv xh = q := ⟨_, rfl⟩
    rw [hN, hR]
    have hz2 := hz1.to hb1
    have hb3 := bt hb2 hb1
    have HNN := Lib.hid hN
    have HRR := Lib.hid hR
    clear a0 a1 a2 a3 a4 a5 a6 a7 a8 a9 y0 y1 y2 hx1 hy1 hz1 hr1 hb2 hb1 hN hR
    have e0 : (_ : Option Value) = some (.slice none 0 0) := hz2.cell 0
    have ef0 := hz2.frozen 0
    have e1 : (_ : Option Value) = some (.int .i64 (0:Int)) := hz2.cell 1
    have ef1 := hz2.frozen 1
    have e2 : (_ : Option Value) = some (.int .u64 (rg0 0)) := hz2.cell 2
    have ef2 := hz2.frozen 2
    have e3 : (_ : Option Value) = some (.int .u64 (rg0 1)) := hz2.cell 3
    have ef3 := hz2.frozen 3
    have e4 : (_ : Option Value) = some (.int .u64 (rg0 2)) := hz2.cell 4
    have ef4 := hz2.frozen 4
    have e5 : (_ : Option Value) = some (.int .u64 (rg0 3)) := hz2.cell 5
    have ef5 := hz2.frozen 5
    have e6 : (_ : Option Value) = some (.int .u64 (rg0 4)) := hz2.cell 6
    have ef6 := hz2.frozen 6
    have e7 : (_ : Option Value) = some (.int .u64 (rg0 5)) := hz2.cell 7
    have ef7 := hz2.frozen 7
    have e8 : (_ : Option Value) = some (.int .u64 (rg0 6)) := hz2.cell 8
    have ef8 := hz2.frozen 8
    have e9 : (_ : Option Value) = some (.int .u64 (rg0 7)) := hz2.cell 9
    have ef9 := hz2.frozen 9
    have hzF := hz2.ten (.slice A n c) (.int .i64 (N:Int)) (.int .u64 (R 0)) (.int .u64 (R 1)) (.int .u64 (R 2)) (.int .u64 (R 3)) (.int .u64 (R 4)) (.int .u64 (R 5)) (.int .u64 (R 6)) (.int .u64 (R 7))
    have hbF := below_ten (g := w.heap.size + 1 + 1) hb3 (by omega) (.slice A n c) (.int .i64 (N:Int)) (.int .u64 (R 0)) (.int .u64 (R 1)) (.int .u64 (R 2)) (.int .u64 (R 3)) (.int .u64 (R 4)) (.int .u64 (R 5)) (.int .u64 (R 6)) (.int .u64 (R 7))
    have HFX := hide hzF
    have HBF := hide hbF
    clear hz2 hb3 hzF hbF
    go_wp2
    have x0 := (unhide HFX).cell 0
    have x1 := (unhide HFX).cell 1
    have x2 := (unhide HFX).cell 2
    have x3 := (unhide HFX).cell 3
    have x4 := (unhide HFX).cell 4
    have x5 := (unhide HFX).cell 5
    have x6 := (unhide HFX).cell 6
    have x7 := (unhide HFX).cell 7
    have x8 := (unhide HFX).cell 8
    have x9 := (unhide HFX).cell 9
    refine bodyPost_ret (v := .agg #[.slice A n c, .int .i64 (N:Int), .int .u64 (R 0), .int .u64 (R 1), .int .u64 (R 2), .int .u64 (R 3), .int .u64 (R 4), .int .u64 (R 5), .int .u64 (R 6), .int .u64 (R 7)]) (by simp [results, Try.results42, go_sem, x0, x1, x2, x3, x4, x5, x6, x7, x8, x9]) rfl ⟨?_, HBF.out⟩
    rw [HNN.out, HRR.out]

set_option maxRecDepth 100000 in
set_option maxHeartbeats 4000000 in
theorem result_any {A2 : Option Addr} {n2 c2 : Nat} {L : List Res} (hr : Rd w w.heap.size 3 A2 n2 (L.flatMap Res.cs)) (i : Nat) (hi : i ≤ 1000) :
    Calls Try.prog 43 #[.slice A2 n2 c2, .int .i64 i] w fun e w' => e = .returned (resV (resAt L i).e (resAt L i).v (resAt L i).h) ∧ Below w.heap.size w w' := by
  have hln := hr.lenR
  have hb0 : Below w.heap.size w (w.alloc (.cells #[.int .i64 0, .int .u64 0, .int .u32 0] 53)) := (Below.refl _ _).alloc (Nat.le_refl _) _
  have hr0 := hr.to hb0
  by_cases h0 : n2 = 0
  · subst h0
    have e1 : resAt L i = ⟨0, 0, 0⟩ := by unfold resAt; rw [List.getElem?_eq_none (by omega)]; rfl
    rw [e1]
    unfold resV
    clear hr hr0 e1 hln
    go_enter Try.func43, Try.ntmps43
    go_wp2
    refine bodyPost_ret (v := .agg #[.int .i64 0, .int .u64 0, .int .u32 0]) (by simp [results, Try.results43, go_sem]) rfl ⟨rfl, hb0⟩
  · have hm : i % n2 < n2 := Nat.mod_lt _ (by omega)
    obtain ⟨b, o, x, rfl, hbl, hx, g0, g1, g2⟩ := hr0.res hm
    have e1 : resAt L i = x := by unfold resAt; rw [hln, hx]; rfl
    rw [e1]
    obtain ⟨xe, xv, xh⟩ := x
    simp only at g0 g1 g2
    have ht : (i : Int).tmod (n2 : Int) = ((i % n2 : Nat) : Int) := by rw [Int.tmod_eq_emod_of_nonneg (by omega)]; omega
    have ht2 : (i : Int) % (n2 : Int) = ((i % n2 : Nat) : Int) := by omega
    have hj : ((i % n2 : Nat) : Int) < n2 := by omega
    obtain ⟨q, hq⟩ : ∃ q, i % n2 = q := ⟨_, rfl⟩
    rw [hq] at g0 g1 g2 ht ht2 hj hm
    have hz : ((n2 : Int) == 0) = false := by simp; omega
    have hz2 : decide ((n2 : Int) = 0) = false := decide_eq_false (by omega)
    have hz3 : ¬ (n2 : Int) = 0 := by omega
    have hz4 : decide (n2 = 0) = false := decide_eq_false h0
    unfold resV
    clear hr hr0 e1 hln hx hq
    go_enter Try.func43, Try.ntmps43
    go_wp2
    refine bodyPost_ret (v := .agg #[.int .i64 xe, .int .u64 xv, .int .u32 xh]) (by simp [results, Try.results43, go_sem]) rfl ⟨rfl, ?_⟩
    exact (Below.refl _ _).alloc (Nat.le_refl _) _
end
end Go.Proofs.Ytmiagijgecgfoaa
