/-
  The walks of task.instr and task.reg.
-/
import Derived.Test.YtmiagijgecgfoaaTBase
namespace Go.Proofs.Ytmiagijgecgfoaa
open Go.RowKit

section
variable {l : List Ins} {A : Option Addr} {n c nx : Nat} {r : Nat → Int} {w : World}

set_option maxRecDepth 100000 in
set_option maxHeartbeats 2000000 in
theorem instr_in (hr : Rd w w.heap.size 5 A n (l.flatMap Ins.cu)) {x : Ins} (hx : l[nx]? = some x) :
    Calls Try.prog 46 #[tskV A n c nx r] w fun e w' => e = .returned (.tuple #[.agg #[.int .u8 x.op, .int .u8 x.a, .int .u8 x.b, .int .u8 x.c, .int .u16 x.n], .bool true]) ∧ Below w.heap.size w w' := by
  have hln := hr.lenU
  have hlt : nx < n := by have := (List.getElem?_eq_some_iff.1 hx).1; omega
  have hb0 : Below w.heap.size w ((w.alloc (.cells (tskC A n c nx r) 28)).alloc (.cells #[.int .u8 0, .int .u8 0, .int .u8 0, .int .u8 0, .int .u16 0] 85)) := ((Below.refl _ _).alloc (Nat.le_refl _) _).alloc (by simp) _
  have hx0 : Bx ((w.alloc (.cells (tskC A n c nx r) 28)).alloc (.cells #[.int .u8 0, .int .u8 0, .int .u8 0, .int .u8 0, .int .u16 0] 85)) w.heap.size (tskC A n c nx r) := (Bx.new _ _ _ _ rfl).alloc _
  have hr0 := hr.to hb0
  have c0 := hx0.cell 0
  have c1 := hx0.cell 1
  obtain ⟨b, o, y, rfl, hbl, hy, g0, g1, g2, g3, g4⟩ := hr0.insU hlt
  obtain rfl : x = y := Option.some.inj (hx.symm.trans hy)
  simp only [tskV, tskC] at *
  clear hr hx hy hr0 hx0 hln
  go_enter Try.func46, Try.ntmps46
  go_wp2
  refine bodyPost_ret (v := .tuple #[.agg #[.int .u8 x.op, .int .u8 x.a, .int .u8 x.b, .int .u8 x.c, .int .u16 x.n], .bool true]) (by simp [results, Try.results46, go_sem, *]) rfl ⟨rfl, ?_⟩
  exact ((Below.refl _ _).alloc (Nat.le_refl _) _).alloc (by simp) _

set_option maxRecDepth 100000 in
set_option maxHeartbeats 2000000 in
theorem instr_out (hnx : n ≤ nx) :
    Calls Try.prog 46 #[tskV A n c nx r] w fun e w' => e = .returned (.tuple #[.agg #[.int .u8 0, .int .u8 0, .int .u8 0, .int .u8 0, .int .u16 0], .bool false]) ∧ Below w.heap.size w w' := by
  have hb0 : Below w.heap.size w ((w.alloc (.cells (tskC A n c nx r) 28)).alloc (.cells #[.int .u8 0, .int .u8 0, .int .u8 0, .int .u8 0, .int .u16 0] 85)) := ((Below.refl _ _).alloc (Nat.le_refl _) _).alloc (by simp) _
  have hx0 : Bx ((w.alloc (.cells (tskC A n c nx r) 28)).alloc (.cells #[.int .u8 0, .int .u8 0, .int .u8 0, .int .u8 0, .int .u16 0] 85)) w.heap.size (tskC A n c nx r) := (Bx.new _ _ _ _ rfl).alloc _
  have c0 := hx0.cell 0
  have c1 := hx0.cell 1
  simp only [tskV, tskC] at *
  clear hx0
  go_enter Try.func46, Try.ntmps46
  go_wp2
  refine bodyPost_ret (v := .tuple #[.agg #[.int .u8 0, .int .u8 0, .int .u8 0, .int .u8 0, .int .u16 0], .bool false]) (by simp [results, Try.results46, go_sem, *]) rfl ⟨rfl, ?_⟩
  exact hb0

set_option maxRecDepth 100000 in
set_option maxHeartbeats 2000000 in
theorem reg_any (k : Nat) (hk : k < 8) :
    Calls Try.prog 47 #[tskV A n c nx r, .int .u8 k] w fun e w' => e = .returned (.int .u64 (r k)) ∧ Below w.heap.size w w' := by
  have hb0 : Below w.heap.size w (w.alloc (.cells (tskC A n c nx r) 28)) := (Below.refl _ _).alloc (Nat.le_refl _) _
  have hx0 : Bx (w.alloc (.cells (tskC A n c nx r) 28)) w.heap.size (tskC A n c nx r) := Bx.new _ _ _ _ rfl
  have hc := (hx0.cell (2 + k)).trans (tsk_get A n c nx r k hk)
  have hm : (k : Int) % 8 = k := by omega
  simp only [tskV, tskC] at *
  clear hx0
  go_enter Try.func47, Try.ntmps47
  go_wp2
  go_ret
  exact ⟨rfl, hb0⟩
end
end Go.Proofs.Ytmiagijgecgfoaa
