/-
  The walks of the six functions that task.Step makes.
-/
import Derived.Test.YtmiagijgecgfoaaTWants2
import Derived.Test.YtmiagijgecgfoaaTMap
namespace Go.Proofs.Ytmiagijgecgfoaa
open Go.RowKit

section
variable {A : Option Addr} {n c nx : Nat} {r : Nat → Int} {w : World} {gt gi gp gn ka kb kc : Nat} {xo xn : Int}

/-- what lies there when an instruction is done -/
structure Doing (A : Option Addr) (n c nx : Nat) (r : Nat → Int) (gt gi gp gn ka kb kc : Nat) (xo xn : Int) (w : World) : Prop where
  task : Bx w gt (tskC A n c nx r)
  ins : Bx w gi #[.int .u8 xo, .int .u8 ka, .int .u8 kb, .int .u8 kc, .int .u16 xn]
  ptr : Bx w gp #[.pointer (some ⟨gt, 2 + ka, none⟩)]
  next : Bx w gn #[.int .i64 ((nx : Int) + 1)]
theorem Doing.to {w' : World} (h : Doing A n c nx r gt gi gp gn ka kb kc xo xn w) (hb : Below w.heap.size w w') : Doing A n c nx r gt gi gp gn ka kb kc xo xn w' := ⟨h.task.to hb, h.ins.to hb, h.ptr.to hb, h.next.to hb⟩

set_option maxRecDepth 100000 in
set_option maxHeartbeats 2000000 in
theorem clos1 (h : Doing A n c nx r gt gi gp gn ka kb kc xo xn w) (hka : ka < 8) (hn1 : 0 ≤ xn) (hn2 : xn ≤ 65535) :
    Calls Try.prog 48 #[.pointer (some ⟨gi, 0, none⟩), .pointer (some ⟨gp, 0, none⟩)] w fun e w' => (∃ v, e = .returned v) ∧ w' = w.setCell ⟨gt, 2 + ka, none⟩ (.int .u64 xn) := by
  have p0 := h.ptr.cell 0
  have i4 := h.ins.cell 4
  have t2 := (h.task.cell (2 + ka)).trans (tsk_get A n c nx r ka hka)
  have tf := h.task.frozen (2 + ka)
  have hw : IntKind.u64.wrap xn = xn := IntWalk.u64_in _ (by omega)
  clear h
  go_enter Try.func48, Try.ntmps48
  go_wp2
  go_end0
  exact ⟨⟨_, rfl⟩, rfl⟩

set_option maxRecDepth 100000 in
set_option maxHeartbeats 2000000 in
theorem clos5 (h : Doing A n c nx r gt gi gp gn ka kb kc xo xn w) (hn1 : 0 ≤ xn) (hn2 : xn ≤ 65535) :
    Calls Try.prog 52 #[.pointer (some ⟨gi, 0, none⟩), .pointer (some ⟨gn, 0, none⟩)] w fun e w' => (∃ v, e = .returned v) ∧ w' = w.setCell ⟨gn, 0, none⟩ (.int .i64 xn) := by
  have p0 := h.next.cell 0
  have pf := h.next.frozen 0
  have i4 := h.ins.cell 4
  have hw : IntKind.i64.wrap xn = xn := IntWalk.i64_in _ (by omega)
  clear h
  go_enter Try.func52, Try.ntmps52
  go_wp2
  go_end0
  exact ⟨⟨_, rfl⟩, rfl⟩

set_option maxRecDepth 100000 in
set_option maxHeartbeats 2000000 in
theorem clos6_yes (h : Doing A n c nx r gt gi gp gn ka kb kc xo xn w) (hka : ka < 8) (hn1 : 0 ≤ xn) (hn2 : xn ≤ 65535) (hz : r ka ≠ 0) :
    Calls Try.prog 53 #[.pointer (some ⟨gp, 0, none⟩), .pointer (some ⟨gi, 0, none⟩), .pointer (some ⟨gn, 0, none⟩)] w fun e w' => (∃ v, e = .returned v) ∧ w' = w.setCell ⟨gn, 0, none⟩ (.int .i64 xn) := by
  have p0 := h.next.cell 0
  have pf := h.next.frozen 0
  have q0 := h.ptr.cell 0
  have i4 := h.ins.cell 4
  have t2 := (h.task.cell (2 + ka)).trans (tsk_get A n c nx r ka hka)
  have hw : IntKind.i64.wrap xn = xn := IntWalk.i64_in _ (by omega)
  have hb : (r ka == 0) = false := by simpa using hz
  have hb2 : (!(r ka == 0)) = true := by rw [hb]; rfl
  clear h
  go_enter Try.func53, Try.ntmps53
  go_wp2
  go_end0
  exact ⟨⟨_, rfl⟩, rfl⟩

set_option maxRecDepth 100000 in
set_option maxHeartbeats 2000000 in
theorem clos6_no (h : Doing A n c nx r gt gi gp gn ka kb kc xo xn w) (hka : ka < 8) (hz : r ka = 0) :
    Calls Try.prog 53 #[.pointer (some ⟨gp, 0, none⟩), .pointer (some ⟨gi, 0, none⟩), .pointer (some ⟨gn, 0, none⟩)] w fun e w' => (∃ v, e = .returned v) ∧ w' = w := by
  have q0 := h.ptr.cell 0
  have t2 := (h.task.cell (2 + ka)).trans (tsk_get A n c nx r ka hka)
  rw [hz] at t2
  clear h hz
  go_enter Try.func53, Try.ntmps53
  go_wp2
  go_end0
  exact ⟨⟨_, rfl⟩, rfl⟩
end
end Go.Proofs.Ytmiagijgecgfoaa
