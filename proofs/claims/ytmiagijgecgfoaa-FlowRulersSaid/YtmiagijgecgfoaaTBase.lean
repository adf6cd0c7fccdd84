/-
  What the walks of layer 14 lean on: a task by value. No function of the program.
-/
import Derived.Test.YtmiagijgecgfoaaCodeRefDec
import Derived.Test.YtmiagijgecgfoaaTEnc
import Derived.Test.YtmiagijgecgfoaaAppend
import Derived.Deep.QuietTactic
import Derived.BigQuiet
import Derived.Deep.RegionWith
import Derived.Deep.RegionHeld3
import Derived.IntWalk
namespace Go.Proofs.Ytmiagijgecgfoaa
open Go.RowKit

theorem bt {w w1 w2 : World} (h : Below w.heap.size w w1) (h2 : Below w1.heap.size w1 w2) : Below w.heap.size w w2 := h.trans (h2.mono h.size)
theorem Rd.to {w w' : World} {size n : Nat} {A : Option Addr} {xs : List Value} (h : Rd w w.heap.size size A n xs) (hb : Below w.heap.size w w') : Rd w' w'.heap.size size A n xs := (h.below hb).mono hb.size
theorem below_drewN {B : Nat} {a w : World} (h : Below B a w) (n : Nat) : Below B a (w.drewN n) := ⟨h.os, h.tape, h.output, h.size, h.block⟩
theorem hide {p : Prop} (h : p) : Hid p := h
theorem unhide {p : Prop} (h : Hid p) : p := h

/-- a task's cells: its program, the next instruction, its registers -/
def tskC (A : Option Addr) (n c nx : Nat) (r : Nat → Int) : Array Value :=
  #[.slice A n c, .int .i64 nx, .int .u64 (r 0), .int .u64 (r 1), .int .u64 (r 2), .int .u64 (r 3), .int .u64 (r 4), .int .u64 (r 5), .int .u64 (r 6), .int .u64 (r 7)]
def tskV (A : Option Addr) (n c nx : Nat) (r : Nat → Int) : Value := .agg (tskC A n c nx r)
theorem tsk_get (A : Option Addr) (n c nx : Nat) (r : Nat → Int) (j : Nat) (h : j < 8) : (tskC A n c nx r)[2 + j]? = some (.int .u64 (r j)) := by
  match j, h with
  | 0, _ | 1, _ | 2, _ | 3, _ | 4, _ | 5, _ | 6, _ | 7, _ => rfl
/-- a register is another one -/
def upd (r : Nat → Int) (j : Nat) (x : Int) : Nat → Int := fun i => if i = j then x else r i
theorem tsk_set (A : Option Addr) (n c nx : Nat) (r : Nat → Int) (j : Nat) (x : Int) (h : j < 8) : (tskC A n c nx r).setIfInBounds (2 + j) (.int .u64 x) = tskC A n c nx (upd r j x) := by
  match j, h with
  | 0, _ | 1, _ | 2, _ | 3, _ | 4, _ | 5, _ | 6, _ | 7, _ => rfl
theorem tsk_next (A : Option Addr) (n c nx : Nat) (r : Nat → Int) (k : Nat) : (tskC A n c nx r).setIfInBounds 1 (.int .i64 k) = tskC A n c k r := rfl
section
variable {w w0 : World} {g : Nat}
/-- a call stored -/
theorem Bx.six {a0 a1 a2 a3 a4 a5 : Value} (h : Bx w g #[a0, a1, a2, a3, a4, a5]) (v0 v1 v2 v3 v4 v5 : Value) :
    Bx ((((((w.setCell ⟨g, 0, none⟩ v0).setCell ⟨g, 1, none⟩ v1).setCell ⟨g, 2, none⟩ v2).setCell ⟨g, 3, none⟩ v3).setCell ⟨g, 4, none⟩ v4).setCell ⟨g, 5, none⟩ v5) g #[v0, v1, v2, v3, v4, v5] := by
  have h6 := (((((h.set_ 0 v0).set_ 1 v1).set_ 2 v2).set_ 3 v3).set_ 4 v4).set_ 5 v5
  simp only [List.setIfInBounds_toArray, List.set_cons_zero, List.set_cons_succ] at h6
  exact h6
theorem below_six (h : Below w0.heap.size w0 w) (hg : w0.heap.size ≤ g) (v0 v1 v2 v3 v4 v5 : Value) :
    Below w0.heap.size w0 ((((((w.setCell ⟨g, 0, none⟩ v0).setCell ⟨g, 1, none⟩ v1).setCell ⟨g, 2, none⟩ v2).setCell ⟨g, 3, none⟩ v3).setCell ⟨g, 4, none⟩ v4).setCell ⟨g, 5, none⟩ v5) :=
  (((((h.setCell (p := ⟨g, 0, none⟩) hg v0).setCell (p := ⟨g, 1, none⟩) hg v1).setCell (p := ⟨g, 2, none⟩) hg v2).setCell (p := ⟨g, 3, none⟩) hg v3).setCell (p := ⟨g, 4, none⟩) hg v4).setCell (p := ⟨g, 5, none⟩) hg v5
/-- a task stored -/
theorem Bx.ten {a0 a1 a2 a3 a4 a5 a6 a7 a8 a9 : Value} (h : Bx w g #[a0, a1, a2, a3, a4, a5, a6, a7, a8, a9]) (v0 v1 v2 v3 v4 v5 v6 v7 v8 v9 : Value) :
    Bx ((((((((((w.setCell ⟨g, 0, none⟩ v0).setCell ⟨g, 1, none⟩ v1).setCell ⟨g, 2, none⟩ v2).setCell ⟨g, 3, none⟩ v3).setCell ⟨g, 4, none⟩ v4).setCell ⟨g, 5, none⟩ v5).setCell ⟨g, 6, none⟩ v6).setCell ⟨g, 7, none⟩ v7).setCell ⟨g, 8, none⟩ v8).setCell ⟨g, 9, none⟩ v9) g
      #[v0, v1, v2, v3, v4, v5, v6, v7, v8, v9] := by
  have h6 := (((((((((h.set_ 0 v0).set_ 1 v1).set_ 2 v2).set_ 3 v3).set_ 4 v4).set_ 5 v5).set_ 6 v6).set_ 7 v7).set_ 8 v8).set_ 9 v9
  simp only [List.setIfInBounds_toArray, List.set_cons_zero, List.set_cons_succ] at h6
  exact h6
theorem below_ten (h : Below w0.heap.size w0 w) (hg : w0.heap.size ≤ g) (v0 v1 v2 v3 v4 v5 v6 v7 v8 v9 : Value) :
    Below w0.heap.size w0 ((((((((((w.setCell ⟨g, 0, none⟩ v0).setCell ⟨g, 1, none⟩ v1).setCell ⟨g, 2, none⟩ v2).setCell ⟨g, 3, none⟩ v3).setCell ⟨g, 4, none⟩ v4).setCell ⟨g, 5, none⟩ v5).setCell ⟨g, 6, none⟩ v6).setCell ⟨g, 7, none⟩ v7).setCell ⟨g, 8, none⟩ v8).setCell ⟨g, 9, none⟩ v9) :=
  (((((((((h.setCell (p := ⟨g, 0, none⟩) hg v0).setCell (p := ⟨g, 1, none⟩) hg v1).setCell (p := ⟨g, 2, none⟩) hg v2).setCell (p := ⟨g, 3, none⟩) hg v3).setCell (p := ⟨g, 4, none⟩) hg v4).setCell (p := ⟨g, 5, none⟩) hg v5).setCell (p := ⟨g, 6, none⟩) hg v6).setCell (p := ⟨g, 7, none⟩) hg v7).setCell (p := ⟨g, 8, none⟩) hg v8).setCell (p := ⟨g, 9, none⟩) hg v9
end
/-- what lies at a place, whatever it is -/
def cellD (w : World) (p : Addr) : Value := (w.cell? p).getD undef
theorem cellD_of {w : World} {p : Addr} (h : (w.cell? p).isSome = true) : w.cell? p = some (cellD w p) := by
  unfold cellD
  cases hc : w.cell? p with
  | none => rw [hc] at h; cases h
  | some v => rfl
theorem isSome_of {w : World} {p : Addr} {v : Value} (h : w.cell? p = some v) : (w.cell? p).isSome = true := by rw [h]; rfl
theorem isSome_set {w : World} {p q : Addr} {v : Value} (h : (w.cell? p).isSome = true) : ((w.setCell q v).cell? p).isSome = true := by
  by_cases he : q = p
  · subst he
    rw [World.cell?_setCell_same _ _ _ (cellD_of h)]
    rfl
  · rw [World.cell?_setCell_other _ _ _ _ he]
    exact h
/-- room for a call's six cells -/
abbrev Six (g : Nat) (w : World) : Prop := w.cell? ⟨g, 0, none⟩ = some (cellD w ⟨g, 0, none⟩) ∧ w.cell? ⟨g, 1, none⟩ = some (cellD w ⟨g, 1, none⟩) ∧ w.cell? ⟨g, 2, none⟩ = some (cellD w ⟨g, 2, none⟩) ∧ w.cell? ⟨g, 3, none⟩ = some (cellD w ⟨g, 3, none⟩) ∧ w.cell? ⟨g, 4, none⟩ = some (cellD w ⟨g, 4, none⟩) ∧ w.cell? ⟨g, 5, none⟩ = some (cellD w ⟨g, 5, none⟩) ∧ w.frozen? ⟨g, 0, none⟩ = false ∧ w.frozen? ⟨g, 1, none⟩ = false ∧ w.frozen? ⟨g, 2, none⟩ = false ∧ w.frozen? ⟨g, 3, none⟩ = false ∧ w.frozen? ⟨g, 4, none⟩ = false ∧ w.frozen? ⟨g, 5, none⟩ = false
theorem Six.of {w : World} {g : Nat} {a0 a1 a2 a3 a4 a5 : Value} (h : Bx w g #[a0, a1, a2, a3, a4, a5]) : Six g w :=
  ⟨cellD_of (isSome_of (h.cell 0)), cellD_of (isSome_of (h.cell 1)), cellD_of (isSome_of (h.cell 2)), cellD_of (isSome_of (h.cell 3)), cellD_of (isSome_of (h.cell 4)), cellD_of (isSome_of (h.cell 5)), h.frozen 0, h.frozen 1, h.frozen 2, h.frozen 3, h.frozen 4, h.frozen 5⟩
theorem Six.to {w w' : World} {g : Nat} (h : Six g w) (hb : Below w.heap.size w w') : Six g w' := by
  obtain ⟨c0, c1, c2, c3, c4, c5, f0, f1, f2, f3, f4, f5⟩ := h
  have hg : g < w.heap.size := World.block_lt_of_cell? _ _ c0
  exact ⟨cellD_of (isSome_of ((hb.cell (p := ⟨g, 0, none⟩) hg).trans c0)), cellD_of (isSome_of ((hb.cell (p := ⟨g, 1, none⟩) hg).trans c1)), cellD_of (isSome_of ((hb.cell (p := ⟨g, 2, none⟩) hg).trans c2)), cellD_of (isSome_of ((hb.cell (p := ⟨g, 3, none⟩) hg).trans c3)),
    cellD_of (isSome_of ((hb.cell (p := ⟨g, 4, none⟩) hg).trans c4)), cellD_of (isSome_of ((hb.cell (p := ⟨g, 5, none⟩) hg).trans c5)), (hb.frozen (p := ⟨g, 0, none⟩) hg).trans f0, (hb.frozen (p := ⟨g, 1, none⟩) hg).trans f1, (hb.frozen (p := ⟨g, 2, none⟩) hg).trans f2,
    (hb.frozen (p := ⟨g, 3, none⟩) hg).trans f3, (hb.frozen (p := ⟨g, 4, none⟩) hg).trans f4, (hb.frozen (p := ⟨g, 5, none⟩) hg).trans f5⟩
theorem Six.set_ {w : World} {g : Nat} (h : Six g w) (q : Addr) (v : Value) : Six g (w.setCell q v) := by
  obtain ⟨c0, c1, c2, c3, c4, c5, f0, f1, f2, f3, f4, f5⟩ := h
  exact ⟨cellD_of (isSome_set (isSome_of c0)), cellD_of (isSome_set (isSome_of c1)), cellD_of (isSome_set (isSome_of c2)), cellD_of (isSome_set (isSome_of c3)), cellD_of (isSome_set (isSome_of c4)), cellD_of (isSome_set (isSome_of c5)),
    (World.frozen?_setCell _ _ _ _).trans f0, (World.frozen?_setCell _ _ _ _).trans f1, (World.frozen?_setCell _ _ _ _).trans f2, (World.frozen?_setCell _ _ _ _).trans f3, (World.frozen?_setCell _ _ _ _).trans f4, (World.frozen?_setCell _ _ _ _).trans f5⟩
/-- a model's call, by value -/
def callV (o : Int) (r s a b v : Int) : Value := .agg #[.int .u8 o, .int .u32 r, .int .u32 s, .int .u32 a, .int .u32 b, .int .u64 v]
end Go.Proofs.Ytmiagijgecgfoaa
