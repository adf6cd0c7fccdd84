/-
  The walk of task.Wants.
-/
import Derived.Test.YtmiagijgecgfoaaTInstr
namespace Go.Proofs.Ytmiagijgecgfoaa
open Go.RowKit

theorem keepc {w w' : World} {p : Addr} {v : Value} (hb : Below w.heap.size w w') (h : w.cell? p = some v) : w'.cell? p = some v := (hb.cell (World.block_lt_of_cell? _ _ h)).trans h
/-- a task and an instruction lie there -/
abbrev TskAt (w0 : World) (g1 g4 : Nat) (A : Option Addr) (n c nx : Nat) (r : Nat → Int) (x : Ins) (w' : World) : Prop := w'.cell? ⟨g1, 0, none⟩ = some (.slice A n c) ∧ w'.cell? ⟨g1, 1, none⟩ = some (.int .i64 nx) ∧ w'.cell? ⟨g1, 2, none⟩ = some (.int .u64 (r 0)) ∧ w'.cell? ⟨g1, 3, none⟩ = some (.int .u64 (r 1)) ∧ w'.cell? ⟨g1, 4, none⟩ = some (.int .u64 (r 2)) ∧ w'.cell? ⟨g1, 5, none⟩ = some (.int .u64 (r 3)) ∧ w'.cell? ⟨g1, 6, none⟩ = some (.int .u64 (r 4)) ∧ w'.cell? ⟨g1, 7, none⟩ = some (.int .u64 (r 5)) ∧ w'.cell? ⟨g1, 8, none⟩ = some (.int .u64 (r 6)) ∧ w'.cell? ⟨g1, 9, none⟩ = some (.int .u64 (r 7)) ∧ w'.cell? ⟨g4, 0, none⟩ = some (.int .u8 x.op) ∧ w'.cell? ⟨g4, 1, none⟩ = some (.int .u8 x.a) ∧ w'.cell? ⟨g4, 2, none⟩ = some (.int .u8 x.b) ∧ w'.cell? ⟨g4, 3, none⟩ = some (.int .u8 x.c) ∧ w'.cell? ⟨g4, 4, none⟩ = some (.int .u16 x.n) ∧ Below w0.heap.size w0 w'
theorem TskAt.to {w0 w w' : World} {g1 g4 : Nat} {A : Option Addr} {n c nx : Nat} {r : Nat → Int} {x : Ins} (h : TskAt w0 g1 g4 A n c nx r x w) (hb : Below w.heap.size w w') : TskAt w0 g1 g4 A n c nx r x w' := by
  obtain ⟨h0, h1, h2, h3, h4, h5, h6, h7, h8, h9, i0, i1, i2, i3, i4, hw⟩ := h
  exact ⟨keepc hb h0, keepc hb h1, keepc hb h2, keepc hb h3, keepc hb h4, keepc hb h5, keepc hb h6, keepc hb h7, keepc hb h8, keepc hb h9, keepc hb i0, keepc hb i1, keepc hb i2, keepc hb i3, keepc hb i4, bt hw hb⟩
theorem TskAt.set_ {w0 w : World} {g1 g4 g : Nat} {A : Option Addr} {n c nx : Nat} {r : Nat → Int} {x : Ins} (h : TskAt w0 g1 g4 A n c nx r x w) (h1 : g ≠ g1) (h4 : g ≠ g4) (hg : w0.heap.size ≤ g) (k : Nat) (v : Value) : TskAt w0 g1 g4 A n c nx r x (w.setCell ⟨g, k, none⟩ v) := by
  obtain ⟨a0, a1, a2, a3, a4, a5, a6, a7, a8, a9, i0, i1, i2, i3, i4, hw⟩ := h
  have e1 : ∀ j, (⟨g, k, none⟩ : Addr) ≠ ⟨g1, j, none⟩ := fun j he => h1 (by injection he)
  have e4 : ∀ j, (⟨g, k, none⟩ : Addr) ≠ ⟨g4, j, none⟩ := fun j he => h4 (by injection he)
  exact ⟨(World.cell?_setCell_other _ _ _ _ (e1 _)).trans a0, (World.cell?_setCell_other _ _ _ _ (e1 _)).trans a1, (World.cell?_setCell_other _ _ _ _ (e1 _)).trans a2, (World.cell?_setCell_other _ _ _ _ (e1 _)).trans a3, (World.cell?_setCell_other _ _ _ _ (e1 _)).trans a4,
    (World.cell?_setCell_other _ _ _ _ (e1 _)).trans a5, (World.cell?_setCell_other _ _ _ _ (e1 _)).trans a6, (World.cell?_setCell_other _ _ _ _ (e1 _)).trans a7, (World.cell?_setCell_other _ _ _ _ (e1 _)).trans a8, (World.cell?_setCell_other _ _ _ _ (e1 _)).trans a9,
    (World.cell?_setCell_other _ _ _ _ (e4 _)).trans i0, (World.cell?_setCell_other _ _ _ _ (e4 _)).trans i1, (World.cell?_setCell_other _ _ _ _ (e4 _)).trans i2, (World.cell?_setCell_other _ _ _ _ (e4 _)).trans i3, (World.cell?_setCell_other _ _ _ _ (e4 _)).trans i4, hw.setCell hg _⟩
theorem TskAt.of {w0 w : World} {g1 g4 : Nat} {A : Option Addr} {n c nx : Nat} {r : Nat → Int} {x : Ins} (h1 : Bx w g1 (tskC A n c nx r)) (h4 : Bx w g4 x.cu.toArray) (hb : Below w0.heap.size w0 w) : TskAt w0 g1 g4 A n c nx r x w :=
  ⟨h1.cell 0, h1.cell 1, h1.cell 2, h1.cell 3, h1.cell 4, h1.cell 5, h1.cell 6, h1.cell 7, h1.cell 8, h1.cell 9, h4.cell 0, h4.cell 1, h4.cell 2, h4.cell 3, h4.cell 4, hb⟩

section
variable {l : List Ins} {A : Option Addr} {n c nx : Nat} {r : Nat → Int} {w : World}

set_option maxRecDepth 100000 in
set_option maxHeartbeats 4000000 in
theorem wants_out (hnx : n ≤ nx) :
    Calls Try.prog 14 #[tskV A n c nx r] w fun e w' => e = .returned (.tuple #[callV 20 0 0 0 0 0, .bool true]) ∧ Below w.heap.size w w' := by
  have hb0 : Below w.heap.size w ((w.alloc (.cells (tskC A n c nx r) 28)).alloc (.cells #[.int .u8 0, .int .u32 0, .int .u32 0, .int .u32 0, .int .u32 0, .int .u64 0] 40)) := ((Below.refl _ _).alloc (Nat.le_refl _) _).alloc (by simp) _
  have hx0 : Bx ((w.alloc (.cells (tskC A n c nx r) 28)).alloc (.cells #[.int .u8 0, .int .u32 0, .int .u32 0, .int .u32 0, .int .u32 0, .int .u64 0] 40)) w.heap.size (tskC A n c nx r) := (Bx.new _ _ _ _ rfl).alloc _
  have hy0 : Bx ((w.alloc (.cells (tskC A n c nx r) 28)).alloc (.cells #[.int .u8 0, .int .u32 0, .int .u32 0, .int .u32 0, .int .u32 0, .int .u64 0] 40)) (w.heap.size + 1) #[.int .u8 0, .int .u32 0, .int .u32 0, .int .u32 0, .int .u32 0, .int .u64 0] := Bx.new _ _ _ _ (by simp)
  have hI := fun w => instr_out (A := A) (c := c) (r := r) (w := w) hnx
  simp only [tskV, tskC, callV] at *
  have HI := hide hI
  clear hI
  go_enter Try.func14, Try.ntmps14
  go_wp2_with fail
  refine (unhide HI _).mono ?_
  rintro e w1 ⟨rfl, hb1⟩
  have hx1 := hx0.to hb1
  have hy1 := hy0.to hb1
  have hby : Below w1.heap.size w1 (w1.alloc (.cells #[.int .u8 0, .int .u8 0, .int .u8 0, .int .u8 0, .int .u16 0] 85)) := (Below.refl _ _).alloc (Nat.le_refl _) _
  have hz2 := Bx.new w1 #[.int .u8 0, .int .u8 0, .int .u8 0, .int .u8 0, .int .u16 0] 85 w1.heap.size rfl
  have hx2 := hx1.to hby
  have hy2 := hy1.to hby
  have hbF := bt (bt hb0 hb1) hby
  have f0 := hy2.frozen 0
  have f1 := hy2.frozen 1
  have f2 := hy2.frozen 2
  have f3 := hy2.frozen 3
  have f4 := hy2.frozen 4
  have f5 := hy2.frozen 5
  have c0 := hy2.cell 0
  have c1 := hy2.cell 1
  have c2 := hy2.cell 2
  have c3 := hy2.cell 3
  have c4 := hy2.cell 4
  have c5 := hy2.cell 5
  have hyF := hy2.six (.int .u8 20) (.int .u32 0) (.int .u32 0) (.int .u32 0) (.int .u32 0) (.int .u64 0)
  have hbG := below_six (g := w.heap.size + 1) hbF (by omega) (.int .u8 20) (.int .u32 0) (.int .u32 0) (.int .u32 0) (.int .u32 0) (.int .u64 0)
  have HBG := hide hbG
  have HYF := hide hyF
  clear hyF hbG
  clear hb0 hx0 hy0 hb1 hy1 hby hx1 hx2 hy2 hbF hz2
  go_wp2
  have d0 := (unhide HYF).cell 0
  have d1 := (unhide HYF).cell 1
  have d2 := (unhide HYF).cell 2
  have d3 := (unhide HYF).cell 3
  have d4 := (unhide HYF).cell 4
  have d5 := (unhide HYF).cell 5
  refine bodyPost_ret (v := .tuple #[.agg #[.int .u8 20, .int .u32 0, .int .u32 0, .int .u32 0, .int .u32 0, .int .u64 0], .bool true]) (by simp [results, Try.results14, go_sem, *]) rfl ⟨rfl, ?_⟩
  exact HBG.out

set_option maxRecDepth 100000 in
set_option maxHeartbeats 4000000 in
theorem wants_halt (hr : Rd w w.heap.size 5 A n (l.flatMap Ins.cu)) {x : Ins} (hx : l[nx]? = some x) (hop : x.op = 0) :
    Calls Try.prog 14 #[tskV A n c nx r] w fun e w' => e = .returned (.tuple #[callV 20 0 0 0 0 0, .bool true]) ∧ Below w.heap.size w w' := by
  have hb0 : Below w.heap.size w ((w.alloc (.cells (tskC A n c nx r) 28)).alloc (.cells #[.int .u8 0, .int .u32 0, .int .u32 0, .int .u32 0, .int .u32 0, .int .u64 0] 40)) := ((Below.refl _ _).alloc (Nat.le_refl _) _).alloc (by simp) _
  have hx0 : Bx ((w.alloc (.cells (tskC A n c nx r) 28)).alloc (.cells #[.int .u8 0, .int .u32 0, .int .u32 0, .int .u32 0, .int .u32 0, .int .u64 0] 40)) w.heap.size (tskC A n c nx r) := (Bx.new _ _ _ _ rfl).alloc _
  have hy0 : Bx ((w.alloc (.cells (tskC A n c nx r) 28)).alloc (.cells #[.int .u8 0, .int .u32 0, .int .u32 0, .int .u32 0, .int .u32 0, .int .u64 0] 40)) (w.heap.size + 1) #[.int .u8 0, .int .u32 0, .int .u32 0, .int .u32 0, .int .u32 0, .int .u64 0] := Bx.new _ _ _ _ (by simp)
  obtain ⟨xo, xa, xb, xc, xn⟩ := x
  obtain rfl : xo = 0 := hop
  have hr0 := hr.to hb0
  have hI := fun w h => instr_in (A := A) (n := n) (c := c) (r := r) (w := w) (l := l) h hx
  simp only [tskV, tskC, callV] at *
  have HI := hide hI
  clear hI hr hx
  go_enter Try.func14, Try.ntmps14
  go_wp2_with fail
  refine (unhide HI _ hr0).mono ?_
  rintro e w1 ⟨rfl, hb1⟩
  have hx1 := hx0.to hb1
  have hy1 := hy0.to hb1
  have hby : Below w1.heap.size w1 (w1.alloc (.cells #[.int .u8 0, .int .u8 xa, .int .u8 xb, .int .u8 xc, .int .u16 xn] 85)) := (Below.refl _ _).alloc (Nat.le_refl _) _
  have hz2 := Bx.new w1 #[.int .u8 0, .int .u8 xa, .int .u8 xb, .int .u8 xc, .int .u16 xn] 85 w1.heap.size rfl
  have hx2 := hx1.to hby
  have hy2 := hy1.to hby
  have hbF := bt (bt hb0 hb1) hby
  have f0 := hy2.frozen 0
  have f1 := hy2.frozen 1
  have f2 := hy2.frozen 2
  have f3 := hy2.frozen 3
  have f4 := hy2.frozen 4
  have f5 := hy2.frozen 5
  have c0 := hy2.cell 0
  have c1 := hy2.cell 1
  have c2 := hy2.cell 2
  have c3 := hy2.cell 3
  have c4 := hy2.cell 4
  have c5 := hy2.cell 5
  have z0 := hz2.cell 0
  have z1 := hz2.cell 1
  have z2 := hz2.cell 2
  have z3 := hz2.cell 3
  have z4 := hz2.cell 4
  have hyF := hy2.six (.int .u8 20) (.int .u32 0) (.int .u32 0) (.int .u32 0) (.int .u32 0) (.int .u64 0)
  have hbG := below_six (g := w.heap.size + 1) hbF (by omega) (.int .u8 20) (.int .u32 0) (.int .u32 0) (.int .u32 0) (.int .u32 0) (.int .u64 0)
  have HBG := hide hbG
  have HYF := hide hyF
  clear hyF hbG
  clear hb0 hx0 hy0 hb1 hy1 hby hx1 hx2 hy2 hbF hz2
  go_wp2
  have d0 := (unhide HYF).cell 0
  have d1 := (unhide HYF).cell 1
  have d2 := (unhide HYF).cell 2
  have d3 := (unhide HYF).cell 3
  have d4 := (unhide HYF).cell 4
  have d5 := (unhide HYF).cell 5
  refine bodyPost_ret (v := .tuple #[.agg #[.int .u8 20, .int .u32 0, .int .u32 0, .int .u32 0, .int .u32 0, .int .u64 0], .bool true]) (by simp [results, Try.results14, go_sem, *]) rfl ⟨rfl, ?_⟩
  exact HBG.out

set_option maxRecDepth 100000 in
set_option maxHeartbeats 4000000 in
theorem wants_plain (hr : Rd w w.heap.size 5 A n (l.flatMap Ins.cu)) {x : Ins} (hx : l[nx]? = some x) (h1 : 1 ≤ x.op) (h2 : x.op ≤ 16) :
    Calls Try.prog 14 #[tskV A n c nx r] w fun e w' => e = .returned (.tuple #[callV 0 0 0 0 0 0, .bool false]) ∧ Below w.heap.size w w' := by
  have hb0 : Below w.heap.size w ((w.alloc (.cells (tskC A n c nx r) 28)).alloc (.cells #[.int .u8 0, .int .u32 0, .int .u32 0, .int .u32 0, .int .u32 0, .int .u64 0] 40)) := ((Below.refl _ _).alloc (Nat.le_refl _) _).alloc (by simp) _
  have hx0 : Bx ((w.alloc (.cells (tskC A n c nx r) 28)).alloc (.cells #[.int .u8 0, .int .u32 0, .int .u32 0, .int .u32 0, .int .u32 0, .int .u64 0] 40)) w.heap.size (tskC A n c nx r) := (Bx.new _ _ _ _ rfl).alloc _
  have hy0 : Bx ((w.alloc (.cells (tskC A n c nx r) 28)).alloc (.cells #[.int .u8 0, .int .u32 0, .int .u32 0, .int .u32 0, .int .u32 0, .int .u64 0] 40)) (w.heap.size + 1) #[.int .u8 0, .int .u32 0, .int .u32 0, .int .u32 0, .int .u32 0, .int .u64 0] := Bx.new _ _ _ _ (by simp)
  have hr0 := hr.to hb0
  have hI := fun w h => instr_in (A := A) (n := n) (c := c) (r := r) (w := w) (l := l) h hx
  simp only [tskV, tskC, callV] at *
  have HI := hide hI
  clear hI hr hx
  go_enter Try.func14, Try.ntmps14
  go_wp2_with fail
  refine (unhide HI _ hr0).mono ?_
  rintro e w1 ⟨rfl, hb1⟩
  have hx1 := hx0.to hb1
  have hy1 := hy0.to hb1
  have hby : Below w1.heap.size w1 (w1.alloc (.cells #[.int .u8 x.op, .int .u8 x.a, .int .u8 x.b, .int .u8 x.c, .int .u16 x.n] 85)) := (Below.refl _ _).alloc (Nat.le_refl _) _
  have hz2 := Bx.new w1 #[.int .u8 x.op, .int .u8 x.a, .int .u8 x.b, .int .u8 x.c, .int .u16 x.n] 85 w1.heap.size rfl
  have hx2 := hx1.to hby
  have hy2 := hy1.to hby
  have hbF := bt (bt hb0 hb1) hby
  have f0 := hy2.frozen 0
  have f1 := hy2.frozen 1
  have f2 := hy2.frozen 2
  have f3 := hy2.frozen 3
  have f4 := hy2.frozen 4
  have f5 := hy2.frozen 5
  have c0 := hy2.cell 0
  have c1 := hy2.cell 1
  have c2 := hy2.cell 2
  have c3 := hy2.cell 3
  have c4 := hy2.cell 4
  have c5 := hy2.cell 5
  have z0 := hz2.cell 0
  have z1 := hz2.cell 1
  have z2 := hz2.cell 2
  have z3 := hz2.cell 3
  have z4 := hz2.cell 4
  have hne : (x.op == 0) = false := by simp; omega
  have hnd : decide (x.op = 0) = false := by simp; omega
  have hnp : ¬ x.op = 0 := by omega
  have hyF := hy2.six (.int .u8 0) (.int .u32 0) (.int .u32 0) (.int .u32 0) (.int .u32 0) (.int .u64 0)
  have hbG := below_six (g := w.heap.size + 1) hbF (by omega) (.int .u8 0) (.int .u32 0) (.int .u32 0) (.int .u32 0) (.int .u32 0) (.int .u64 0)
  have HBG := hide hbG
  have HYF := hide hyF
  clear hyF hbG
  clear hb0 hx0 hy0 hb1 hy1 hby hx1 hx2 hy2 hbF hz2
  go_wp2
  have d0 := (unhide HYF).cell 0
  have d1 := (unhide HYF).cell 1
  have d2 := (unhide HYF).cell 2
  have d3 := (unhide HYF).cell 3
  have d4 := (unhide HYF).cell 4
  have d5 := (unhide HYF).cell 5
  refine bodyPost_ret (v := .tuple #[.agg #[.int .u8 0, .int .u32 0, .int .u32 0, .int .u32 0, .int .u32 0, .int .u64 0], .bool false]) (by simp [results, Try.results14, go_sem, *]) rfl ⟨rfl, ?_⟩
  exact HBG.out
end
end Go.Proofs.Ytmiagijgecgfoaa
