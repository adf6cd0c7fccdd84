/-
  The walk of bailiwickref24.Edge.
-/
import Derived.Test.YtmiagijgecgfoaaFEach
namespace Go.Proofs.Ytmiagijgecgfoaa
open Go.RowKit

theorem beq_int (a b : Int) : (a == b) = decide (a = b) := by rw [Bool.eq_iff_iff, beq_iff_eq, decide_eq_true_iff]
/-- is j a next place of i? -/
def edgeB (l : List Ins) (i j : Int) : Bool := decide (0 ≤ i ∧ 0 ≤ j ∧ j.toNat ∈ nextL l i.toNat)
theorem edgeB_nat (l : List Ins) (i j : Nat) : edgeB l i j = decide (j ∈ nextL l i) := by
  unfold edgeB
  rw [Bool.eq_iff_iff, decide_eq_true_iff, decide_eq_true_iff]
  simp only [Int.toNat_natCast]
  constructor
  · exact fun h => h.2.2
  · exact fun h => ⟨by omega, by omega, h⟩
theorem edgeB_out {l : List Ins} {i j : Int} (h : i < 0 ∨ (l.length : Int) ≤ i) : edgeB l i j = false := by
  unfold edgeB
  apply decide_eq_false
  rintro ⟨h1, _, h2⟩
  have : l[i.toNat]? = none := List.getElem?_eq_none (by omega)
  unfold nextL at h2
  rw [this] at h2
  cases h2
section
variable {l : List Ins} {k : Nat} {x : Ins} {j : Int}
theorem edgeB_iff : edgeB l k j = true ↔ 0 ≤ j ∧ j.toNat ∈ nextL l k := by
  unfold edgeB
  rw [decide_eq_true_iff, Int.toNat_natCast]
  exact ⟨fun h => h.2, fun h => ⟨by omega, h⟩⟩
theorem edgeB_0 (hx : l[k]? = some x) (h : x.op = 0) : edgeB l k j = false := by
  have hN : nextL l k = [] := by unfold nextL; rw [hx]; simp only; rw [if_pos h]
  refine bool_ext ?_
  rw [edgeB_iff, hN]
  simp
theorem edgeB_5 (hx : l[k]? = some x) (h : x.op = 5) (hn : 0 ≤ x.n) : edgeB l k j = decide (j = x.n) := by
  have hN : nextL l k = [x.n.toNat] := by unfold nextL; rw [hx]; simp only; rw [if_neg (by omega), if_pos h]
  refine bool_ext ?_
  rw [edgeB_iff, hN, List.mem_singleton, decide_eq_true_iff]
  omega
theorem edgeB_6 (hx : l[k]? = some x) (h : x.op = 6) (hn : 0 ≤ x.n) : edgeB l k j = (decide (j = (k : Int) + 1) || decide (j = x.n)) := by
  have hN : nextL l k = if x.n.toNat < k + 1 then [x.n.toNat, k + 1] else if x.n.toNat = k + 1 then [k + 1] else [k + 1, x.n.toNat] := by
    unfold nextL; rw [hx]; simp only; rw [if_neg (by omega), if_neg (by omega), if_pos h]
  refine bool_ext ?_
  rw [edgeB_iff, hN, Bool.or_eq_true, decide_eq_true_iff, decide_eq_true_iff]
  split
  · simp only [List.mem_cons, List.not_mem_nil, or_false]; omega
  · split
    · simp only [List.mem_cons, List.not_mem_nil, or_false]; omega
    · simp only [List.mem_cons, List.not_mem_nil, or_false]; omega
theorem edgeB_s (hx : l[k]? = some x) (h0 : x.op ≠ 0) (h5 : x.op ≠ 5) (h6 : x.op ≠ 6) : edgeB l k j = decide (j = (k : Int) + 1) := by
  have hN : nextL l k = [k + 1] := by unfold nextL; rw [hx]; simp only; rw [if_neg h0, if_neg h5, if_neg h6]
  refine bool_ext ?_
  rw [edgeB_iff, hN, List.mem_singleton, decide_eq_true_iff]
  omega
end

section
variable {l : List Ins} {A : Option Addr} {n c : Nat} {w : World}

set_option maxRecDepth 100000 in
set_option maxHeartbeats 4000000 in
theorem edge_any (hok : ∀ x ∈ l, x.ok) (hr : Rd w w.heap.size 5 A n (l.flatMap Ins.ci)) (hn : n ≤ 1000) (i j : Int) :
    Calls Try.prog 37 #[.slice A n c, .int .i64 i, .int .i64 j] w fun e w' => e = .returned (.bool (edgeB l i j)) ∧ Below w.heap.size w w' := by
  have hln := hr.lenI
  by_cases h1 : i < 0
  · have d1 : decide (i < 0) = true := decide_eq_true h1
    rw [edgeB_out (.inl h1)]
    go_enter Try.func37, Try.ntmps37
    go_wp2
    go_ret
    exact ⟨rfl, Below.refl _ _⟩
  · obtain ⟨k, rfl⟩ : ∃ k : Nat, i = k := ⟨i.toNat, by omega⟩
    by_cases h2 : n ≤ k
    · have d2 : decide ((n : Int) ≤ k) = true := decide_eq_true (by omega)
      have d3 : decide (n ≤ k) = true := decide_eq_true (by omega)
      rw [edgeB_out (.inr (by omega))]
      go_enter Try.func37, Try.ntmps37
      go_wp2
      go_ret
      exact ⟨rfl, Below.refl _ _⟩
    · have hlt : k < n := by omega
      obtain ⟨b, o, x, rfl, hb, hx, g0, g1, g2, g3, g4⟩ := hr.insI hlt
      have d2 : decide ((n : Int) ≤ k) = false := decide_eq_false (by omega)
      have d3 : decide (n ≤ k) = false := decide_eq_false (by omega)
      have d4 : (k : Int) < n := by omega
      have hk1 : (k : Int) + 1 ≤ 1000 := by omega
      have hxn : 0 ≤ x.n := by have := hok x (mem_of_get hx); unfold Ins.ok at this; omega
      clear hr hln
      obtain ⟨xo, xa, xb, xc, xn⟩ := x
      simp only at g0 g1 g2 g3 g4 hxn
      have u1 : IntKind.i64.wrap ((k : Int) + 1) = (k : Int) + 1 := IntWalk.i64_in _ (by omega)
      by_cases e0 : xo = 0
      · rw [edgeB_0 hx e0]
        subst e0
        clear hx hok hxn
        go_enter Try.func37, Try.ntmps37
        go_upto_region 4 with fail
        refine nameW ?_
        intro W1 hW1
        have hb1 : Below w.heap.size w W1 := by rw [hW1]; exact (Below.refl _ _).alloc (Nat.le_refl _) _
        have hx1 : Bx W1 w.heap.size #[.int .i64 (0:Int), .int .i64 xa, .int .i64 xb, .int .i64 xc, .int .i64 xn] := by rw [hW1]; exact Bx.new _ _ _ _ rfl
        clear hW1 g0 g1 g2 g3 g4
        have a0 : (_ : Option Value) = some (.int .i64 (0:Int)) := hx1.cell 0
        have a4 : (_ : Option Value) = some (.int .i64 xn) := hx1.cell 4
        go_wp2
        go_ret
        exact ⟨by first | (simp; done) | (simp [beq_int]; done), hb1⟩
      · have f0 : (xo == 0) = false := by simpa using e0
        by_cases e5 : xo = 5
        · rw [edgeB_5 hx e5 hxn]
          subst e5
          clear hx hok hxn
          go_enter Try.func37, Try.ntmps37
          go_upto_region 4 with fail
          refine nameW ?_
          intro W1 hW1
          have hb1 : Below w.heap.size w W1 := by rw [hW1]; exact (Below.refl _ _).alloc (Nat.le_refl _) _
          have hx1 : Bx W1 w.heap.size #[.int .i64 (5:Int), .int .i64 xa, .int .i64 xb, .int .i64 xc, .int .i64 xn] := by rw [hW1]; exact Bx.new _ _ _ _ rfl
          clear hW1 g0 g1 g2 g3 g4
          have a0 : (_ : Option Value) = some (.int .i64 (5:Int)) := hx1.cell 0
          have a4 : (_ : Option Value) = some (.int .i64 xn) := hx1.cell 4
          go_wp2
          go_ret
          exact ⟨by first | (simp; done) | (simp [beq_int]; done), hb1⟩
        · have f5 : (xo == 5) = false := by simpa using e5
          by_cases e6 : xo = 6
          · rw [edgeB_6 hx e6 hxn]
            subst e6
            clear hx hok hxn
            by_cases ej : j = (k : Int) + 1
            · subst ej
              go_enter Try.func37, Try.ntmps37
              go_upto_region 4 with fail
              refine nameW ?_
              intro W1 hW1
              have hb1 : Below w.heap.size w W1 := by rw [hW1]; exact (Below.refl _ _).alloc (Nat.le_refl _) _
              have hx1 : Bx W1 w.heap.size #[.int .i64 (6:Int), .int .i64 xa, .int .i64 xb, .int .i64 xc, .int .i64 xn] := by rw [hW1]; exact Bx.new _ _ _ _ rfl
              clear hW1 g0 g1 g2 g3 g4
              have a0 : (_ : Option Value) = some (.int .i64 (6:Int)) := hx1.cell 0
              have a4 : (_ : Option Value) = some (.int .i64 xn) := hx1.cell 4
              go_wp2
              go_ret
              exact ⟨by first | (simp; done) | (simp [beq_int]; done), hb1⟩
            · have fj : (j == (k : Int) + 1) = false := by simpa using ej
              have fj2 : decide (j = (k : Int) + 1) = false := by simpa using ej
              go_enter Try.func37, Try.ntmps37
              go_upto_region 4 with fail
              refine nameW ?_
              intro W1 hW1
              have hb1 : Below w.heap.size w W1 := by rw [hW1]; exact (Below.refl _ _).alloc (Nat.le_refl _) _
              have hx1 : Bx W1 w.heap.size #[.int .i64 (6:Int), .int .i64 xa, .int .i64 xb, .int .i64 xc, .int .i64 xn] := by rw [hW1]; exact Bx.new _ _ _ _ rfl
              clear hW1 g0 g1 g2 g3 g4
              have a0 : (_ : Option Value) = some (.int .i64 (6:Int)) := hx1.cell 0
              have a4 : (_ : Option Value) = some (.int .i64 xn) := hx1.cell 4
              go_wp2
              go_ret
              exact ⟨by first | (simp; done) | (simp [beq_int]; done), hb1⟩
          · have f6 : (xo == 6) = false := by simpa using e6
            rw [edgeB_s hx e0 e5 e6]
            clear hx hok hxn
            by_cases ej : j = (k : Int) + 1
            · subst ej
              go_enter Try.func37, Try.ntmps37
              go_upto_region 4 with fail
              refine nameW ?_
              intro W1 hW1
              have hb1 : Below w.heap.size w W1 := by rw [hW1]; exact (Below.refl _ _).alloc (Nat.le_refl _) _
              have hx1 : Bx W1 w.heap.size #[.int .i64 xo, .int .i64 xa, .int .i64 xb, .int .i64 xc, .int .i64 xn] := by rw [hW1]; exact Bx.new _ _ _ _ rfl
              clear hW1 g0 g1 g2 g3 g4
              have a0 : (_ : Option Value) = some (.int .i64 xo) := hx1.cell 0
              have a4 : (_ : Option Value) = some (.int .i64 xn) := hx1.cell 4
              go_wp2
              go_ret
              exact ⟨by first | (simp; done) | (simp [beq_int]; done), hb1⟩
            · have fj : (j == (k : Int) + 1) = false := by simpa using ej
              have fj2 : decide (j = (k : Int) + 1) = false := by simpa using ej
              go_enter Try.func37, Try.ntmps37
              go_upto_region 4 with fail
              refine nameW ?_
              intro W1 hW1
              have hb1 : Below w.heap.size w W1 := by rw [hW1]; exact (Below.refl _ _).alloc (Nat.le_refl _) _
              have hx1 : Bx W1 w.heap.size #[.int .i64 xo, .int .i64 xa, .int .i64 xb, .int .i64 xc, .int .i64 xn] := by rw [hW1]; exact Bx.new _ _ _ _ rfl
              clear hW1 g0 g1 g2 g3 g4
              have a0 : (_ : Option Value) = some (.int .i64 xo) := hx1.cell 0
              have a4 : (_ : Option Value) = some (.int .i64 xn) := hx1.cell 4
              go_wp2
              go_ret
              exact ⟨by first | (simp; done) | (simp [beq_int]; done), hb1⟩
end
end Go.Proofs.Ytmiagijgecgfoaa
