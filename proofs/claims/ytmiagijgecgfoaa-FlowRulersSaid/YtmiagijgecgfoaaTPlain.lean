/-
  What a task does, in plain words, and task's Wants, Step under one contract each.
-/
import Derived.Test.YtmiagijgecgfoaaTStep2
import Derived.Test.YtmiagijgecgfoaaTSame
namespace Go.Proofs.Ytmiagijgecgfoaa
open Go.RowKit

/-- a program -/
structure Prog (l : List Ins) : Prop where
  ok : ∀ x ∈ l, x.ok
  may : mayP l = true
theorem Prog.le {l : List Ins} (h : Prog l) : l.length ≤ 64 := by
  have := h.may
  unfold mayP at this
  simp only [Bool.and_eq_true, decide_eq_true_eq] at this
  exact this.1
theorem Prog.get {l : List Ins} (h : Prog l) {nx : Nat} {x : Ins} (hx : l[nx]? = some x) :
    ∃ (xo ka kb kc kn : Nat), x = ⟨xo, ka, kb, kc, kn⟩ ∧ ka < 8 ∧ kb < 8 ∧ kc < 8 ∧ kn ≤ 65535 ∧ (xo ≤ 6 ∨ 17 ≤ xo ∧ xo ≤ 38) ∧ (xo = 5 ∨ xo = 6 → kn < l.length) := by
  have hok := h.ok x (mem_of_get hx)
  have hm := h.may
  unfold mayP at hm
  simp only [Bool.and_eq_true, List.all_eq_true] at hm
  have hm := hm.2 x (mem_of_get hx)
  unfold mayX at hm
  simp only [decide_eq_true_eq] at hm
  obtain ⟨xo, xa, xb, xc, xn⟩ := x
  obtain ⟨⟨p0, q0⟩, ⟨p1, q1⟩, ⟨p2, q2⟩, ⟨p3, q3⟩, ⟨p4, q4⟩⟩ := hok
  obtain ⟨m1, ⟨m2, m3, m4⟩, m5⟩ := hm
  simp only at p0 q0 p1 q1 p2 q2 p3 q3 p4 q4 m1 m2 m3 m4 m5
  refine ⟨xo.toNat, xa.toNat, xb.toNat, xc.toNat, xn.toNat, ?_, by omega, by omega, by omega, by omega, by omega, fun hj => ?_⟩
  · congr 1 <;> omega
  · have := m5 (by omega)
    omega

/-- does it want a call? -/
def wB (l : List Ins) (nx : Nat) : Bool := match l[nx]? with
  | none => true
  | some x => decide (x.op = 0 ∨ 16 < x.op)
/-- its call's parts -/
def wP (l : List Ins) (nx : Nat) (r : Nat → Int) : Int × Int × Int × Int × Int × Int := match l[nx]? with
  | none => (20, 0, 0, 0, 0, 0)
  | some x => if x.op = 0 then (20, 0, 0, 0, 0, 0) else if 16 < x.op then (x.op - 16, IntKind.u32.wrap (r x.b.toNat), IntKind.u32.wrap (r x.c.toNat), IntKind.u32.wrap (r 6), x.n, r 5) else (0, 0, 0, 0, 0, 0)
def callP (p : Int × Int × Int × Int × Int × Int) : Value := callV p.1 p.2.1 p.2.2.1 p.2.2.2.1 p.2.2.2.2.1 p.2.2.2.2.2
def rcallV (o r s a b v : Int) : Value := .agg #[.int .i64 o, .int .i64 r, .int .i64 s, .int .i64 a, .int .i64 b, .int .u64 v]
def rcallP (p : Int × Int × Int × Int × Int × Int) : Value := rcallV p.1 p.2.1 p.2.2.1 p.2.2.2.1 p.2.2.2.2.1 p.2.2.2.2.2
/-- the next place behind a step -/
def sN (l : List Ins) (nx : Nat) (r : Nat → Int) : Nat := match l[nx]? with
  | none => nx
  | some x => if x.op = 0 ∨ 16 < x.op then nx else if x.op = 5 ∨ x.op = 6 ∧ r x.a.toNat ≠ 0 then x.n.toNat else nx + 1
/-- the registers behind a step -/
def sR (l : List Ins) (nx : Nat) (r : Nat → Int) : Nat → Int := match l[nx]? with
  | none => r
  | some x => if x.op = 1 then upd r x.a.toNat x.n else if x.op = 2 then upd r x.a.toNat (IntKind.u64.wrap (r x.b.toNat + r x.c.toNat)) else if x.op = 3 then upd r x.a.toNat (IntKind.u64.wrap (r x.b.toNat - r x.c.toNat))
    else if x.op = 4 then upd r x.a.toNat (shlV (r x.b.toNat) x.n) else r

section
variable {l : List Ins} {A : Option Addr} {n c nx : Nat} {r : Nat → Int} {w : World}

theorem wants_any (hp : Prog l) (hr : Rd w w.heap.size 5 A n (l.flatMap Ins.cu)) :
    Calls Try.prog 14 #[tskV A n c nx r] w fun e w' => e = .returned (.tuple #[callP (wP l nx r), .bool (wB l nx)]) ∧ Below w.heap.size w w' := by
  have hln := hr.lenU
  cases hx : l[nx]? with
  | none =>
    have : n ≤ nx := by have := List.getElem?_eq_none_iff.1 hx; omega
    unfold wP wB
    rw [hx]
    exact wants_out this
  | some x =>
    obtain ⟨xo, ka, kb, kc, kn, rfl, ha, hb, hc, hn, ho, hj⟩ := hp.get hx
    unfold wP wB
    rw [hx]
    by_cases h0 : xo = 0
    · subst h0
      exact wants_halt hr hx rfl
    · by_cases h1 : 16 < xo
      · have e1 : ((xo : Int) = 0) = False := by simp; omega
        have e2 : (16 < (xo : Int)) = True := by simp; omega
        simp only [e1, e2, if_true, if_false, or_true, decide_true, Int.toNat_natCast, callP]
        exact wants_call hr hx hb hc (by omega) (by omega) (by omega) (by omega)
      · have e1 : ((xo : Int) = 0) = False := by simp; omega
        have e2 : (16 < (xo : Int)) = False := by simp; omega
        simp only [e1, e2, if_false, or_false, decide_false, callP]
        exact wants_plain hr hx (show (1 : Int) ≤ xo by omega) (show (xo : Int) ≤ 16 by omega)
end
end Go.Proofs.Ytmiagijgecgfoaa
