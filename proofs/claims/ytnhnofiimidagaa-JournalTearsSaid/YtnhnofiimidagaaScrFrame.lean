/-
  An argument of layer 18 opened: a script of the document's, by value.
-/
import Derived.Test.YtnhnofiimidagaaFrame
import Derived.Test.YtnhnofiimidagaaScrGreat
import Derived.Lib.SmallJoins
namespace Go.Proofs.Ytnhnofiimidagaa
open Go.ChangeShapes Go.WideShapes Go.ChangeAt Go.RowKit

theorem Try.cellsRScr : Try.prog.cellsOf 44 = 3 := by kernel_rfl
theorem Try.cellsStr : Try.prog.cellsOf 9 = 1 := by kernel_rfl

theorem flat_strs : ∀ l : List (List UInt8), l.flatMap (fun x => [strV x]) = l.map strV
  | [] => rfl
  | x :: l => by rw [List.flatMap_cons, flat_strs l]; rfl

/-- a slice of strings -/
theorem open_strs {H : Type} {enc : TypeId × Value → H} {W : World} {k : Nat} {v : Value} {y : DataW H × List MemPlace} (hf : DataW.trod enc Try.prog W 0 (fun _ => true) true k 42 [v] = some y) :
    ∃ (A : Option Addr) (n cap : Nat) (ps : List (List UInt8)), v = .slice A n cap ∧ Rd W W.heap.size 1 A n (ps.map strV) := by
  rcases Deep.open_slice Try.underlying42 hf with ⟨hcs, _⟩ | ⟨a, len, cap, m, k, D, Pl, hcs, _, hlc, _, hm, hx, hi⟩
  · simp only [List.cons.injEq, and_true] at hcs
    subst hcs
    exact ⟨none, 0, 0, [], rfl, Rd.none_⟩
  · simp only [List.cons.injEq, and_true] at hcs
    subst hcs
    simp only [if_true] at hm
    subst hm
    have hp : ∀ i, i < len → ∃ x : List UInt8, ∀ j, j < 1 → W.cell? ((a.add (i * 1)).add j) = [strV x][j]? := by
      intro i hin
      obtain ⟨cs', hcell, ht⟩ := hi i (by omega)
      rw [Try.cellsStr] at hcell
      obtain ⟨_, hcl, hat⟩ := World.cells?_some hcell
      obtain ⟨s, hs, _, _⟩ := DataW.trod_string Try.underlying9 ht
      obtain ⟨x, rfl⟩ := S_of s
      refine ⟨x, fun j hj => ?_⟩
      have := hat j hj
      rw [hs] at this
      exact this
    obtain ⟨l, hl, hlp⟩ := list_of len hp
    have hr := Rd.of_pieces (size := 1) (f := fun x => [strV x]) (fun _ => rfl) (by omega) hl (fun i x hx => hlp i x hx)
    rw [flat_strs] at hr
    exact ⟨some a, len, _, l, rfl, hr⟩

theorem open_rscr {H : Type} {enc : TypeId × Value → H} {W : World} {base : Nat} {v : Value} {d : DataW H} {p : List MemPlace} (hval : Value.okWide Try.prog W .any base 44 v)
    (h : DataW.Trod enc Try.prog W 0 (fun _ => true) true 44 v d p) :
    ∃ (pg : Int) (A : Option Addr) (n cap : Nat) (ps : List (List UInt8)) (pk : List UInt8), v = rscrV pg A n cap pk ∧ Rd W W.heap.size 1 A n (ps.map strV) := by
  obtain ⟨c0, c1, c2, y0, y1, y2, m, rfl, _, _, hy0, hy1, hy2⟩ := Joins.open_agg3 Try.underlying44 (by kernel_rfl) Try.cellsRScr hval h
  obtain ⟨x, e0, _, _⟩ := DataW.trod_int Try.underlying3 hy0
  obtain ⟨A, n, cap, ps, rfl, hr⟩ := open_strs hy1
  obtain ⟨s, e2, _, _⟩ := DataW.trod_string Try.underlying9 hy2
  obtain ⟨pk, rfl⟩ := S_of s
  simp only [List.cons.injEq, and_true] at e0 e2
  subst e0 e2
  exact ⟨x, A, n, cap, ps, pk, rfl, hr⟩
end Go.Proofs.Ytnhnofiimidagaa
