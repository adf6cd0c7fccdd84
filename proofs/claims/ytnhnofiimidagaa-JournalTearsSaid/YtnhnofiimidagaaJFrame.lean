/-
  Arguments of layer 27 opened: a slice of bytes.
-/
import Derived.Test.YtnhnofiimidagaaScrFrame
import Derived.Test.YtnhnofiimidagaaScrMay
namespace Go.Proofs.Ytnhnofiimidagaa
open Go.ChangeShapes Go.WideShapes Go.ChangeAt Go.RowKit

theorem Try.bytesU8 : 1 ≤ Try.prog.bytesOf 5 := of_decide_eq_true (by kernel_rfl)

theorem flat_bytes : ∀ l : List UInt8, l.flatMap (fun x => [byteV x]) = l.map byteV
  | [] => rfl
  | x :: l => by rw [List.flatMap_cons, flat_bytes l]; rfl
theorem byteV_by8 {x : Int} (h : (Lit.int .u8 x).wf = true) : Value.int .u8 x = byteV (by8 x) := by
  have hb := wf_u8 h
  unfold byteV
  rw [by8_val x hb.1 hb.2]

/-- a slice of bytes -/
theorem open_bytes {H : Type} {enc : TypeId × Value → H} {W : World} {base : Nat} {v : Value} {d : DataW H} {p : List MemPlace} (hval : Value.okWide Try.prog W .any base 47 v)
    (h : DataW.Trod enc Try.prog W 0 (fun _ => true) true 47 v d p) :
    ∃ (A : Option Addr) (n cap : Nat) (l : List UInt8), v = .slice A n cap ∧ Rd W W.heap.size 1 A n (l.map byteV) ∧ (n = 0 ∨ ∃ elems spare, d = .slice elems spare ∧ elems.length = n) := by
  obtain ⟨a0, n0, c0, rfl⟩ := okWide_slice Try.underlying47 hval
  obtain ⟨fuel, hf⟩ := h
  rcases Deep.open_slice Try.underlying47 hf with ⟨hcs, _⟩ | ⟨a, len, cap, m, k, D, Pl, hcs, _, hlc, _, hm, hx, hi⟩
  · simp only [Value.cells, List.cons.injEq, Value.slice.injEq, and_true] at hcs
    obtain ⟨rfl, rfl, rfl⟩ := hcs
    exact ⟨none, 0, 0, [], rfl, Rd.none_, .inl rfl⟩
  · simp only [Value.cells, List.cons.injEq, Value.slice.injEq, and_true] at hcs
    obtain ⟨rfl, rfl, rfl⟩ := hcs
    simp only [if_true] at hm
    subst hm
    simp only [Prod.mk.injEq] at hx
    have hp : ∀ i, i < n0 → ∃ x : UInt8, ∀ j, j < 1 → W.cell? ((a.add (i * 1)).add j) = [byteV x][j]? := by
      intro i hin
      obtain ⟨cs', hcell, ht⟩ := hi i (by omega)
      rw [Try.cellsU8] at hcell
      obtain ⟨_, hcl, hat⟩ := World.cells?_some hcell
      obtain ⟨x, hs, _, hwf⟩ := DataW.trod_int Try.underlying5 ht
      refine ⟨by8 x, fun j hj => ?_⟩
      have := hat j hj
      rw [hs, byteV_by8 hwf] at this
      exact this
    obtain ⟨l, hl, hlp⟩ := list_of n0 hp
    have hr := Rd.of_pieces (size := 1) (f := fun x => [byteV x]) (fun _ => rfl) (by omega) hl (fun i x hx => hlp i x hx)
    rw [flat_bytes] at hr
    exact ⟨some a, n0, _, l, rfl, hr, .inr ⟨_, _, hx.1, by simp⟩⟩
end Go.Proofs.Ytnhnofiimidagaa
