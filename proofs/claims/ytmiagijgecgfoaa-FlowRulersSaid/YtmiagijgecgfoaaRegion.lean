/-
  A region that draws its order, whose operations but the last few look at no memory: the rest in the text's order. No function of the program.
-/
import Derived.Test.YtmiagijgecgfoaaBase
import Derived.StillTail
namespace Go.Proofs.Ytmiagijgecgfoaa
open Go.RowKit

section
variable {P : Program} {ops : Array Oper}

/-- operations that yield a value in whatever world, or are passed over -/
def wpPure (P : Program) (ops : Array Oper) (Q : Act → Prop) : List Oper → Act → Prop
  | [], a => Q a
  | o :: rest, a => ∃ v, Yields P ops o v a ∧ wpPure P ops Q rest (a.put o.dst v)

theorem wpPure_nil {Q : Act → Prop} {a : Act} (h : Q a) : wpPure P ops Q [] a := h
theorem wpPure_yes {Q : Act → Prop} {a : Act} {o : Oper} {rest : List Oper} {v : Value} (hw : Region.wanted o (yielded ops a.tmps) = true)
    (hy : ∀ w, (execOp a.eval o).run P w = .ok (.value v) w) (h : wpPure P ops Q rest (a.put o.dst v)) : wpPure P ops Q (o :: rest) a := ⟨v, .inl ⟨hw, hy⟩, h⟩
theorem wpPure_no {Q : Act → Prop} {a : Act} {o : Oper} {rest : List Oper} (hw : Region.wanted o (yielded ops a.tmps) = false)
    (h : wpPure P ops Q rest (a.put o.dst undef)) : wpPure P ops Q (o :: rest) a := ⟨undef, .inr ⟨hw, rfl⟩, h⟩

theorem wpAny_of_pure {md : Region.Mode} {Q' : Exit → Act → World → Prop} {Q : Act → Prop} {w : World} {g n : Nat} (hs : Region.noSelect ops = true)
    (hQ : ∀ c a d v w, Q' (.panic c) (a.put d v) w → Q' (.panic c) a w)
    (hT : ∀ listed a, Region.seqB md ops g n listed = true → Q a → wpAny P md ops Q' g listed a w) :
    ∀ (l : List Oper) (k : Nat) (listed : Array Bool) (a : Act), (∀ j, j < l.length → l[j]? = ops[k + j]?) → k + l.length = n →
      Region.lexHead md ops g l.length k listed = true → wpPure P ops Q l a → wpAny P md ops Q' (l.length + g) listed a w
  | [], k, listed, a, _, hk, hB, h => by
    have : k = n := by simpa using hk
    subst this
    rw [List.length_nil, Nat.zero_add]
    exact hT listed a (by simpa [Region.lexHead] using hB) h
  | o :: l, k, listed, a, hl, hk, hB, h => by
    have h0 : ops[k]? = some o := by simpa using (hl 0 (by simp)).symm
    simp only [List.length_cons, Region.lexHead, Bool.and_eq_true] at hB
    obtain ⟨⟨hr, hf⟩, hB'⟩ := hB
    obtain ⟨v, hy, hK⟩ := h
    rw [show (o :: l).length + g = (l.length + g) + 1 by simp; omega]
    exact wpAny_take h0 hs hf hr (fun c a w => hQ c a _ _ w) hy
      (wpAny_of_pure hs hQ hT l (k + 1) _ _ (fun j hj => by have := hl (j + 1) (by simp; omega); simpa [Nat.add_assoc, Nat.add_comm 1 j] using this) (by simp only [List.length_cons] at hk; omega) hB' hK)

theorem wp_region_pure_tail {id : Nat} {Q : Exit → Act → World → Prop} {a : Act} {w : World} {l : List Oper} (n : Nat) (hm : P.follows .mixedOrders = true)
    (hB : (Region.noSelect l.toArray && decide (n ≤ l.length) && Region.lexHead .any l.toArray (l.length - n) n 0 (Array.replicate l.length false)) = true)
    (hQ : ∀ c a d v w, Q (.panic c) (a.put d v) w → Q (.panic c) a w)
    (h : wpPure P l.toArray (fun a' => wpList P l.toArray Q (l.drop n) a' w.drew) (l.take n) a) : (Code.region id l.toArray true).wp P Q a w := by
  simp only [Bool.and_eq_true, decide_eq_true_eq] at hB
  obtain ⟨⟨hs, hn⟩, hlex⟩ := hB
  have htl : (l.take n).length = n := by simp; omega
  have hdl : (l.drop n).length = l.length - n := by simp
  refine wp_region_any hm ?_
  have H := wpAny_of_pure (md := .any) (Q' := Q) (w := w.drew) (g := l.length - n) (n := n) hs hQ (fun listed a' hB' hQ' => by
    have := wpAny_of_seq (md := .any) (Q' := Q) (l.drop n) n listed a' w.drew (fun j => by simp [List.getElem?_drop]) (by rw [hdl]; exact hB') hQ'
    rwa [hdl] at this) (l.take n) 0 _ a (fun j hj => by
      have hj' : j < n := by rw [htl] at hj; exact hj
      simp [hj']) (by simpa using htl) (by rw [htl]; exact hlex) h
  rw [htl, show n + (l.length - n) = l.length by omega] at H
  exact H
end
end Go.Proofs.Ytmiagijgecgfoaa
