/-
  The walks of the two laws of layer 13, and of their known program.
-/
import Derived.Test.YtnhnofiimidagaaCodeRefDec
import Derived.Test.YtnhnofiimidagaaCodeEnc
import Derived.Deep.QuietTactic
import Derived.BigQuiet
namespace Go.Proofs.Ytnhnofiimidagaa
open Go.RowKit

theorem bt {w w1 w2 : World} (h : Below w.heap.size w w1) (h2 : Below w1.heap.size w1 w2) : Below w.heap.size w w2 := h.trans (h2.mono h.size)
theorem Rd.to {w w' : World} {size n : Nat} {A : Option Addr} {xs : List Value} (h : Rd w w.heap.size size A n xs) (hb : Below w.heap.size w w') : Rd w' w'.heap.size size A n xs := (h.below hb).mono hb.size

theorem below_drewN {B : Nat} {a w : World} (h : Below B a w) (n : Nat) : Below B a (w.drewN n) := ⟨h.os, h.tape, h.output, h.size, h.block⟩

def wk : List Ins := [⟨1, 2, 0, 0, 5⟩, ⟨5, 0, 0, 0, 0⟩]
theorem wk_ok : ∀ x ∈ wk, x.ok := by
  intro x hx
  simp only [wk, List.mem_cons, List.not_mem_nil, or_false] at hx
  rcases hx with rfl | rfl <;> simp [Ins.ok]
theorem wk_may : mayP wk = true := by decide
theorem wk_encS : encS wk = [1, 2, 0, 0, 5, 0, 5, 0, 0, 0, 0, 0] := by decide
theorem wk_encE : encE wk = 0 := by decide
theorem wk_decE : decE [1, 2, 0, 0, 5, 0, 5, 0, 0, 0, 0, 0] = 0 := by decide
theorem wk_decL : decL [1, 2, 0, 0, 5, 0, 5, 0, 0, 0, 0, 0] = wk := by unfold decL; rw [if_pos (by decide)]; rfl
theorem wk_decE' : decE [5, 0, 0, 0, 1, 0] = 3 := by decide

set_option maxRecDepth 100000 in
set_option maxHeartbeats 2000000 in
theorem wakes13_any (w : World) : Calls Try.prog 12 #[] w fun e w' => e = .returned (.bool true) ∧ Below w.heap.size w w' := by
  have hb0 : Below w.heap.size w (w.alloc (.cells (wk.flatMap Ins.cu).toArray 41)) := (Below.refl _ _).alloc (Nat.le_refl _) _
  have hr0 : Rd (w.alloc (.cells (wk.flatMap Ins.cu).toArray 41)) (w.alloc (.cells (wk.flatMap Ins.cu).toArray 41)).heap.size 5 (some ⟨w.heap.size, 0, none⟩) 2 (wk.flatMap Ins.cu) :=
    (Rd.of_new w (wk.flatMap Ins.cu) 41 w.heap.size rfl rfl).mono (by simp)
  go_enter Try.func12, Try.ntmps12
  go_wp2_with fail
  refine (enc_any (some ⟨w.heap.size, 0, none⟩) 2 2 wk _ (by omega) hr0 wk_ok).mono ?_
  rintro e w1 ⟨rfl, hb1⟩
  rw [wk_encS, wk_encE]
  go_wp2_with fail
  refine (dec_any [1, 2, 0, 0, 5, 0, 5, 0, 0, 0, 0, 0] w1 (by simp)).mono ?_
  rintro e w2 ⟨A2, c2, rfl, hown2, hb2⟩
  rw [wk_decL] at hown2 ⊢
  rw [wk_decE]
  have hr2 := Rd.of_own hown2
  clear hown2 hr0
  go_wp2_with fail
  refine (dec_any [5, 0, 0, 0, 1, 0] w2 (by simp)).mono ?_
  rintro e w3 ⟨A3, c3, rfl, hown3, hb3⟩
  rw [wk_decE']
  clear hown3
  have hr3 := hr2.to hb3
  obtain ⟨b, o, x, rfl, hbl, hx, g0, g1, g2, g3, g4⟩ := hr3.insU (k := 0) (by decide)
  simp only [wk, List.getElem?_cons_zero, Option.some.injEq] at hx
  subst hx
  simp only [Nat.zero_mul, Nat.add_zero] at g0 g1 g2 g3 g4
  have hlen : wk.length = 2 := rfl
  rw [hlen] at *
  go_wp2_with fail
  refine (May_any wk _ 2 c2 w3 hr3 wk_ok (by omega)).mono ?_
  rintro e w4 ⟨rfl, hb4⟩
  rw [wk_may]
  go_wp2
  go_ret
  exact ⟨rfl, bt (bt (bt (bt hb0 hb1) hb2) hb3) hb4⟩
end Go.Proofs.Ytnhnofiimidagaa
