/-
  A range over the records of a journal, whatever the loop's own body does: the round's record, the block for the rounds' deferred calls, the iterator's end.
-/
import Derived.Test.YtnhnofiimidagaaJIter
import Derived.RangeFuncOwn
import Derived.RangeFuncFrom
namespace Go.Proofs.Ytnhnofiimidagaa
open Go.RowKit

/-- how the body of a round is left -/
def bodyEnd (I : Nat → World → Prop) (Ix : Nat → World → Prop) (e : Nat) (W : World) : Exit → Act → World → Prop
  | .normal, _, W' => KeepsOthers W W' ∧ I e W'
  | .exit i, _, W' => KeepsOthers W W' ∧ Ix i W'
  | _, _, _ => False

/-- what is said between two rounds abides new blocks, turns of blocks at or beyond B that are no cells, and stores into the place's box -/
structure Lasts (B Ba : Nat) (I : Nat → World → Prop) : Prop where
  grown : ∀ a W W' row, I a W → W.grownBy W' row → (∀ r, row = some r → B ≤ r ∧ ∃ o : Obj, W.heap[r]? = some o ∧ o.isCells = false) → I a W'
  set_ : ∀ a W v, I a W → I a (W.setCell ⟨Ba, 0, none⟩ v)
theorem Lasts.putObj {B Ba : Nat} {I : Nat → World → Prop} (h : Lasts B Ba I) {a : Nat} {W : World} {l : Nat} {o : Obj} (o' : Obj) (hs : I a W) (hB : B ≤ l) (hl : W.heap[l]? = some o) (ho : o.isCells = false) : I a (W.putObj l o') :=
  h.grown a W _ (some l) hs (grownBy_putObj' W l o') (fun r e => by cases e; exact ⟨hB, o, hl, ho⟩)
theorem Lasts.alloc {B Ba : Nat} {I : Nat → World → Prop} (h : Lasts B Ba I) {a : Nat} {W : World} (o : Obj) (hs : I a W) : I a (W.alloc o) :=
  h.grown a W _ none hs (World.grownBy_alloc W o none) (fun r e => by cases e)
theorem Lasts.below {B Ba : Nat} {I : Nat → World → Prop} (h : Lasts B Ba I) {a : Nat} {W W' : World} (hs : I a W) (hb : Below W.heap.size W W') : I a W' :=
  h.grown a W W' none hs ⟨hb.os, hb.tape, hb.output, hb.size, fun k hk _ => hb.block k hk⟩ (fun r e => by cases e)

set_option maxHeartbeats 2000000 in
theorem range_recs (j : List UInt8) (hj : j.length ≤ 1000000) (n : Nat) {g : Operand} {ps : Array Tmp} {assign body : Code} {Q : Exit → Act → World → Prop} {a : Act} {w : World} (Ba Bj a0 : Nat)
    (hg : a.eval g = .func (.func 62) #[] #[.pointer (some ⟨Ba, 0, none⟩), .pointer (some ⟨Bj, 0, none⟩)]) (hps : ps.size = 2)
    (hba : Bx w Ba #[.int .i64 a0]) (h4 : 4 ≤ a0) (hle : a0 ≤ j.length)
    (I : Nat → World → Prop) (Ix : Nat → World → Prop) (hI : Lasts w.heap.size Ba I) (hIx : Lasts w.heap.size Ba Ix)
    (hbox : ∀ at_ W, I at_ W → (∃ v, Bx W Ba #[v]) ∧ Bx W Bj #[.string (S j)]) (h0 : I a0 w)
    (a₁ : List UInt8 → Nat → Act)
    (hassign : ∀ (l : Nat) (p : List UInt8) (e : Nat) (W : World) (K : Act → World → Prop), K (a₁ p e) W →
      assign.wpIn (Fence.wide.inRound l) n Try.prog (Exit.then K (fun _ _ _ => False)) { tmps := (ps.zip #[.string (S p), .int .i64 e]).foldl (fun t (p, v) => t.setIfInBounds p v) a.tmps, defers := [] } W)
    (hbody : ∀ (l at_ : Nat) (p : List UInt8) (e : Nat) (W : World), I at_ W → w.heap.size < W.heap.size → goodAt j at_ = some (p, e) → body.wpIn (Fence.wide.inRound l) n Try.prog (bodyEnd I Ix e W) (a₁ p e) W)
    (hdone : ∀ (D at_ : Nat) (W : World), w.heap.size ≤ D → goodAt j at_ = none → I at_ W → W.heap[D]? = some (.deferred (some [])) → Q .normal { a with defers := { target := .collected D, args := #[] } :: a.defers } W)
    (hstop : ∀ (D i : Nat) (W : World), w.heap.size ≤ D → Ix i W → W.heap[D]? = some (.deferred (some [])) → (Code.exit i).wp Try.prog Q { a with defers := { target := .collected D, args := #[] } :: a.defers } W) :
    (Code.rangeFunc g ps assign body).wp Try.prog Q a w := by
  refine (wpIn_wide (n := n + 1)).1 (wpIn_rangeFunc ?_)
  intro fn hfn
  obtain ⟨rec, hrec⟩ : ∃ rec : LoopState → Option Code → Loop, rec = fun st pe => { state := st, pending := pe, fn, tmps := a.tmps, params := ps, assign, body, defers := w.heap.size } := ⟨_, rfl⟩
  obtain ⟨W1, hW1⟩ : ∃ W1, (w.alloc (.deferred (some []))).alloc (.loop (rec .ready none)) = W1 := ⟨_, rfl⟩
  have hL1 : W1.heap[w.heap.size + 1]? = some (.loop (rec .ready none)) := by
    rw [← hW1]; have := World.alloc_heap_new (w.alloc (.deferred (some []))) (.loop (rec .ready none)); rwa [World.size_alloc] at this
  have hK1 : W1.heap[w.heap.size]? = some (.deferred (some [])) := by
    rw [← hW1]; exact (Below.heap_alloc _ _ _ (by simp)).trans (World.alloc_heap_new w _)
  have hI1 : I a0 W1 := by rw [← hW1]; exact hI.alloc _ (hI.alloc _ h0)
  have hba1 : Bx W1 Ba #[.int .i64 a0] := by rw [← hW1]; exact (hba.alloc _).alloc _
  have eg : ∀ args w, (callFunc 62 args).run Try.prog w = .ok (.enter 62 args) w := enters_of Try.func62 (by kernel_rfl) rfl
  refine ⟨w.heap.size + 1, [{ target := .collected w.heap.size, args := #[] }], W1, { target := .fn (.func 62) #[.pointer (some ⟨Ba, 0, none⟩), .pointer (some ⟨Bj, 0, none⟩)], args := #[.func (.yield (w.heap.size + 1)) #[] #[]] }, W1, 62,
    #[.func (.yield (w.heap.size + 1)) #[] #[], .pointer (some ⟨Ba, 0, none⟩), .pointer (some ⟨Bj, 0, none⟩)], W1, ?_, ?_, ?_, ?_, fun _ => by omega, ?_⟩
  · rw [← hW1, hrec]; exact run_enterLoop_outer _ _ _ _ _
  · simp only [resolve, hg]
    simp [go_sem]
  · intro f' _; trivial
  · simp [invoke, go_sem, eg]
  · have keep : ∀ {A B : World} {k : Nat} {o : Obj}, Below A.heap.size A B → A.heap[k]? = some o → B.heap[k]? = some o := fun hb hk => (hb.block _ (Array.getElem?_eq_some_iff.1 hk).1).trans hk
    have keepS : ∀ {A : World} {k : Nat} {o : Obj} (v : Value), o.isCells = false → A.heap[k]? = some o → (A.setCell ⟨Ba, 0, none⟩ v).heap[k]? = some o := fun v ho hk => (KeepsOthers.setCell _ _ v).same _ _ hk ho
    refine callsIn_wide.2 ((recs_any j hj n (w.heap.size + 1)
      (fun at_ W => I at_ W ∧ W.heap[w.heap.size + 1]? = some (.loop (rec .ready none)) ∧ W.heap[w.heap.size]? = some (.deferred (some [])))
      (fun W => ∃ i, Ix i W ∧ W.heap[w.heap.size + 1]? = some (.loop (rec .done (some (.exit i)))) ∧ W.heap[w.heap.size]? = some (.deferred (some [])))
      Ba Bj (Lib.hid fun at_ W hs => hbox at_ W hs.1)
      (Lib.hid fun at_ W W' hs hb => ⟨hI.below hs.1 hb, keep hb hs.2.1, keep hb hs.2.2⟩)
      (Lib.hid fun at_ W v hs => ⟨hI.set_ _ _ v hs.1, keepS v rfl hs.2.1, keepS v rfl hs.2.2⟩)
      (Lib.hid ?_) a0 W1 ⟨hI1, hL1, hK1⟩ hba1 h4 hle).mono ?_)
    · rintro at_ p e W ⟨hi, hl, hk⟩ _ hgood
      have hlt : w.heap.size + 1 < W.heap.size := (Array.getElem?_eq_some_iff.1 hl).1
      have hy := run_yield (P := Try.prog) (args := #[.string (S p), .int .i64 e]) hl (by rw [hrec]; exact hps.symm)
      rw [hrec] at hy
      refine ⟨fn, _, assign, body, hy, roundIn_of_wpIn hfn (hassign _ p e W _ ⟨_, run_beginRound hl (by rw [hrec]), ?_⟩)⟩
      have hl2 : (W.putObj (w.heap.size + 1) (.loop { rec .ready none with state := .busy })).heap[w.heap.size + 1]? = some (.loop { rec .ready none with state := .busy }) := World.putObj_heap_same hlt
      have hk2 : (W.putObj (w.heap.size + 1) (.loop { rec .ready none with state := .busy })).heap[w.heap.size]? = some (.deferred (some [])) := (World.putObj_heap_other (by omega)).trans hk
      refine wpIn_mono (hbody _ at_ p e _ (hI.putObj _ hi (by omega) hl rfl) (by rw [World.putObj_size]; omega) hgood) ?_
      have fin : ∀ (jump : Option Code) (W3 : World), KeepsOthers (W.putObj (w.heap.size + 1) (.loop { rec .ready none with state := .busy })) W3 →
          (Instr.endRound (w.heap.size + 1) jump).run Try.prog W3 = .ok (.bool jump.isNone) (W3.putObj (w.heap.size + 1) (.loop (rec (if jump.isNone then .ready else .done) jump))) ∧
          W3.heap[w.heap.size + 1]? = some (.loop { rec .ready none with state := .busy }) ∧
          (W3.putObj (w.heap.size + 1) (.loop (rec (if jump.isNone then .ready else .done) jump))).heap[w.heap.size + 1]? = some (.loop (rec (if jump.isNone then .ready else .done) jump)) ∧
          (W3.putObj (w.heap.size + 1) (.loop (rec (if jump.isNone then .ready else .done) jump))).heap[w.heap.size]? = some (.deferred (some [])) := fun jump W3 hk3 => by
        have hl3 := hk3.same _ _ hl2 rfl
        have := run_endRound (P := Try.prog) jump hl3
        rw [hrec] at this ⊢
        exact ⟨this, by rw [hrec] at hl3; exact hl3, World.putObj_heap_same (Array.getElem?_eq_some_iff.1 hl3).1, (World.putObj_heap_other (by omega)).trans (hk3.same _ _ hk2 rfl)⟩
      rintro en a3 W3 hp
      cases en with
      | normal =>
        obtain ⟨hk3, hi3⟩ := hp
        obtain ⟨hr, hl3, hl4, hk4⟩ := fin none W3 hk3
        exact ⟨_, _, hr, .inl ⟨rfl, hI.putObj _ hi3 (by omega) hl3 rfl, hl4, hk4⟩⟩
      | exit i =>
        obtain ⟨hk3, hi3⟩ := hp
        obtain ⟨hr, hl3, hl4, hk4⟩ := fin (some (.exit i)) W3 hk3
        exact ⟨_, _, hr, .inr ⟨rfl, i, hIx.putObj _ hi3 (by omega) hl3 rfl, hl4, hk4⟩⟩
      | ret => exact hp.elim
      | goto t => exact hp.elim
      | panic ch => exact hp.elim
      | outgrown => exact hp.elim
    · rintro e W2 ⟨⟨v, rfl⟩, (⟨at_, hgood, hi, hl, hk⟩ | ⟨i, hi, hl, hk⟩)⟩
      · exact ⟨none, _, by have := run_endLoop (P := Try.prog) hl (by rw [hrec]; simp); rw [hrec] at this; exact this, hdone _ at_ _ (Nat.le_refl _) hgood (hI.putObj _ hi (by omega) hl rfl) ((World.putObj_heap_other (by omega)).trans hk)⟩
      · exact ⟨some (.exit i), _, by have := run_endLoop (P := Try.prog) hl (by rw [hrec]; simp); rw [hrec] at this; exact this, wpIn_wide.2 (hstop _ i _ (Nat.le_refl _) (hIx.putObj _ hi (by omega) hl rfl) ((World.putObj_heap_other (by omega)).trans hk))⟩
end Go.Proofs.Ytnhnofiimidagaa
