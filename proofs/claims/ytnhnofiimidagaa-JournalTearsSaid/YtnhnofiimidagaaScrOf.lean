/-
  The walk of bailiwicklaw18.Of.
-/
import Derived.Test.YtnhnofiimidagaaScrGreat
namespace Go.Proofs.Ytnhnofiimidagaa
open Go.RowKit

set_option maxRecDepth 100000 in
set_option maxHeartbeats 2000000 in
theorem sof_any (pg : Int) (pk : List UInt8) (A : Option Addr) (n c : Nat) (w : World) (hpk : pk.length ≤ 140737488355328) :
    Calls Try.prog 23 #[rscrV pg A n c pk] w fun e w' => ∃ A2 c2, e = .returned (scrV pg A n c A2 pk.length c2) ∧ OwnB w' w.heap.size 5 (.slice A2 pk.length c2) pk.length (pk.map byteV) ∧ Below w.heap.size w w' := by
  simp only [rscrV, scrV]
  obtain ⟨c2, w1, hrun, hb1, hsz1, hown⟩ := run_bytes (P := Try.prog) ((w.alloc (.cells #[.int .i64 pg, .slice A n c, .string (S pk)] 44)).alloc (.cells #[.int .i64 0, .slice none 0 0, .slice none 0 0] 49)) pk _ _ _ Try.underlying9 Try.underlying47 Try.underlying5 hpk
  have hb0 : Below w.heap.size w ((w.alloc (.cells #[.int .i64 pg, .slice A n c, .string (S pk)] 44)).alloc (.cells #[.int .i64 0, .slice none 0 0, .slice none 0 0] 49)) :=
    ((Below.refl _ _).alloc (Nat.le_refl _) _).alloc (by simp) _
  have c0 : w1.cell? ⟨w.heap.size + 1, 0, none⟩ = some (.int .i64 0) := new_cell' hb1 0 (by simp)
  have c1 : w1.cell? ⟨w.heap.size + 1, 1, none⟩ = some (.slice none 0 0) := new_cell' hb1 1 (by simp)
  have c2' : w1.cell? ⟨w.heap.size + 1, 2, none⟩ = some (.slice none 0 0) := new_cell' hb1 2 (by simp)
  have f0 : w1.frozen? ⟨w.heap.size + 1, 0, none⟩ = false := new_frozen' hb1 0 (by simp)
  have f1 : w1.frozen? ⟨w.heap.size + 1, 1, none⟩ = false := new_frozen' hb1 1 (by simp)
  have f2 : w1.frozen? ⟨w.heap.size + 1, 2, none⟩ = false := new_frozen' hb1 2 (by simp)
  have hbb := hb0.trans (hb1.mono (by simp; omega))
  have e1 : ((w.alloc (.cells #[.int .i64 pg, .slice A n c, .string (S pk)] 44)).alloc (.cells #[.int .i64 0, .slice none 0 0, .slice none 0 0] 49)).heap.size = w.heap.size + 2 := by simp
  rw [e1] at hrun hown hsz1
  clear e1 hb1 hb0
  go_enter Try.func23, Try.ntmps23
  go_wp2
  have hown' := ((((hown.mono (base' := w.heap.size) (by omega)).setCell (p := ⟨w.heap.size + 1, 0, none⟩) (by simp [Value.ownBlock]) (.int .i64 pg)).setCell (p := ⟨w.heap.size + 1, 1, none⟩) (by simp [Value.ownBlock]) (.slice A n c)).setCell
    (p := ⟨w.heap.size + 1, 2, none⟩) (by simp [Value.ownBlock]) (.slice (some ⟨w.heap.size + 2, 0, none⟩) pk.length c2))
  have hb' := ((hbb.setCell (p := ⟨w.heap.size + 1, 0, none⟩) (by simp) (.int .i64 pg)).setCell (p := ⟨w.heap.size + 1, 1, none⟩) (by simp) (.slice A n c)).setCell
    (p := ⟨w.heap.size + 1, 2, none⟩) (by simp) (.slice (some ⟨w.heap.size + 2, 0, none⟩) pk.length c2)
  exact bodyPost_ret (v := .agg #[.int .i64 pg, .slice A n c, .slice (some ⟨w.heap.size + 2, 0, none⟩) pk.length c2]) (by simp [results, Try.results23, go_sem, *]) rfl ⟨_, _, rfl, hown', hb'⟩
end Go.Proofs.Ytnhnofiimidagaa
