/-
  What the walks of layer 18 lean on: bytes of a string, as a slice; cells of a new block in a later world.
-/
import Derived.Test.YtnhnofiimidagaaScrMay
namespace Go.Proofs.Ytnhnofiimidagaa
open Go.RowKit

theorem hide {p : Prop} (h : p) : Hid p := h
theorem unhide {p : Prop} (h : Hid p) : p := h
theorem decOk_iff' {s : List UInt8} (h : decOk s = true) : s.length % 6 = 0 ∧ mayP (chunk s) = true := by
  unfold decOk at h
  simpa using h
theorem mayP_len {l : List Ins} (h : mayP l = true) : l.length ≤ 64 := by
  unfold mayP at h
  rw [Bool.and_eq_true] at h
  simpa using h.1
theorem bytesV_eq (l : List UInt8) : bytesV l = l.map byteV := rfl
theorem new_frozen {w w1 : World} {cs : Array Value} {t : TypeId} (hb : Below (w.alloc (.cells cs t)).heap.size (w.alloc (.cells cs t)) w1) (j : Nat) : w1.frozen? ⟨w.heap.size, j, none⟩ = false :=
  (hb.frozen (p := ⟨w.heap.size, j, none⟩) (by simp)).trans (World.frozen?_alloc_at _ _ _ _ rfl)
theorem new_cell' {w w1 : World} {cs : Array Value} {t : TypeId} {g : Nat} (hb : Below (w.alloc (.cells cs t)).heap.size (w.alloc (.cells cs t)) w1) (j : Nat) (hg : g = w.heap.size) : w1.cell? ⟨g, j, none⟩ = cs[j]? := by subst hg; exact new_cell hb j
theorem new_frozen' {w w1 : World} {cs : Array Value} {t : TypeId} {g : Nat} (hb : Below (w.alloc (.cells cs t)).heap.size (w.alloc (.cells cs t)) w1) (j : Nat) (hg : g = w.heap.size) : w1.frozen? ⟨g, j, none⟩ = false := by subst hg; exact new_frozen hb j
theorem Rd.setCell_ne {w : World} {B size n g o : Nat} {xs : List Value} (h : Rd w B size (some ⟨g, o, none⟩) n xs) {p : Addr} (hp : p.block ≠ g) (u : Value) : Rd (w.setCell p u) B size (some ⟨g, o, none⟩) n xs :=
  ⟨h.1, fun hn => by
    obtain ⟨b, o', e, hlt, hc⟩ := h.2 hn
    injection e with e
    injection e with e1 e2
    subst e1 e2
    exact ⟨_, _, rfl, hlt, fun j u' hu => (World.cell?_setCell_other w p ⟨g, o + j, none⟩ u (by intro he; subst he; exact hp rfl)).trans (hc j u' hu)⟩⟩
theorem Rd.setCell_ge {w : World} {B size n : Nat} {A : Option Addr} {xs : List Value} (h : Rd w B size A n xs) {p : Addr} (hp : B ≤ p.block) (u : Value) : Rd (w.setCell p u) B size A n xs :=
  h.below ((Below.refl B w).setCell hp u)

/-- a row of the call's own, that may bear a mark behind its cells -/
def OwnB (w : World) (base : Nat) (e : TypeId) (v : Value) (n : Nat) (xs : List Value) : Prop :=
  ∃ g cap cur fr, v = .slice (some ⟨g, 0, none⟩) n cap ∧ base ≤ g ∧ w.heap[g]? = some (.cells cur e fr) ∧ n ≤ cap ∧ cap ≤ maxLen ∧ cur.size = cap ∧ cur.toList.take n = xs ∧ xs.length = n ∧ (fr = (0, 0) ∨ cap ≤ fr.1)
theorem OwnB.rd {w : World} {base : Nat} {e : TypeId} {A : Option Addr} {n c : Nat} {xs : List Value} (h : OwnB w base e (.slice A n c) n xs) : Rd w w.heap.size 1 A n xs := by
  obtain ⟨g, cap, cur, fr, hv, _, hg, _, _, _, ht, hl, _⟩ := h
  injection hv with hA
  subst hA
  refine ⟨by omega, fun hn => ⟨g, 0, rfl, (Array.getElem?_eq_some_iff.1 hg).1, fun j u hu => ?_⟩⟩
  rw [Nat.zero_add, cell_of_row w g j cur e fr hg]
  rw [← ht, List.getElem?_take] at hu
  split at hu
  · simpa using hu
  · cases hu
theorem OwnB.below {w w' : World} {base B : Nat} {e : TypeId} {v : Value} {n : Nat} {xs : List Value} (h : OwnB w base e v n xs) (hb : Below B w w') (hB : w.heap.size ≤ B) : OwnB w' base e v n xs := by
  obtain ⟨g, cap, cur, fr, hv, hbg, hg, r⟩ := h
  have hlt := (Array.getElem?_eq_some_iff.1 hg).1
  exact ⟨g, cap, cur, fr, hv, hbg, (hb.block g (by omega)).trans hg, r⟩
theorem OwnB.setCell {w : World} {base : Nat} {e : TypeId} {v : Value} {n : Nat} {xs : List Value} (h : OwnB w base e v n xs) {p : Addr} (hp : v.ownBlock ≠ some p.block) (u : Value) : OwnB (w.setCell p u) base e v n xs := by
  obtain ⟨g, cap, cur, fr, rfl, hbg, hg, r⟩ := h
  exact ⟨g, cap, cur, fr, rfl, hbg, (Below.heap_setCell w p u g (fun he => hp (by simp [Value.ownBlock, he]))).trans hg, r⟩

theorem OwnB.mono {w : World} {base base' : Nat} {e : TypeId} {v : Value} {n : Nat} {xs : List Value} (h : OwnB w base e v n xs) (hB : base' ≤ base) : OwnB w base' e v n xs := by
  obtain ⟨g, cap, cur, fr, hv, hbg, r⟩ := h
  exact ⟨g, cap, cur, fr, hv, by omega, r⟩

/-- []byte(s) -/
theorem run_bytes {P : Program} (w : World) (l : List UInt8) (src dst e : TypeId) (hs : P.underlying src = some .string) (hd : P.underlying dst = some (.slice e)) (he : P.underlying e = some (.int .u8)) (hl : l.length ≤ 140737488355328) :
    ∃ c w', (convert src dst (.string (S l))).run P w = .ok (.slice (some ⟨w.heap.size, 0, none⟩) l.length c) w' ∧ Below w.heap.size w w' ∧ w'.heap.size = w.heap.size + 1 ∧
      OwnB w' w.heap.size e (.slice (some ⟨w.heap.size, 0, none⟩) l.length c) l.length (l.map byteV) := by
  have hr := run_bytes_of_string (P := P) w src dst e (S l) hs hd he
  rw [S_size] at hr
  have hge := grownCap_ge w l.length 0 e
  have hle := grownCap_le_maxLen w l.length 0 e (by unfold maxLen; omega)
  have hsz : (bytesRow (S l) (grownCap w l.length 0 e)).size = grownCap w l.length 0 e := by
    have : (S l).data.size = l.length := by simp [S]
    simp only [bytesRow, Array.size_append, Array.size_map, Array.size_replicate, this, S_size]
    omega
  refine ⟨_, _, hr, ((Below.refl _ _).drew.alloc (Nat.le_refl _) _), by simp, _, grownCap w l.length 0 e, _, _, rfl, Nat.le_refl _, heap_alloc_new w.drew _, hge, hle, hsz, ?_, by simp, .inr (by rw [hsz]; exact Nat.le_refl _)⟩
  have h1 : (bytesRow (S l) (grownCap w l.length 0 e)).toList = l.map byteV ++ List.replicate (grownCap w l.length 0 e - l.length) (.int .u8 0) := by
    simp only [bytesRow, Array.toList_append, Array.toList_map, Array.toList_replicate, S_size]
    rfl
  rw [h1, List.take_left' (by simp)]
end Go.Proofs.Ytnhnofiimidagaa
