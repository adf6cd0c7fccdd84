/-
  A map from int to bool in which each value is true: a set of places. No function of the program.
-/
import Derived.Test.YtmiagijgecgfoaaTMap
namespace Go.Proofs.Ytmiagijgecgfoaa
open Go.RowKit

/-- block b is a set of places -/
def IsSet (w : World) (b : Nat) (S : Nat → Bool) : Prop :=
  ∃ es clock, w.heap[b]? = some (.map es clock) ∧ (∀ e ∈ es.toList, ∃ k : Nat, e.key = .int .i64 k ∧ e.val = .bool true ∧ S k = true) ∧ ∀ k : Nat, S k = true → ∃ e ∈ es.toList, e.key = .int .i64 k
def addS (S : Nat → Bool) (k : Nat) : Nat → Bool := fun i => if i = k then true else S i
section
variable {w w' : World} {b : Nat} {S : Nat → Bool}
theorem IsSet.to (h : IsSet w b S) (hb : Below w.heap.size w w') : IsSet w' b S := by
  obtain ⟨es, clock, h1, h2, h3⟩ := h
  exact ⟨es, clock, (hb.block b (Array.getElem?_eq_some_iff.1 h1).1).trans h1, h2, h3⟩
theorem IsSet.lt (h : IsSet w b S) : b < w.heap.size := by
  obtain ⟨es, clock, h1, _⟩ := h
  exact (Array.getElem?_eq_some_iff.1 h1).1
theorem IsSet.other {b' : Nat} {es : Array MapEntry} {clock : Nat} (h : IsSet w b S) (hne : b ≠ b') : IsSet (mapW w b' es clock) b S := by
  obtain ⟨es', clock', h1, h2, h3⟩ := h
  exact ⟨es', clock', (mapW_other hne).trans h1, h2, h3⟩
variable {P : Program} {t kt et : TypeId}
theorem IsSet.look (h : IsSet w b S) (ht : P.underlying t = some (.map kt et)) (hk : P.underlying kt = some (.int .i64)) (hz : ∀ w, (zeroValue et).run P w = .ok (.bool false) w) (k : Nat) :
    (Instr.lookup t (.map (some b)) (.int .i64 k) false).run P w = .ok (.bool (S k)) w := by
  obtain ⟨es, clock, hg, h2, h3⟩ := h
  have hkey : MapKept.IsKey (.int .i64) (.int .i64 (k : Int)) := rfl
  have hks : ∀ x ∈ es.toList, MapKept.IsKey (.int .i64) x.key := fun x hx => by obtain ⟨q, e, _⟩ := h2 x hx; rw [e]; rfl
  rcases MapKept.findNow_spec hkey es.toList 0 hks with ⟨hf, hno⟩ | ⟨j, e, hf, hj, he⟩
  · have hS : S k = false := by
      cases hq : S k with
      | false => rfl
      | true => obtain ⟨e, he, hk2⟩ := h3 k hq; exact absurd hk2 (hno e he)
    rw [hS]
    simp [Instr.lookup, run_underlying ht, MapKept.run_getObj_map hg, MapKept.run_checkKey hk hkey, MapKept.run_findKey hk hf, Result.andThen, hz]
  · obtain ⟨q, e1, e2, e3⟩ := h2 e (List.mem_of_getElem? hj)
    have hqk : q = k := by rw [he] at e1; injection e1 with _ e1; omega
    subst hqk
    rw [e3]
    rw [e2] at hf
    simp [Instr.lookup, run_underlying ht, MapKept.run_getObj_map hg, MapKept.run_checkKey hk hkey, MapKept.run_findKey hk hf, Result.andThen]
theorem IsSet.make (t : TypeId) (w : World) : ∃ w', (Instr.makeMap t none).run P w = .ok (.map (some w.heap.size)) w' ∧ IsSet w' w.heap.size (fun _ => false) ∧ w' = mapW (w.alloc (.map #[] 0)) w.heap.size (ents []) 0 :=
  ⟨_, run_make w, ⟨ents [], 0, mapW_same (by simp), fun e he => by simp [ents] at he, fun k hk => by cases hk⟩, rfl⟩
theorem IsSet.put (h : IsSet w b S) (ht : P.underlying t = some (.map kt et)) (hk : P.underlying kt = some (.int .i64)) (k : Nat) :
    ∃ es clock, (Instr.mapUpdate t (.map (some b)) (.int .i64 k) (.bool true)).run P w = .ok () (mapW w b es clock) ∧ IsSet (mapW w b es clock) b (addS S k) := by
  have hlt := h.lt
  obtain ⟨es, clock, hg, h2, h3⟩ := h
  have hkey : MapKept.IsKey (.int .i64) (.int .i64 (k : Int)) := rfl
  have hks : ∀ x ∈ es.toList, MapKept.IsKey (.int .i64) x.key := fun x hx => by obtain ⟨q, e, _⟩ := h2 x hx; rw [e]; rfl
  rcases MapKept.findNow_spec hkey es.toList 0 hks with ⟨hf, hno⟩ | ⟨j, e, hf, hj, he⟩
  · refine ⟨es.push { key := .int .i64 k, val := .bool true, born := clock }, clock + 1, ?_, _, _, mapW_same hlt, ?_, ?_⟩
    · simp only [Instr.mapUpdate, Sem.run_bind, run_underlying ht, MapKept.run_getObj_map hg, MapKept.run_checkKey hk hkey, MapKept.run_findKey hk hf, MapKept.run_setObj_map _ hg, Result.andThen]
      rfl
    · intro e he
      simp only [Array.toList_push, List.mem_append, List.mem_singleton] at he
      rcases he with he | rfl
      · obtain ⟨q, e1, e2, e3⟩ := h2 e he
        exact ⟨q, e1, e2, by unfold addS; split; rfl; exact e3⟩
      · exact ⟨k, rfl, rfl, by simp [addS]⟩
    · intro q hq
      simp only [Array.toList_push, List.mem_append, List.mem_singleton]
      unfold addS at hq
      split at hq
      · rename_i e; subst e; exact ⟨_, .inr rfl, rfl⟩
      · obtain ⟨e, he, hk2⟩ := h3 q hq
        exact ⟨e, .inl he, hk2⟩
  · obtain ⟨q, e1, e2, e3⟩ := h2 e (List.mem_of_getElem? hj)
    have hqk : q = k := by rw [he] at e1; injection e1 with _ e1; omega
    subst hqk
    have hj' : es[j]? = some e := by simpa using hj
    have hm : (es.modify j fun e => { e with key := .int .i64 (q : Int), val := .bool true }) = es := by
      apply Array.ext_getElem?
      intro i
      rw [Array.getElem?_modify]
      by_cases hi : j = i
      · subst hi
        rw [if_pos rfl, hj', Option.map_some]
        congr 1
        obtain ⟨ek, ev, eb⟩ := e
        simp only at he e2
        rw [he, e2]
      · rw [if_neg hi]
    have hS : addS S q = S := by
      funext i
      unfold addS
      split
      · rename_i e; rw [e, e3]
      · rfl
    refine ⟨es, clock, ?_, by rw [hS]; exact ⟨es, clock, mapW_same hlt, h2, h3⟩⟩
    have hf' : Instr.findNow (.int .i64) (.int .i64 (q : Int)) es.toList 0 = some (some (j, e.val)) := by simpa using hf
    simp [Instr.mapUpdate, run_underlying ht, MapKept.run_getObj_map hg, MapKept.run_checkKey hk hkey, MapKept.run_findKey hk hf', hj', he, MapKept.run_keyThatStays hkey, MapKept.run_setObj_map _ hg, Result.andThen, hm, mapW]
theorem IsSet.size (h : IsSet w b S) : ∃ es clock, w.heap[b]? = some (.map es clock) ∧ (0 < es.size ↔ ∃ k, S k = true) := by
  obtain ⟨es, clock, hg, h2, h3⟩ := h
  refine ⟨es, clock, hg, fun h => ?_, fun ⟨k, hk⟩ => ?_⟩
  · obtain ⟨k, _, _, hk⟩ := h2 es[0] (by simp)
    exact ⟨k, hk⟩
  · obtain ⟨e, he, _⟩ := h3 k hk
    have := List.length_pos_of_mem he
    simpa using this
theorem IsSet.make' (t : TypeId) {w0 : World} (hb : Below w0.heap.size w0 w) : ∃ w', (Instr.makeMap t none).run P w = .ok (.map (some w.heap.size)) w' ∧ IsSet w' w.heap.size (fun _ => false) ∧ Below w0.heap.size w0 w' ∧ Below w.heap.size w w' := by
  obtain ⟨w', h1, h2, h3⟩ := IsSet.make (P := P) t w
  subst h3
  exact ⟨_, h1, h2, mapW_below (hb.alloc hb.size _) hb.size, mapW_below ((Below.refl _ _).alloc (Nat.le_refl _) _) (Nat.le_refl _)⟩
theorem IsSet.put' {w0 : World} (h : IsSet w b S) (ht : P.underlying t = some (.map kt et)) (hk : P.underlying kt = some (.int .i64)) (hb : Below w0.heap.size w0 w) (hle : w0.heap.size ≤ b) (k : Nat) :
    ∃ w', (Instr.mapUpdate t (.map (some b)) (.int .i64 k) (.bool true)).run P w = .ok () w' ∧ IsSet w' b (addS S k) ∧ Below w0.heap.size w0 w' ∧ w'.heap.size = w.heap.size ∧ ∀ b' S', b' ≠ b → IsSet w b' S' → IsSet w' b' S' := by
  obtain ⟨es, clock, h1, h2⟩ := h.put ht hk k
  exact ⟨_, h1, h2, mapW_below hb hle, mapW_size _ _ _ _, fun b' S' hne h' => h'.other hne⟩
end
end Go.Proofs.Ytmiagijgecgfoaa
