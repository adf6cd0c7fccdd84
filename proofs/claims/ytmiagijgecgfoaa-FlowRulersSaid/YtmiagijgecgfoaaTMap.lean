/-
  A map of functions that the call itself has made, of the keys 1, 2, .. in a row: its block after each store, and a look-up. No function of the program.
-/
import Derived.Test.YtmiagijgecgfoaaTBase
import Derived.MapKept
import Derived.Carry
namespace Go.Proofs.Ytmiagijgecgfoaa
open Go.RowKit

/-- block b is a map of these entries -/
def mapW (w : World) (b : Nat) (es : Array MapEntry) (clock : Nat) : World := { w with heap := w.heap.setIfInBounds b (.map es clock) }
@[go_sem, simp] theorem mapW_size (w : World) (b : Nat) (es : Array MapEntry) (clock : Nat) : (mapW w b es clock).heap.size = w.heap.size := by simp [mapW]
theorem mapW_same {w : World} {b : Nat} {es : Array MapEntry} {clock : Nat} (hb : b < w.heap.size) : (mapW w b es clock).heap[b]? = some (.map es clock) := by simp [mapW, hb]
theorem mapW_other {w : World} {b k : Nat} {es : Array MapEntry} {clock : Nat} (h : k ≠ b) : (mapW w b es clock).heap[k]? = w.heap[k]? := by
  simp [mapW, Array.getElem?_setIfInBounds_ne (Ne.symm h)]
theorem mapW_mapW (w : World) (b : Nat) (es es' : Array MapEntry) (c c' : Nat) : mapW (mapW w b es c) b es' c' = mapW w b es' c' := by
  simp [mapW, Array.setIfInBounds_setIfInBounds]
theorem mapW_below {w0 w : World} {b : Nat} {es : Array MapEntry} {clock : Nat} (h : Below w0.heap.size w0 w) (hb : w0.heap.size ≤ b) : Below w0.heap.size w0 (mapW w b es clock) :=
  ⟨h.os, h.tape, h.output, by rw [mapW_size]; exact h.size, fun k hk => (mapW_other (by omega)).trans (h.block k hk)⟩
theorem Bx.mapW {w : World} {g b : Nat} {cs : Array Value} {es : Array MapEntry} {clock : Nat} (h : Bx w g cs) (hne : g ≠ b) : Bx (mapW w b es clock) g cs := by
  obtain ⟨t, h⟩ := h
  exact ⟨t, (mapW_other hne).trans h⟩

/-- entries: the keys 1, 2, .. -/
def ents (fs : List Value) : Array MapEntry := (fs.zipIdx.map fun p => ({ key := .int .u8 ((p.2 : Int) + 1), val := p.1, born := p.2 } : MapEntry)).toArray
theorem ents_push (fs : List Value) (f : Value) : (ents fs).push { key := .int .u8 ((fs.length : Int) + 1), val := f, born := fs.length } = ents (fs ++ [f]) := by
  simp [ents, List.zipIdx_append]

section
variable {P : Program} {t kt et : TypeId}
theorem run_make (w : World) : (Instr.makeMap t none).run P w = .ok (.map (some w.heap.size)) (mapW (w.alloc (.map #[] 0)) w.heap.size (ents []) 0) := by
  have h := run_makeMap (P := P) t w
  rw [h]
  congr 1
  have e : ((w.heap.push (.map #[] 0)).setIfInBounds w.heap.size (.map #[] 0)) = w.heap.push (.map #[] 0) := by
    apply Array.ext_getElem?
    intro i
    rw [Array.getElem?_setIfInBounds]
    split
    · rename_i hi
      subst hi
      simp
    · rfl
  have e2 : (ents []) = #[] := rfl
  unfold mapW
  rw [e2]
  exact (congrArg (fun h => { w.alloc (.map #[] 0) with heap := h }) e).symm
theorem run_ins (ht : P.underlying t = some (.map kt et)) (hk : P.underlying kt = some (.int .u8)) (w : World) (b : Nat) (hb : b < w.heap.size) (fs : List Value) (k : Int) (f : Value) (hkl : k = (fs.length : Int) + 1)
    (hf : Instr.findNow (.int .u8) (.int .u8 k) (ents fs).toList 0 = some none) :
    (Instr.mapUpdate t (.map (some b)) (.int .u8 k) f).run P (mapW w b (ents fs) fs.length) = .ok () (mapW w b (ents (fs ++ [f])) (fs ++ [f]).length) := by
  have hg := mapW_same (w := w) (es := ents fs) (clock := fs.length) hb
  have hkey : MapKept.IsKey (.int .u8) (.int .u8 k) := rfl
  simp only [Instr.mapUpdate, Sem.run_bind, run_underlying ht, MapKept.run_getObj_map hg, MapKept.run_checkKey hk hkey, MapKept.run_findKey hk hf, MapKept.run_setObj_map _ hg, Result.andThen]
  subst hkl
  rw [ents_push, List.length_append, List.length_singleton]
  exact congrArg (Result.ok ()) (mapW_mapW w b _ _ _ _)
theorem run_look (ht : P.underlying t = some (.map kt et)) (hk : P.underlying kt = some (.int .u8)) (w : World) (b : Nat) (hb : b < w.heap.size) (fs : List Value) (clock : Nat) (k : Int) (j : Nat) (f : Value)
    (hf : Instr.findNow (.int .u8) (.int .u8 k) (ents fs).toList 0 = some (some (j, f))) :
    (Instr.lookup t (.map (some b)) (.int .u8 k) true).run P (mapW w b (ents fs) clock) = .ok (.tuple #[f, .bool true]) (mapW w b (ents fs) clock) := by
  have hg := mapW_same (w := w) (es := ents fs) (clock := clock) hb
  have hkey : MapKept.IsKey (.int .u8) (.int .u8 k) := rfl
  simp [Instr.lookup, run_underlying ht, MapKept.run_getObj_map hg, MapKept.run_checkKey hk hkey, MapKept.run_findKey hk hf, Result.andThen]
end
end Go.Proofs.Ytmiagijgecgfoaa
