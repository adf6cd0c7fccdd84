/-
  An argument of layer 14 opened: a slice of results; slices between two blocks.
-/
import Derived.Test.YtmiagijgecgfoaaFrame
import Derived.Test.YtmiagijgecgfoaaTWakes
import Derived.Lib.SmallJoins
namespace Go.Proofs.Ytmiagijgecgfoaa
open Go.ChangeShapes Go.WideShapes Go.ChangeAt Go.RowKit

/-- what came of a call -/
structure Res where
  e : Int
  v : Int
  h : Int
def Res.ok (x : Res) : Prop := (0 ≤ x.v ∧ x.v < 18446744073709551616) ∧ (0 ≤ x.h ∧ x.h ≤ 4294967295)
def Res.cs (x : Res) : List Value := [.int .i64 x.e, .int .u64 x.v, .int .u32 x.h]

theorem Try.cellsRes : Try.prog.cellsOf 53 = 3 := by kernel_rfl
theorem Try.cellsErr : Try.prog.cellsOf 29 = 1 := by kernel_rfl
theorem Try.cellsW64 : Try.prog.cellsOf 25 = 1 := by kernel_rfl
theorem Try.cellsHnd : Try.prog.cellsOf 38 = 1 := by kernel_rfl
theorem wf_u64 {n : Int} (h : (Lit.int .u64 n).wf = true) : 0 ≤ n ∧ n < 18446744073709551616 := by
  have : 0 ≤ n ∧ n ≤ 18446744073709551615 := by simpa [Lit.wf, IntKind.min, IntKind.max, IntKind.signed, IntKind.bits] using h
  omega
theorem wf_u32 {n : Int} (h : (Lit.int .u32 n).wf = true) : 0 ≤ n ∧ n ≤ 4294967295 := by simpa [Lit.wf, IntKind.min, IntKind.max, IntKind.signed, IntKind.bits] using h

theorem three {α : Type} {l : List α} (h : l.length = 3) : ∃ a b c, l = [a, b, c] := by
  match l, h with
  | [a, b, c], _ => exact ⟨a, b, c, rfl⟩
theorem res_of_cells {H : Type} {enc : TypeId × Value → H} {W : World} {k : Nat} {cs : List Value} {y : DataW H × List MemPlace} (ht : DataW.trod enc Try.prog W 0 (fun _ => true) true k 53 cs = some y) (hl : cs.length = 3) :
    ∃ x : Res, x.ok ∧ cs = x.cs := by
  obtain ⟨ys, n', _, _, _, hyl, hfl⟩ := DataW.trod_struct Try.underlying53 ht
  obtain ⟨c0, c1, c2, rfl⟩ := three hl
  have hyl5 : ys.length = 3 := hyl
  obtain ⟨y0, y1, y2, rfl⟩ := three hyl5
  have f0 : DataW.trod enc Try.prog W 0 (fun _ => true) true n' 29 (([c0, c1, c2].drop 0).take (Try.prog.cellsOf 29)) = some y0 := hfl 0 _ rfl
  have f1 : DataW.trod enc Try.prog W 0 (fun _ => true) true n' 25 (([c0, c1, c2].drop 1).take (Try.prog.cellsOf 25)) = some y1 := hfl 1 _ rfl
  have f2 : DataW.trod enc Try.prog W 0 (fun _ => true) true n' 38 (([c0, c1, c2].drop 2).take (Try.prog.cellsOf 38)) = some y2 := hfl 2 _ rfl
  clear hfl ht
  rw [Try.cellsErr] at f0
  rw [Try.cellsW64] at f1
  rw [Try.cellsHnd] at f2
  obtain ⟨n0, e0, _, _⟩ := DataW.trod_int Try.underlying29 f0
  obtain ⟨n1, e1, _, w1⟩ := DataW.trod_int Try.underlying25 f1
  obtain ⟨n2, e2, _, w2⟩ := DataW.trod_int Try.underlying38 f2
  simp only [List.drop_succ_cons, List.drop_zero, List.take_succ_cons, List.take_zero, List.cons.injEq, and_true] at e0 e1 e2
  subst e0 e1 e2
  exact ⟨⟨n0, n1, n2⟩, ⟨wf_u64 w1, wf_u32 w2⟩, rfl⟩

set_option maxRecDepth 100000 in
/-- an argument that is a slice of results -/
theorem open_res {H : Type} {enc : TypeId × Value → H} {W : World} {base : Nat} {v : Value} {d : DataW H} {p : List MemPlace} (hval : Value.okWide Try.prog W .any base 22 v)
    (h : DataW.Trod enc Try.prog W 0 (fun _ => true) true 22 v d p) :
    ∃ (A : Option Addr) (n cap : Nat) (l : List Res), v = .slice A n cap ∧ Rd W W.heap.size 3 A n (l.flatMap Res.cs) ∧ (∀ x ∈ l, x.ok) := by
  obtain ⟨a0, n0, c0, rfl⟩ := okWide_slice Try.underlying22 hval
  obtain ⟨fuel, hf⟩ := h
  rcases Deep.open_slice Try.underlying22 hf with ⟨hcs, _⟩ | ⟨a, len, cap, m, k, D, Pl, hcs, _, hlc, _, hm, hx, hi⟩
  · simp only [Value.cells, List.cons.injEq, Value.slice.injEq, and_true] at hcs
    obtain ⟨rfl, rfl, rfl⟩ := hcs
    exact ⟨none, 0, 0, [], rfl, Rd.none_, fun x hx => by simp at hx⟩
  · simp only [Value.cells, List.cons.injEq, Value.slice.injEq, and_true] at hcs
    obtain ⟨rfl, rfl, rfl⟩ := hcs
    simp only [if_true] at hm
    subst hm
    have hp : ∀ i, i < n0 → ∃ x : Res, x.ok ∧ ∀ j, j < 3 → W.cell? ((a.add (i * 3)).add j) = x.cs[j]? := by
      intro i hin
      obtain ⟨cs', hcell, ht⟩ := hi i (by omega)
      rw [Try.cellsRes] at hcell
      obtain ⟨_, hcl, hat⟩ := World.cells?_some hcell
      obtain ⟨x, hxo, rfl⟩ := res_of_cells ht hcl
      exact ⟨x, hxo, hat⟩
    obtain ⟨l, hl, hlp⟩ := list_of n0 hp
    refine ⟨some a, n0, _, l, rfl, Rd.of_pieces (f := Res.cs) (fun _ => rfl) (by omega) hl (fun i x hx => (hlp i x hx).2), fun x hx => ?_⟩
    obtain ⟨i, hi', rfl⟩ := List.mem_iff_getElem.1 hx
    exact (hlp i _ (List.getElem?_eq_getElem hi')).1

theorem Res.cs_len (x : Res) : x.cs.length = 3 := rfl
theorem Rd.res {w : World} {B n : Nat} {A : Option Addr} {l : List Res} (h : Rd w B 3 A n (l.flatMap Res.cs)) {k : Nat} (hk : k < n) : ∃ b o x, A = some ⟨b, o, none⟩ ∧ b < B ∧ l[k]? = some x ∧
    w.cell? ⟨b, o + k * 3, none⟩ = some (.int .i64 x.e) ∧ w.cell? ⟨b, o + k * 3 + 1, none⟩ = some (.int .u64 x.v) ∧ w.cell? ⟨b, o + k * 3 + 2, none⟩ = some (.int .u32 x.h) := by
  obtain ⟨b, o, hA, hb, hc⟩ := h.2 (by omega)
  have hl : k < l.length := by have := h.1; rw [flat_length Res.cs 3 Res.cs_len] at this; omega
  have hx : l[k]? = some l[k] := List.getElem?_eq_getElem hl
  have hf := flat_get Res.cs 3 Res.cs_len l k _ hx
  exact ⟨b, o, l[k], hA, hb, hx, hc (k * 3) _ ((hf 0 (by omega)).trans rfl), hc (k * 3 + 1) _ ((hf 1 (by omega)).trans rfl), hc (k * 3 + 2) _ ((hf 2 (by omega)).trans rfl)⟩
theorem Rd.lenR {w : World} {B n : Nat} {A : Option Addr} {l : List Res} (h : Rd w B 3 A n (l.flatMap Res.cs)) : l.length = n := by have := h.1; rw [flat_length Res.cs 3 Res.cs_len] at this; omega

/-- a slice whose block lies between two others -/
def RdB (w : World) (lo hi size : Nat) (A : Option Addr) (n : Nat) (xs : List Value) : Prop :=
  xs.length = n * size ∧ (0 < n → ∃ b o, A = some ⟨b, o, none⟩ ∧ lo ≤ b ∧ b < hi ∧ ∀ j u, xs[j]? = some u → w.cell? ⟨b, o + j, none⟩ = some u)
section
variable {w w' : World} {lo hi size n : Nat} {A : Option Addr} {xs : List Value}
theorem RdB.rd (h : RdB w lo hi size A n xs) (hh : hi ≤ w.heap.size) : Rd w w.heap.size size A n xs :=
  ⟨h.1, fun hn => by obtain ⟨b, o, e, _, h2, hc⟩ := h.2 hn; exact ⟨b, o, e, by omega, hc⟩⟩
theorem RdB.to (h : RdB w lo hi size A n xs) (hh : hi ≤ w.heap.size) (hb : Below w.heap.size w w') : RdB w' lo hi size A n xs :=
  ⟨h.1, fun hn => by
    obtain ⟨b, o, e, h1, h2, hc⟩ := h.2 hn
    exact ⟨b, o, e, h1, h2, fun j u hu => (hb.cell (p := ⟨b, o + j, none⟩) (show b < w.heap.size by omega)).trans (hc j u hu)⟩⟩
theorem RdB.set_ (h : RdB w lo hi size A n xs) {p : Addr} (hp : p.block < lo ∨ hi ≤ p.block) (v : Value) : RdB (w.setCell p v) lo hi size A n xs :=
  ⟨h.1, fun hn => by
    obtain ⟨b, o, e, h1, h2, hc⟩ := h.2 hn
    refine ⟨b, o, e, h1, h2, fun j u hu => (World.cell?_setCell_other _ _ _ _ ?_).trans (hc j u hu)⟩
    rintro rfl
    simp only at hp
    omega⟩
theorem RdB.of_own {base : Nat} {e : TypeId} {c : Nat} (h : w.ownsRow base e size (.slice A n c) n xs) : RdB w base w.heap.size size A n xs := by
  refine ⟨h.1, fun hn => ?_⟩
  obtain ⟨g, cap, hv, hlo, hlt⟩ := h.form hn
  have hA : A = some ⟨g, 0, none⟩ := by injection hv
  subst hA
  refine ⟨g, 0, rfl, hlo, hlt, fun j u hu => ?_⟩
  have := h.cells (g := g) rfl j u hu
  have ha : (⟨g, 0, none⟩ : Addr).add j = ⟨g, 0 + j, none⟩ := by unfold Addr.add; split <;> simp_all
  rwa [ha] at this
end
theorem RdB.ten {w : World} {lo hi size n g : Nat} {A : Option Addr} {xs : List Value} (h : RdB w lo hi size A n xs) (hg : g < lo ∨ hi ≤ g) (v0 v1 v2 v3 v4 v5 v6 v7 v8 v9 : Value) :
    RdB ((((((((((w.setCell ⟨g, 0, none⟩ v0).setCell ⟨g, 1, none⟩ v1).setCell ⟨g, 2, none⟩ v2).setCell ⟨g, 3, none⟩ v3).setCell ⟨g, 4, none⟩ v4).setCell ⟨g, 5, none⟩ v5).setCell ⟨g, 6, none⟩ v6).setCell ⟨g, 7, none⟩ v7).setCell ⟨g, 8, none⟩ v8).setCell ⟨g, 9, none⟩ v9) lo hi size A n xs :=
  (((((((((h.set_ (p := ⟨g, 0, none⟩) hg v0).set_ (p := ⟨g, 1, none⟩) hg v1).set_ (p := ⟨g, 2, none⟩) hg v2).set_ (p := ⟨g, 3, none⟩) hg v3).set_ (p := ⟨g, 4, none⟩) hg v4).set_ (p := ⟨g, 5, none⟩) hg v5).set_ (p := ⟨g, 6, none⟩) hg v6).set_ (p := ⟨g, 7, none⟩) hg v7).set_ (p := ⟨g, 8, none⟩) hg v8).set_ (p := ⟨g, 9, none⟩) hg v9
theorem Bx.far10 {w : World} {g g' : Nat} {cs : Array Value} (h : Bx w g' cs) (hg : g ≠ g') (v0 v1 v2 v3 v4 v5 v6 v7 v8 v9 : Value) :
    Bx ((((((((((w.setCell ⟨g, 0, none⟩ v0).setCell ⟨g, 1, none⟩ v1).setCell ⟨g, 2, none⟩ v2).setCell ⟨g, 3, none⟩ v3).setCell ⟨g, 4, none⟩ v4).setCell ⟨g, 5, none⟩ v5).setCell ⟨g, 6, none⟩ v6).setCell ⟨g, 7, none⟩ v7).setCell ⟨g, 8, none⟩ v8).setCell ⟨g, 9, none⟩ v9) g' cs :=
  (((((((((h.far (p := ⟨g, 0, none⟩) hg v0).far (p := ⟨g, 1, none⟩) hg v1).far (p := ⟨g, 2, none⟩) hg v2).far (p := ⟨g, 3, none⟩) hg v3).far (p := ⟨g, 4, none⟩) hg v4).far (p := ⟨g, 5, none⟩) hg v5).far (p := ⟨g, 6, none⟩) hg v6).far (p := ⟨g, 7, none⟩) hg v7).far (p := ⟨g, 8, none⟩) hg v8).far (p := ⟨g, 9, none⟩) hg v9

/-- the registers stay words -/
theorem wrap_u64 (x : Int) : 0 ≤ IntKind.u64.wrap x ∧ IntKind.u64.wrap x < 18446744073709551616 := by
  simp [IntKind.wrap, IntKind.bits, IntKind.signed]
  omega
theorem U64.upd {r : Nat → Int} (h : U64 r) (k : Nat) {x : Int} (hx : 0 ≤ x ∧ x < 18446744073709551616) : U64 (upd r k x) := fun i hi => by
  unfold Proofs.Ytmiagijgecgfoaa.upd
  split
  · exact hx
  · exact h i hi
theorem U64.sR {l : List Ins} (hp : Prog l) {nx : Nat} {r : Nat → Int} (h : U64 r) : U64 (sR l nx r) := by
  unfold Proofs.Ytmiagijgecgfoaa.sR
  cases hx : l[nx]? with
  | none => exact h
  | some x =>
    obtain ⟨xo, ka, kb, kc, kn, rfl, ha, hb, hc, hk, ho, hj⟩ := hp.get hx
    simp only
    split
    · exact h.upd _ (by omega)
    · split
      · exact h.upd _ (wrap_u64 _)
      · split
        · exact h.upd _ (wrap_u64 _)
        · split
          · exact h.upd _ (wrap_u64 _)
          · exact h
theorem U64.tR {l : List Ins} {nx : Nat} {r : Nat → Int} (h : U64 r) {x : Res} (hx : x.ok) : U64 (tR l nx r x.e x.v x.h) := by
  unfold Proofs.Ytmiagijgecgfoaa.tR
  obtain ⟨h1, h2⟩ := hx
  split
  · exact h
  · exact ((h.upd _ h1).upd _ (by omega)).upd _ (wrap_u64 _)
end Go.Proofs.Ytmiagijgecgfoaa
