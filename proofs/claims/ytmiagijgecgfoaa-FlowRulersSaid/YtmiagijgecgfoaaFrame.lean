/-
  What every law of this seat wants around its walk: its arguments read again behind a call that leaves old memory alone; a slice of instructions opened.
-/
import Derived.Test.YtmiagijgecgfoaaRows
import Derived.Test.YtmiagijgecgfoaaBase
import Derived.ProofKit
import Derived.SizedLaws
import Derived.Deep.Slices
namespace Go.Proofs.Ytmiagijgecgfoaa
open Go.ChangeShapes Go.WideShapes Go.ChangeAt Go.RowKit

theorem Try.own : ownKnob Try.prog.godebug = none := by kernel_rfl
theorem Try.laidOut : laidOutB Try.prog = true := by kernel_rfl

theorem trodAll_below {H : Type} {enc : TypeId × Value → H} {P : Program} (hl : laidOutB P = true) {W W' : World} (hb : Below W.heap.size W W') :
    ∀ {ts : List TypeId} {vs : List Value} {ds : List (DataW H)} {ps : List MemPlace}, (ts.all fun t => P.readableRec t && decide (t < P.types.size)) = true →
      DataW.TrodAll enc P W 0 (fun _ => true) true ts vs ds ps → (∀ x ∈ ps, x.block < W.heap.size) → DataW.TrodAll enc P W' 0 (fun b => decide (b < W.heap.size)) true ts vs ds ps
  | [], [], [], _, _, h, _ => h
  | t :: ts, v :: vs, d :: ds, ps, hts, h, hlt => by
    obtain ⟨p, q, h1, h2, rfl⟩ := h
    simp only [List.all_cons, Bool.and_eq_true, decide_eq_true_eq] at hts
    exact ⟨p, q, Below.trod hl hts.1.1 hts.1.2 h1 hb (fun x hx => hlt x (List.mem_append.2 (.inl hx))),
      trodAll_below hl hb hts.2 h2 (fun x hx => hlt x (List.mem_append.2 (.inr hx))), rfl⟩
  | [], [], _ :: _, _, _, h, _ => h.elim
  | [], _ :: _, [], _, _, h, _ => h.elim
  | [], _ :: _, _ :: _, _, _, h, _ => h.elim
  | _ :: _, [], [], _, _, h, _ => h.elim
  | _ :: _, [], _ :: _, _, _, h, _ => h.elim
  | _ :: _, _ :: _, [], _, _, h, _ => h.elim

/-- a law's end: true, and all as it was -/
theorem law_post {H : Type} {enc : TypeId × Value → H} {P : Program} {f : Func} {s : ChangeSpec} {W W' : World} {args : Array Value} {ds gs : List (DataW H)} {before : List MemPlace} {tb : TypeId}
    (hl : laidOutB P = true) (hts : (f.params.toList.all fun t => P.readableRec t && decide (t < P.types.size)) = true) (hrt : f.resultTypes = #[tb]) (hu : P.underlying tb = some .bool) (hvars : s.vars = [])
    (hres : (s.fn H (ds ++ [])).results = [.lit (.bool true)]) (hargs : (s.fn H (ds ++ [])).args = ds) (hvs : (s.fn H (ds ++ [])).vars = [])
    (hW : DataW.Whole enc P f.params.toList s.vars false W args.toList ds gs before) (hb : Below W.heap.size W W') :
    s.post enc P f false true false false W args (.bool true) W' := by
  have hW' := hW
  have hlt : ∀ x ∈ before, x.block < W.heap.size := fun x hx => hW.lt x hx
  obtain ⟨p, q, hA, hV, rfl, _, _⟩ := hW
  rw [hvars] at hV
  obtain ⟨rfl, rfl⟩ := trodVars_none hV
  refine ⟨ds, [], _, [], p, [], hW', ?_, ?_, ?_, World.keptBut_mono (fun x hx => ⟨hx, .inr (.inl (by simpa using hx))⟩) (hb.frame (· ∈ p ++ [])), fun h => by cases h⟩
  · rw [hres, hrt]
    exact trodAll_mk1 (shut_bool hu true)
  · rw [hargs]
    exact trodAll_below hl hb hts hA (fun x hx => hlt x (by simpa using hx))
  · rw [hvs, hvars]
    rfl

theorem list_of {α : Type} {P : Nat → α → Prop} : ∀ n, (∀ i, i < n → ∃ x, P i x) → ∃ l : List α, l.length = n ∧ ∀ i x, l[i]? = some x → P i x
  | 0, _ => ⟨[], rfl, fun i x h => by simp at h⟩
  | n + 1, h => by
    obtain ⟨l, hl, hp⟩ := list_of n (fun i hi => h i (by omega))
    obtain ⟨x, hx⟩ := h n (by omega)
    refine ⟨l ++ [x], by simp [hl], fun i y hy => ?_⟩
    by_cases hi : i < n
    · rw [List.getElem?_append_left (by omega)] at hy
      exact hp i y hy
    · rw [List.getElem?_append_right (by omega)] at hy
      have : i - l.length = 0 := by
        rcases Nat.eq_zero_or_pos (i - l.length) with h0 | h0
        · exact h0
        · rw [List.getElem?_eq_none (by simp; omega)] at hy
          cases hy
      rw [this] at hy
      simp at hy
      subst hy
      obtain rfl : i = n := by omega
      exact hx

theorem plain_of_add {w : World} {a : Addr} {v : Value} (h : w.cell? (a.add 0) = some v) : ∃ b o, a = ⟨b, o, none⟩ ∧ b < w.heap.size := by
  obtain ⟨b, o, spot⟩ := a
  have hs : spot = none := by simpa [Addr.add] using World.cell?_spot h
  subst hs
  exact ⟨b, o, rfl, by simpa [Addr.add] using World.block_lt_of_cell? _ _ h⟩
theorem add_plain' (b o j : Nat) : (⟨b, o, none⟩ : Addr).add j = ⟨b, o + j, none⟩ := by unfold Addr.add; split <;> simp_all

/-- cells by pieces, out of the pieces -/
theorem Rd.of_pieces {α : Type} {w : World} {size n : Nat} {a : Addr} {f : α → List Value} (hf : ∀ x, (f x).length = size) (h0 : 0 < size) {l : List α} (hl : l.length = n)
    (h : ∀ i x, l[i]? = some x → ∀ j, j < size → w.cell? ((a.add (i * size)).add j) = (f x)[j]?) : Rd w w.heap.size size (some a) n (l.flatMap f) := by
  refine ⟨by rw [flat_length f size hf, hl], fun hn => ?_⟩
  have hx : l[0]? = some l[0] := List.getElem?_eq_getElem (by omega)
  have hc := h 0 _ hx 0 h0
  have hsome : (f l[0])[0]? = some ((f l[0])[0]'(by rw [hf]; omega)) := List.getElem?_eq_getElem _
  rw [hsome, Nat.zero_mul] at hc
  have hc' : w.cell? (a.add 0) = some ((f l[0])[0]'(by rw [hf]; omega)) := by simpa [Addr.add] using hc
  obtain ⟨b, o, rfl, hb⟩ := plain_of_add hc'
  refine ⟨b, o, rfl, hb, fun j u hu => ?_⟩
  have hj : j < l.length * size := by
    rw [← flat_length f size hf]
    exact (List.getElem?_eq_some_iff.1 hu).1
  have hi : j / size < l.length := (Nat.div_lt_iff_lt_mul h0).2 hj
  have hm : j % size < size := Nat.mod_lt _ h0
  have hdm : j / size * size + j % size = j := by rw [Nat.mul_comm]; exact Nat.div_add_mod j size
  have hx' : l[j / size]? = some l[j / size] := List.getElem?_eq_getElem hi
  have h1 := h _ _ hx' _ hm
  have h2 := flat_get f size hf l _ _ hx' _ hm
  rw [hdm, hu] at h2
  rw [add_plain', add_plain', Nat.add_assoc, hdm, ← h2] at h1
  exact h1

theorem wf_u8 {n : Int} (h : (Lit.int .u8 n).wf = true) : 0 ≤ n ∧ n ≤ 255 := by simpa [Lit.wf, IntKind.min, IntKind.max, IntKind.signed, IntKind.bits] using h
theorem wf_u16 {n : Int} (h : (Lit.int .u16 n).wf = true) : 0 ≤ n ∧ n ≤ 65535 := by simpa [Lit.wf, IntKind.min, IntKind.max, IntKind.signed, IntKind.bits] using h

theorem Try.cellsCI : Try.prog.cellsOf 85 = 5 := by kernel_rfl
theorem Try.cellsU8 : Try.prog.cellsOf 5 = 1 := by kernel_rfl
theorem Try.cellsU16 : Try.prog.cellsOf 83 = 1 := by kernel_rfl
theorem Try.bytesCI : Try.prog.bytesOf 85 = 6 := by kernel_rfl

theorem five {α : Type} {l : List α} (h : l.length = 5) : ∃ a b c d e, l = [a, b, c, d, e] := by
  match l, h with
  | [a, b, c, d, e], _ => exact ⟨a, b, c, d, e, rfl⟩

theorem ins_of_cells {H : Type} {enc : TypeId × Value → H} {W : World} {k : Nat} {cs : List Value} {y : DataW H × List MemPlace} (ht : DataW.trod enc Try.prog W 0 (fun _ => true) true k 85 cs = some y) (hl : cs.length = 5) :
    ∃ x : Ins, x.ok ∧ cs = x.cu := by
  obtain ⟨ys, n', _, _, _, hyl, hfl⟩ := DataW.trod_struct Try.underlying85 ht
  obtain ⟨c0, c1, c2, c3, c4, rfl⟩ := five hl
  have hyl5 : ys.length = 5 := hyl
  obtain ⟨y0, y1, y2, y3, y4, rfl⟩ := five hyl5
  have f0 : DataW.trod enc Try.prog W 0 (fun _ => true) true n' 5 (([c0, c1, c2, c3, c4].drop 0).take (Try.prog.cellsOf 5)) = some y0 := hfl 0 _ rfl
  have f1 : DataW.trod enc Try.prog W 0 (fun _ => true) true n' 5 (([c0, c1, c2, c3, c4].drop 1).take (Try.prog.cellsOf 5)) = some y1 := hfl 1 _ rfl
  have f2 : DataW.trod enc Try.prog W 0 (fun _ => true) true n' 5 (([c0, c1, c2, c3, c4].drop 2).take (Try.prog.cellsOf 5)) = some y2 := hfl 2 _ rfl
  have f3 : DataW.trod enc Try.prog W 0 (fun _ => true) true n' 5 (([c0, c1, c2, c3, c4].drop 3).take (Try.prog.cellsOf 5)) = some y3 := hfl 3 _ rfl
  have f4 : DataW.trod enc Try.prog W 0 (fun _ => true) true n' 83 (([c0, c1, c2, c3, c4].drop 4).take (Try.prog.cellsOf 83)) = some y4 := hfl 4 _ rfl
  clear hfl ht
  rw [Try.cellsU8] at f0 f1 f2 f3
  rw [Try.cellsU16] at f4
  obtain ⟨n0, e0, _, w0⟩ := DataW.trod_int Try.underlying5 f0
  obtain ⟨n1, e1, _, w1⟩ := DataW.trod_int Try.underlying5 f1
  obtain ⟨n2, e2, _, w2⟩ := DataW.trod_int Try.underlying5 f2
  obtain ⟨n3, e3, _, w3⟩ := DataW.trod_int Try.underlying5 f3
  obtain ⟨n4, e4, _, w4⟩ := DataW.trod_int Try.underlying83 f4
  simp only [List.drop_succ_cons, List.drop_zero, List.take_succ_cons, List.take_zero, List.cons.injEq, and_true] at e0 e1 e2 e3 e4
  subst e0 e1 e2 e3 e4
  exact ⟨⟨n0, n1, n2, n3, n4⟩, ⟨wf_u8 w0, wf_u8 w1, wf_u8 w2, wf_u8 w3, wf_u16 w4⟩, rfl⟩

set_option maxRecDepth 100000 in
/-- an argument that is a slice of instructions -/
theorem open_ins {H : Type} {enc : TypeId × Value → H} {W : World} {base : Nat} {v : Value} {d : DataW H} {p : List MemPlace} (hval : Value.okWide Try.prog W .any base 24 v)
    (h : DataW.Trod enc Try.prog W 0 (fun _ => true) true 24 v d p) :
    ∃ (A : Option Addr) (n cap : Nat) (l : List Ins), v = .slice A n cap ∧ Rd W W.heap.size 5 A n (l.flatMap Ins.cu) ∧ (∀ x ∈ l, x.ok) ∧ (n = 0 ∨ ∃ elems spare, d = .slice elems spare ∧ elems.length = n) := by
  obtain ⟨a0, n0, c0, rfl⟩ := okWide_slice Try.underlying24 hval
  obtain ⟨fuel, hf⟩ := h
  rcases Deep.open_slice Try.underlying24 hf with ⟨hcs, _⟩ | ⟨a, len, cap, m, k, D, Pl, hcs, _, hlc, _, hm, hx, hi⟩
  · simp only [Value.cells, List.cons.injEq, Value.slice.injEq, and_true] at hcs
    obtain ⟨rfl, rfl, rfl⟩ := hcs
    exact ⟨none, 0, 0, [], rfl, Rd.none_, fun x hx => by simp at hx, .inl rfl⟩
  · simp only [Value.cells, List.cons.injEq, Value.slice.injEq, and_true] at hcs
    obtain ⟨rfl, rfl, rfl⟩ := hcs
    simp only [if_true] at hm
    subst hm
    simp only [Prod.mk.injEq] at hx
    have hp : ∀ i, i < n0 → ∃ x : Ins, x.ok ∧ ∀ j, j < 5 → W.cell? ((a.add (i * 5)).add j) = x.cu[j]? := by
      intro i hin
      obtain ⟨cs', hcell, ht⟩ := hi i (by omega)
      rw [Try.cellsCI] at hcell
      obtain ⟨_, hcl, hat⟩ := World.cells?_some hcell
      obtain ⟨x, hxo, rfl⟩ := ins_of_cells ht hcl
      exact ⟨x, hxo, hat⟩
    obtain ⟨l, hl, hlp⟩ := list_of n0 hp
    refine ⟨some a, n0, _, l, rfl, Rd.of_pieces Ins.cu_len (by omega) hl (fun i x hx => (hlp i x hx).2), fun x hx => ?_, .inr ⟨_, _, hx.1, by simp⟩⟩
    obtain ⟨i, hi', rfl⟩ := List.mem_iff_getElem.1 hx
    exact (hlp i _ (List.getElem?_eq_getElem hi')).1

/-- what a string that is read may have at most -/
theorem string_le {H : Type} {P : Program} {ts : List TypeId} {ds : List (DataW H)} (h : (DataW.weightsEach P ts ds).all (· ≤ reachBytes) = true) {j : Nat} {t : TypeId} {l : List UInt8} (ht : ts[j]? = some t) (hd : ds[j]? = some (.lit (.string l))) : l.length ≤ 140737488355328 := by
  have h1 := sized_string h ht hd
  unfold reachBytes at h1
  omega
theorem slice_len_le {H : Type} {P : Program} {ts : List TypeId} {ds : List (DataW H)} (h : (DataW.weightsEach P ts ds).all (· ≤ reachBytes) = true) {j : Nat} {t e : TypeId} {elems spare : List (DataW H)} (ht : ts[j]? = some t) (hd : ds[j]? = some (.slice elems spare))
    (hu : P.underlying t = some (.slice e)) (hb : 1 ≤ P.bytesOf e) : elems.length ≤ 140737488355328 := by
  have h1 := sized_slice h ht hd hu
  unfold reachBytes at h1
  have h2 : (elems.length + spare.length) * 1 ≤ (elems.length + spare.length) * P.bytesOf e := Nat.mul_le_mul_left _ hb
  omega
end Go.Proofs.Ytmiagijgecgfoaa
