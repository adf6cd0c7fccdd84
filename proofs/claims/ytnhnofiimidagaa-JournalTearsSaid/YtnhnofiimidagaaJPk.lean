/-
  append of a string onto bytes of the call's own, whose block may bear a mark behind its cells. No function of the program.
-/
import Derived.Test.YtnhnofiimidagaaScrBase
import Derived.Lib.SlBuf
import Derived.Lib.AppendStr
import Derived.Laws.IdiomCopy
import Derived.OwnWalkIn
namespace Go.Proofs.Ytnhnofiimidagaa
open Go.RowKit

/-- bytes of the call's own, in a block with room for cap of them, that may be written -/
def PkB (w : World) (base : Nat) (v : Value) (n : Nat) (l : List UInt8) : Prop :=
  ∃ g cap, v = .slice (some ⟨g, 0, none⟩) n cap ∧ base ≤ g ∧ (∃ cur e fr, w.heap[g]? = some (.cells cur e fr)) ∧ n ≤ cap ∧ cap ≤ maxLen ∧ l.length = n ∧
    (∀ j, j < cap → (w.cell? ⟨g, j, none⟩).isSome = true ∧ w.frozen? ⟨g, j, none⟩ = false) ∧ ∀ (j : Nat) (x : UInt8), l[j]? = some x → w.cell? ⟨g, j, none⟩ = some (byteV x)
theorem PkB.of_block {w : World} {base g cap n : Nat} {cur : Array Value} {e : TypeId} {fr : Nat × Nat} {l : List UInt8} (hg : w.heap[g]? = some (.cells cur e fr)) (hb : base ≤ g) (hn : n ≤ cap) (hm : cap ≤ maxLen) (hs : cur.size = cap)
    (hf : fr = (0, 0) ∨ cap ≤ fr.1) (hl : l.length = n) (ht : cur.toList.take n = l.map byteV) : PkB w base (.slice (some ⟨g, 0, none⟩) n cap) n l := by
  refine ⟨g, cap, rfl, hb, ⟨_, _, _, hg⟩, hn, hm, hl, fun j hj => ⟨?_, ?_⟩, fun j x hx => ?_⟩
  · rw [cell_of_row w g j cur e fr hg, Array.getElem?_eq_getElem (by omega)]
    rfl
  · simp only [World.frozen?, hg]
    rcases hf with rfl | hf
    · simp
    · simp; omega
  · rw [cell_of_row w g j cur e fr hg]
    have hj : j < l.length := (List.getElem?_eq_some_iff.1 hx).1
    have h1 : (cur.toList.take n)[j]? = some (byteV x) := by rw [ht, List.getElem?_map, hx]; rfl
    rw [List.getElem?_take, if_pos (by omega)] at h1
    simpa using h1
theorem PkB.of_ownB {w : World} {base : Nat} {e : TypeId} {v : Value} {n : Nat} {l : List UInt8} (h : OwnB w base e v n (l.map byteV)) : PkB w base v n l := by
  obtain ⟨g, cap, cur, fr, rfl, hb, hg, hn, hm, hs, ht, hl, hf⟩ := h
  exact .of_block hg hb hn hm hs hf (by simpa using hl) ht
theorem PkB.of_own {w : World} {base : Nat} {e : TypeId} {v : Value} {n : Nat} {l : List UInt8} (h : w.ownsRow base e 1 v n (l.map byteV)) (hv : v ≠ .slice none 0 0) : PkB w base v n l := by
  have hl : l.length = n := by have := h.1; simpa using this
  rcases h.2 with ⟨rfl, _⟩ | ⟨g, cap, cur, rfl, hb, hg, hn, hm, hs, ht⟩
  · exact absurd rfl hv
  · exact .of_block hg hb hn hm (by simpa using hs) (.inl rfl) hl (by simpa using ht)
section
variable {w w' : World} {base : Nat} {v : Value} {n : Nat} {l : List UInt8}
theorem PkB.rd {A : Option Addr} {c : Nat} (h : PkB w base (.slice A n c) n l) : Rd w w.heap.size 1 A n (l.map byteV) := by
  obtain ⟨g, cap, hv, _, ⟨cur, e, fr, hg0⟩, _, _, hl, _, hc⟩ := h
  have hg := (Array.getElem?_eq_some_iff.1 hg0).1
  injection hv with hA
  subst hA
  refine ⟨by simp [hl], fun _ => ⟨g, 0, rfl, hg, fun j u hu => ?_⟩⟩
  rw [List.getElem?_map] at hu
  obtain ⟨x, hx, rfl⟩ := Option.map_eq_some_iff.1 hu
  rw [Nat.zero_add]
  exact hc j x hx
theorem PkB.grown {row : Option Nat} (h : PkB w base v n l) (hg : w.grownBy w' row) (hne : ∀ g, v.ownBlock = some g → some g ≠ row) : PkB w' base v n l := by
  obtain ⟨g, cap, rfl, hb, ⟨cur, e, fr, hg0⟩, hn, hm, hl, h1, h2⟩ := h
  have hlt := (Array.getElem?_eq_some_iff.1 hg0).1
  have hk := hg.block g hlt (hne g rfl)
  refine ⟨g, cap, rfl, hb, ⟨_, _, _, hk.trans hg0⟩, hn, hm, hl, fun j hj => ?_, fun j x hx => ?_⟩
  · rw [World.cell?_of_block (a := ⟨g, j, none⟩) hk, World.frozen?_of_block (a := ⟨g, j, none⟩) hk]
    exact h1 j hj
  · rw [World.cell?_of_block (a := ⟨g, j, none⟩) hk]
    exact h2 j x hx
theorem PkB.below {B : Nat} (h : PkB w base v n l) (hb : Below B w w') (hB : w.heap.size ≤ B) : PkB w' base v n l :=
  h.grown (row := none) ⟨hb.os, hb.tape, hb.output, hb.size, fun k hk _ => hb.block k (by omega)⟩ (fun g _ => by simp)
theorem PkB.setCell (h : PkB w base v n l) {p : Addr} (hp : p.block < base) (u : Value) : PkB (w.setCell p u) base v n l := by
  refine h.grown (row := some p.block) ⟨rfl, rfl, rfl, by simp, fun k _ hk => Below.heap_setCell w p u k (fun e => hk (by rw [e]))⟩ (fun g hg he => ?_)
  obtain ⟨g', cap, rfl, hb, _⟩ := h
  simp only [Value.ownBlock, Option.some.injEq] at hg he
  omega
theorem PkB.mono {base' : Nat} (h : PkB w base v n l) (hB : base' ≤ base) : PkB w base' v n l := by
  obtain ⟨g, cap, hv, hb, r⟩ := h
  exact ⟨g, cap, hv, by omega, r⟩
end

theorem setCells_grown (b : Nat) : ∀ (vs : List Value) (o : Nat) (w : World), w.grownBy (w.setCells b o vs) (some b)
  | [], _, w => ⟨rfl, rfl, rfl, Nat.le_refl _, fun _ _ _ => rfl⟩
  | v :: r, o, w => by
    rw [World.setCells]
    have h := setCells_grown b r (o + 1) (w.setCell ⟨b, o, none⟩ v)
    refine ⟨h.os.trans rfl, h.tape.trans rfl, h.output.trans rfl, ?_, fun k hk hne => ?_⟩
    · have := h.size
      simpa using this
    · exact (h.block k (by simpa using hk) hne).trans (Below.heap_setCell w ⟨b, o, none⟩ v k (fun e => hne (by rw [e])))
theorem setCells_block (b : Nat) (t : TypeId) (fr : Nat × Nat) : ∀ (vs : List Value) (o : Nat) (w : World) (cur : Array Value), w.heap[b]? = some (.cells cur t fr) → ∃ cur', (w.setCells b o vs).heap[b]? = some (.cells cur' t fr)
  | [], _, _, cur, h => ⟨cur, h⟩
  | v :: r, o, w, cur, h => by
    rw [World.setCells]
    exact setCells_block b t fr r (o + 1) (w.setCell ⟨b, o, none⟩ v) (cur.setIfInBounds o v) (by simp [World.setCell, Array.getElem?_modify, h])
theorem strCells_S (s : List UInt8) : Lib.strCells (S s) = s.map byteV := by
  simp [Lib.strCells, S, byteV]

/-- append(v, s...) onto such bytes -/
theorem run_append_pk {P : Program} (w : World) (base : Nat) (t u ty e : TypeId) (i : TypeInfo) (ht : P.underlying t = some (.slice e)) (hu : P.underlying u = some .string) (hi : P.info? e = some i) (hz : i.zero = some (.int .u8 0)) (hsize : i.size = 1) (hby : i.bytes = 1)
    (v : Value) (n : Nat) (l : List UInt8) (hp : PkB w base v n l) (s : List UInt8) (hl : n + s.length ≤ 1000000) (hbase : base ≤ w.heap.size) :
    ∃ v' w', (Builtin.append_ #[t, u] ty #[v, .string (S s)]).run P w = .ok v' w' ∧ PkB w' base v' (n + s.length) (l ++ s) ∧ w.grownBy w' v.ownBlock ∧ (v'.ownBlock = v.ownBlock ∨ v'.ownBlock = some w.heap.size) := by
  obtain ⟨g, cap, rfl, hbg, ⟨cur, e', fr, hg0⟩, hn, hm, hll, h1, h2⟩ := hp
  have hss : (S s).size = s.length := S_size s
  by_cases hroom : n + s.length ≤ cap
  · have hf := Lib.run_firstCells_string (P := P) w 1 (S s)
    rw [hss, strCells_S] at hf
    have hst := run_storeCells_cells (P := P) g n (s.map byteV) 0 w
      (fun j hj => by rw [List.length_map] at hj; rw [Nat.add_zero]; exact (h1 (n + j) (by omega)).1)
      (fun j hj => by rw [List.length_map] at hj; rw [Nat.add_zero]; exact (h1 (n + j) (by omega)).2)
      (fun x hx => by
        obtain ⟨b, _, rfl⟩ := List.mem_map.1 hx
        rfl)
    rw [Nat.add_zero] at hst
    refine ⟨.slice (some ⟨g, 0, none⟩) (n + s.length) cap, w.setCells g n (s.map byteV), ?_, ⟨g, cap, rfl, hbg, ?_, hroom, hm, by simp [hll], fun j hj => ?_, fun j x hx => ?_⟩, setCells_grown g _ _ _, .inl rfl⟩
    · simp [Builtin.append_, run_underlying ht, run_underlying hu, sizeOf, typeInfo, hi, hsize, Builtin.lenOf, hss, hroom, hf, Addr.add_lit, hst]
    · obtain ⟨cur', hc'⟩ := setCells_block g e' fr (s.map byteV) n w cur hg0
      exact ⟨_, _, _, hc'⟩
    · rw [World.frozen?_setCells]
      refine ⟨?_, (h1 j hj).2⟩
      by_cases hin : n ≤ j ∧ j < n + s.length
      · have := World.cell?_setCells_in g (s.map byteV) n w (fun k hk => by rw [List.length_map] at hk; exact (h1 (n + k) (by omega)).1) (j - n) (by rw [List.length_map]; omega)
        rw [show n + (j - n) = j by omega] at this
        rw [this]
        rfl
      · rw [World.cell?_setCells_out g _ _ _ _ (fun _ _ => by simp only [List.length_map]; omega)]
        exact (h1 j hj).1
    · by_cases hjn : j < n
      · rw [World.cell?_setCells_out g _ _ _ _ (fun _ _ => by simp only [List.length_map]; omega)]
        exact h2 j x (by rwa [List.getElem?_append_left (by omega)] at hx)
      · rw [List.getElem?_append_right (by omega), hll] at hx
        have hjs : j - n < s.length := (List.getElem?_eq_some_iff.1 hx).1
        have := World.cell?_setCells_in g (s.map byteV) n w (fun k hk => by rw [List.length_map] at hk; exact (h1 (n + k) (by omega)).1) (j - n) (by rw [List.length_map]; omega)
        rw [show n + (j - n) = j by omega] at this
        rw [this]
        have h3 := (List.getElem?_eq_some_iff.1 hx).2
        simp [h3]
  · have hr := Lib.run_append_grow_string (P := P) w t u ty e i (.int .u8 0) ht hu hi hz ⟨g, 0, none⟩ n cap (l.map byteV) (by rw [hsize]; simp [hll]) (fun j x hx => by
        rw [List.getElem?_map] at hx
        obtain ⟨y, hy, rfl⟩ := Option.map_eq_some_iff.1 hx
        have ha : (⟨g, 0, none⟩ : Addr).add j = ⟨g, j, none⟩ := by unfold Addr.add; split <;> simp_all
        rw [ha]
        exact h2 j y hy) (S s) (by rw [hss]; omega) (by rw [hss]; omega) (by rw [hby, hss]; exact growslice_fits (by omega) (by omega))
    rw [hss, strCells_S] at hr
    have hge := grownCap_ge w (n + s.length) cap e
    have hcm : grownCap w (n + s.length) cap e ≤ maxLen := grownCap_le_maxLen w (n + s.length) cap e (by unfold maxLen; omega)
    have hz1 : (Value.int IntKind.u8 0).cells.size = 1 := rfl
    refine ⟨_, _, hr, .of_block (heap_alloc_new w.drew _) hbase hge hcm ?_ (.inl rfl) (by simp [hll]) ?_, ⟨rfl, rfl, rfl, by simp, fun k hk _ => heap_alloc_old w.drew _ hk⟩, .inr rfl⟩
    · simp only [Array.size_append, List.size_toArray, size_zeroCells, hz1, List.length_map, hll]
      omega
    · simp only [Array.toList_append, List.append_assoc]
      rw [← List.append_assoc, ← List.map_append]
      exact List.take_left' (by simp [hll])

/-- the operation, inside a fence -/
theorem wpListIn_append_pk {F : Fence} {k : Nat} {P : Program} (w : World) {ops : Array Oper} {rest : List Oper} {o : Oper} {a : Act} {Q : Exit → Act → World → Prop} (hgd : o.guard = none) (sl x : Operand) (t u : TypeId)
    (ho : o.op = .call { callee := .builtin .append, args := #[sl, x], argTypes := #[t, u] })
    (base : Nat) (e : TypeId) (i : TypeInfo) (ht : P.underlying t = some (.slice e)) (hu : P.underlying u = some .string) (hi : P.info? e = some i) (hz : i.zero = some (.int .u8 0)) (hsize : i.size = 1) (hby : i.bytes = 1)
    (v : Value) (n : Nat) (l : List UInt8) (hs : a.eval sl = v) (hp : PkB w base v n l) (s : List UInt8) (hx : a.eval x = .string (S s)) (hl : n + s.length ≤ 1000000) (hbase : base ≤ w.heap.size)
    (h : ∀ v' w', PkB w' base v' (n + s.length) (l ++ s) → w.grownBy w' v.ownBlock → (v'.ownBlock = v.ownBlock ∨ v'.ownBlock = some w.heap.size) → wpListIn F k P ops Q rest (a.put o.dst v') w') : wpListIn F k P ops Q (o :: rest) a w := by
  refine wpListIn_plain hgd fun K hK => ?_
  obtain ⟨v', w', hrun, r1, r2, r3⟩ := run_append_pk (P := P) w base t u o.type e i ht hu hi hz hsize hby v n l hp s hl hbase
  unfold Oper.wpIn
  refine ⟨?_, ?_⟩
  · simp [Oper.about, ho, resolve, Target.leads, Sem.run_pure]
  · rw [Oper.semAt_plain F _ _ (by rw [ho]; intro c hc; cases hc)]
    simp [execOp, ho, resolve, invoke, builtin, hs, hx, hrun, Result.andThen]
    exact hK _ _ (h v' w' r1 r2 r3)
end Go.Proofs.Ytnhnofiimidagaa
