/-
  What holds between two rounds of journal.Read's loop.
-/
import Derived.Test.YtnhnofiimidagaaJRange
import Derived.Test.YtnhnofiimidagaaJPk
namespace Go.Proofs.Ytnhnofiimidagaa
open Go.RowKit

theorem Bx.kept {W W' : World} {g : Nat} {cs : Array Value} {row : Option Nat} (h : Bx W g cs) (hg : W.grownBy W' row) (hr : ∀ r, row = some r → ∃ o : Obj, W.heap[r]? = some o ∧ o.isCells = false) : Bx W' g cs :=
  h.grown hg (fun e => by
    obtain ⟨t, h'⟩ := h
    obtain ⟨o, ho, hc⟩ := hr _ e.symm
    rw [h'] at ho
    cases ho
    cases hc)
theorem PkB.kept {W W' : World} {base : Nat} {v : Value} {n : Nat} {l : List UInt8} {row : Option Nat} (h : PkB W base v n l) (hg : W.grownBy W' row) (hr : ∀ r, row = some r → ∃ o : Obj, W.heap[r]? = some o ∧ o.isCells = false) : PkB W' base v n l :=
  h.grown hg (fun g hv e => by
    obtain ⟨g', cap, rfl, _, ⟨cur, t, fr, h'⟩, _⟩ := h
    simp only [Value.ownBlock, Option.some.injEq] at hv
    subst hv
    obtain ⟨o, ho, hc⟩ := hr _ e.symm
    rw [h'] at ho
    cases ho
    cases hc)
theorem Rd.kept {W W' : World} {B size n : Nat} {A : Option Addr} {xs : List Value} {row : Option Nat} (h : Rd W B size A n xs) (hg : W.grownBy W' row) (hr : ∀ r, row = some r → ∃ o : Obj, W.heap[r]? = some o ∧ o.isCells = false) : Rd W' B size A n xs :=
  ⟨h.1, fun hn => by
    obtain ⟨b, o, e, hlt, hc⟩ := h.2 hn
    exact ⟨b, o, e, hlt, fun j u hu => cell_kept (hc j u hu) hg hr⟩⟩
theorem Rd.grown_ne {W W' : World} {B size n : Nat} {A : Option Addr} {xs : List Value} {row : Option Nat} (h : Rd W B size A n xs) (hg : W.grownBy W' row) (hB : B ≤ W.heap.size) (hr : 0 < n → ∀ r, row = some r → ∀ o, A ≠ some ⟨r, o, none⟩) : Rd W' B size A n xs :=
  ⟨h.1, fun hn => by
    obtain ⟨b, o, e, hlt, hc⟩ := h.2 hn
    exact ⟨b, o, e, hlt, fun j u hu => (World.cell?_of_block (a := ⟨b, o + j, none⟩) (hg.block b (by omega) (fun he => hr hn b he.symm o e))).trans (hc j u hu)⟩⟩
theorem setCell_grown (W : World) (p : Addr) (v : Value) : W.grownBy (W.setCell p v) (some p.block) :=
  ⟨rfl, rfl, rfl, by simp, fun k _ hk => Below.heap_setCell W p v k (fun e => hk (by rw [e]))⟩
theorem keeps_below {W W' : World} (h : Below W.heap.size W W') : KeepsOthers W W' :=
  KeepsOthers.of_grownBy (row := none) ⟨h.os, h.tape, h.output, h.size, fun k hk _ => h.block k hk⟩ (fun j o e => by cases e)
theorem apart_types {w : World} {base base' n n' : Nat} {e e' : TypeId} {v : Value} {A : Option Addr} {c : Nat} {xs ys : List Value} (h : OwnB w base e v n xs) (h' : w.ownsRow base' e' 1 (.slice A n' c) n' ys) (hne : e ≠ e') (g : Nat) (hv : v.ownBlock = some g) (o : Nat) : A ≠ some ⟨g, o, none⟩ := by
  rintro rfl
  obtain ⟨g1, cap, cur, fr, rfl, _, hg, _⟩ := h
  simp only [Value.ownBlock, Option.some.injEq] at hv
  subst hv
  rcases h'.2 with ⟨h1, _⟩ | ⟨g2, cap2, cur2, h1, _, hg2, _⟩
  · cases h1
  · injection h1 with h1
    injection h1 with h1
    injection h1 with h1
    subst h1
    rw [hg] at hg2
    injection hg2 with hg2
    injection hg2 with _ h3
    exact hne h3

/-- between two rounds: so much is told, and there the next record is -/
structure RdI (j : List UInt8) (pg : Int) (ps : List (List UInt8)) (A : Option Addr) (n c : Nat) (w : World) (X : Nat) (acc : List UInt8) (at_ : Nat) (W : World) : Prop where
  x : ∃ A2 c2, Bx W (X + 1) #[.int .i64 pg, .slice A n c, .slice A2 acc.length c2, .int .i64 at_, .bool false] ∧ PkB W (w.heap.size + 1) (.slice A2 acc.length c2) acc.length acc ∧
    ∀ g, (Value.slice A2 acc.length c2).ownBlock = some g → (g < X ∨ X + 4 ≤ g) ∧ (0 < n → ∀ o, A ≠ some ⟨g, o, none⟩)
  l4 : acc.length ≤ 4000
  pr : Rd W X 1 A n (ps.map strV)
  res : Bx W w.heap.size #[.int .i64 0, .slice none 0 0, .slice none 0 0, .int .i64 0, .bool false]
  ba : ∃ v, Bx W (X + 3) #[v]
  bj : Bx W (X + 2) #[.string (S j)]
  sz : X + 4 ≤ W.heap.size
  lt : w.heap.size < X
  bel : Below w.heap.size w W

section
variable {j : List UInt8} {pg : Int} {ps : List (List UInt8)} {A : Option Addr} {n c : Nat} {w : World} {X : Nat} {acc : List UInt8} {at_ : Nat} {W W' : World}
theorem RdI.kept {row : Option Nat} (h : RdI j pg ps A n c w X acc at_ W) (hg : W.grownBy W' row) (hr : ∀ r, row = some r → w.heap.size ≤ r ∧ ∃ o : Obj, W.heap[r]? = some o ∧ o.isCells = false) : RdI j pg ps A n c w X acc at_ W' := by
  have hr' := fun r e => (hr r e).2
  obtain ⟨⟨A2, c2, hx, hp, ha⟩, l4, pr, res, ⟨v, ba⟩, bj, sz, lt, bel⟩ := h
  exact ⟨⟨A2, c2, hx.kept hg hr', hp.kept hg hr', ha⟩, l4, pr.kept hg hr', res.kept hg hr', ⟨v, ba.kept hg hr'⟩, bj.kept hg hr', Nat.le_trans sz hg.size, lt, bel.grown hg bel.size (fun k e => (hr k e).1)⟩
theorem RdI.below (h : RdI j pg ps A n c w X acc at_ W) (hb : Below W.heap.size W W') : RdI j pg ps A n c w X acc at_ W' :=
  h.kept (row := none) ⟨hb.os, hb.tape, hb.output, hb.size, fun k hk _ => hb.block k hk⟩ (fun r e => by cases e)
theorem RdI.set_ (h : RdI j pg ps A n c w X acc at_ W) (u : Value) : RdI j pg ps A n c w X acc at_ (W.setCell ⟨X + 3, 0, none⟩ u) := by
  obtain ⟨⟨A2, c2, hx, hp, ha⟩, l4, pr, res, ⟨v, ba⟩, bj, sz, lt, bel⟩ := h
  refine ⟨⟨A2, c2, hx.far (by simp) _, hp.grown (setCell_grown W _ u) (fun g hv e => ?_), ha⟩, l4, pr.setCell_ge (by simp) _, res.far (by simp; omega) _, ⟨u, ba.set_ 0 u⟩, bj.far (by simp) _, by simpa using sz, lt, bel.setCell (by simp; omega) _⟩
  have := (ha g hv).1
  simp only [Option.some.injEq] at e
  omega
theorem RdI.append (h : RdI j pg ps A n c w X acc at_ W) {A2 : Option Addr} {c2 : Nat} (hp : PkB W (w.heap.size + 1) (.slice A2 acc.length c2) acc.length acc) (hx : Bx W (X + 1) #[.int .i64 pg, .slice A n c, .slice A2 acc.length c2, .int .i64 at_, .bool false])
    (ha : ∀ g, (Value.slice A2 acc.length c2).ownBlock = some g → (g < X ∨ X + 4 ≤ g) ∧ (0 < n → ∀ o, A ≠ some ⟨g, o, none⟩)) {A3 : Option Addr} {c3 e : Nat} {p : List UInt8} (hp3 : PkB W' (w.heap.size + 1) (.slice A3 (acc.length + p.length) c3) (acc.length + p.length) (acc ++ p))
    (hg : W.grownBy W' (Value.slice A2 acc.length c2).ownBlock) (hv : (Value.slice A3 (acc.length + p.length) c3).ownBlock = (Value.slice A2 acc.length c2).ownBlock ∨ (Value.slice A3 (acc.length + p.length) c3).ownBlock = some W.heap.size) (hl : acc.length + p.length ≤ 4000) :
    RdI j pg ps A n c w X (acc ++ p) e ((W'.setCell ⟨X + 1, 2, none⟩ (.slice A3 (acc.length + p.length) c3)).setCell ⟨X + 1, 3, none⟩ (.int .i64 e)) := by
  obtain ⟨⟨_, _, _, _, _⟩, l4, pr, res, ⟨v, ba⟩, bj, sz, lt, bel⟩ := h
  have hbase : ∀ g, (Value.slice A2 acc.length c2).ownBlock = some g → w.heap.size + 1 ≤ g := fun g hg' => by
    obtain ⟨g', cap, e1, hb, _⟩ := hp
    rw [e1] at hg'
    simp only [Value.ownBlock, Option.some.injEq] at hg'
    omega
  have far : ∀ g, (g = X + 1 ∨ g = X + 2 ∨ g = X + 3 ∨ g = w.heap.size) → some g ≠ (Value.slice A2 acc.length c2).ownBlock := fun g hg' e' => by
    have h1 := (ha g e'.symm).1
    have h2 := hbase g e'.symm
    omega
  have hnew : ∀ g, (Value.slice A3 (acc.length + p.length) c3).ownBlock = some g → (g < X ∨ X + 4 ≤ g) ∧ (0 < n → ∀ o, A ≠ some ⟨g, o, none⟩) := fun g hg' => by
    rcases hv with hv | hv
    · exact ha g (hv ▸ hg')
    · rw [hv] at hg'
      injection hg' with hg'
      subst hg'
      refine ⟨.inr sz, fun h0 o e' => ?_⟩
      obtain ⟨b, o', h1, h2, _⟩ := pr.2 h0
      rw [e'] at h1
      injection h1 with h1
      injection h1 with h1
      omega
  have hsz : X + 4 ≤ W'.heap.size := Nat.le_trans sz hg.size
  have s2 := setCell_grown W' ⟨X + 1, 2, none⟩ (.slice A3 (acc.length + p.length) c3)
  have s3 := setCell_grown (W'.setCell ⟨X + 1, 2, none⟩ (.slice A3 (acc.length + p.length) c3)) ⟨X + 1, 3, none⟩ (.int .i64 e)
  have hne : ∀ g, (Value.slice A3 (acc.length + p.length) c3).ownBlock = some g → some g ≠ some (X + 1) := fun g hg' e' => by
    have := (hnew g hg').1
    simp only [Option.some.injEq] at e'
    omega
  refine ⟨⟨A3, c3, ?_, ?_, ?_⟩, ?_, ?_, ?_, ⟨v, ?_⟩, ?_, ?_, lt, ?_⟩
  · rw [List.length_append]
    exact (((hx.grown hg (far _ (.inl rfl))).set_ 2 _).set_ 3 _)
  · rw [List.length_append]
    exact ((hp3.grown s2 hne).grown s3 hne)
  · rw [List.length_append]
    exact hnew
  · rw [List.length_append]
    exact hl
  · exact ((pr.grown_ne hg (by omega) (fun h0 r e' o => (ha r e').2 h0 o)).setCell_ge (by simp) _).setCell_ge (by simp) _
  · exact ((res.grown hg (far _ (by simp))).far (by simp; omega) _).far (by simp; omega) _
  · exact ((ba.grown hg (far _ (by simp))).far (by simp) _).far (by simp) _
  · exact ((bj.grown hg (far _ (by simp))).far (by simp) _).far (by simp) _
  · simpa using hsz
  · exact ((bel.grown hg bel.size (fun k e' => by have := hbase k e'; omega)).setCell (by simp; omega) _).setCell (by simp; omega) _

/-- behind the loop: torn or not; the result laid; the rounds' block shut -/
theorem RdI.fin (h : RdI j pg ps A n c w X acc at_ W) (hpl : 0 < n → ∀ b o, A = some ⟨b, o, none⟩ → w.heap.size < b) (D : Nat) (hD : X + 4 ≤ D) (hK : W.heap[D]? = some (.deferred (some []))) {A2 : Option Addr} {c2 : Nat}
    (hp : PkB W (w.heap.size + 1) (.slice A2 acc.length c2) acc.length acc) (ha : ∀ g, (Value.slice A2 acc.length c2).ownBlock = some g → (g < X ∨ X + 4 ≤ g) ∧ (0 < n → ∀ o, A ≠ some ⟨g, o, none⟩)) (t : Bool) (Wf : World)
    (hWf : Wf = (((((W.setCell ⟨X + 1, 4, none⟩ (.bool t)).setCell ⟨w.heap.size, 0, none⟩ (.int .i64 pg)).setCell ⟨w.heap.size, 1, none⟩ (.slice A n c)).setCell ⟨w.heap.size, 2, none⟩ (.slice A2 acc.length c2)).setCell ⟨w.heap.size, 3, none⟩ (.int .i64 at_)).setCell ⟨w.heap.size, 4, none⟩ (.bool t)) :
    Wf.heap[D]? = some (.deferred (some [])) ∧ Bx (Wf.putObj D (.deferred none)) w.heap.size #[.int .i64 pg, .slice A n c, .slice A2 acc.length c2, .int .i64 at_, .bool t] ∧
      Rd (Wf.putObj D (.deferred none)) (Wf.putObj D (.deferred none)).heap.size 1 A n (ps.map strV) ∧ Rd (Wf.putObj D (.deferred none)) (Wf.putObj D (.deferred none)).heap.size 1 A2 acc.length (acc.map byteV) ∧ Below w.heap.size w (Wf.putObj D (.deferred none)) := by
  obtain ⟨_, l4, pr, res, _, bj, sz, lt, bel⟩ := h
  have hbase : ∀ g, (Value.slice A2 acc.length c2).ownBlock = some g → w.heap.size + 1 ≤ g := fun g hg' => by
    obtain ⟨g', cap, e1, hb, _⟩ := hp
    rw [e1] at hg'
    simp only [Value.ownBlock, Option.some.injEq] at hg'
    omega
  have n1 : ∀ g, (Value.slice A2 acc.length c2).ownBlock = some g → some g ≠ some (X + 1) := fun g hg e => by
    have := (ha g hg).1
    simp only [Option.some.injEq] at e
    omega
  have n0 : ∀ g, (Value.slice A2 acc.length c2).ownBlock = some g → some g ≠ some w.heap.size := fun g hg e => by
    have := hbase g hg
    simp only [Option.some.injEq] at e
    omega
  have m0 : ∀ (W' : World) (o : Nat) (v : Value), 0 < n → ∀ r, some w.heap.size = some r → ∀ o, A ≠ some ⟨r, o, none⟩ := fun _ _ _ h0 r e o he => by
    have := hpl h0 r o he
    simp only [Option.some.injEq] at e
    omega
  have sW : ∀ (W' : World) (p : Addr) (v : Value), (W'.setCell p v).heap.size = W'.heap.size := fun W' p v => by simp
  have k1 := hK
  have kD : Wf.heap[D]? = some (.deferred (some [])) := by
    subst hWf
    exact (KeepsOthers.setCell _ _ _).same _ _ ((KeepsOthers.setCell _ _ _).same _ _ ((KeepsOthers.setCell _ _ _).same _ _ ((KeepsOthers.setCell _ _ _).same _ _ ((KeepsOthers.setCell _ _ _).same _ _ ((KeepsOthers.setCell _ _ _).same _ _ hK rfl) rfl) rfl) rfl) rfl) rfl
  have hrow : ∀ r, some D = some r → ∃ o : Obj, Wf.heap[r]? = some o ∧ o.isCells = false := fun r e => by
    cases e
    exact ⟨_, kD, rfl⟩
  have hput := grownBy_putObj' Wf D (.deferred none)
  have hsz : Wf.heap.size = W.heap.size := by subst hWf; simp
  have hlD : D < W.heap.size := (Array.getElem?_eq_some_iff.1 hK).1
  refine ⟨kD, ?_, ?_, ?_, ?_⟩
  · refine Bx.kept ?_ hput hrow
    subst hWf
    exact (((((res.far (by simp; omega) _).set_ 0 _).set_ 1 _).set_ 2 _).set_ 3 _).set_ 4 _
  · refine (Rd.kept ?_ hput hrow).mono (B := X) (by rw [World.putObj_size]; omega)
    subst hWf
    exact (((((pr.setCell_ge (by simp) _).grown_ne (setCell_grown _ _ _) (by simp; omega) (m0 W 0 (.bool t))).grown_ne (setCell_grown _ _ _) (by simp; omega) (m0 W 0 (.bool t))).grown_ne (setCell_grown _ _ _) (by simp; omega) (m0 W 0 (.bool t))).grown_ne (setCell_grown _ _ _) (by simp; omega) (m0 W 0 (.bool t))).grown_ne (setCell_grown _ _ _) (by simp; omega) (m0 W 0 (.bool t))
  · refine PkB.rd (base := w.heap.size + 1) (c := c2) (PkB.kept ?_ hput hrow)
    subst hWf
    exact (((((hp.grown (setCell_grown _ _ _) n1).grown (setCell_grown _ _ _) n0).grown (setCell_grown _ _ _) n0).grown (setCell_grown _ _ _) n0).grown (setCell_grown _ _ _) n0).grown (setCell_grown _ _ _) n0
  · refine Below.grown ?_ hput (by omega) (fun k e => by cases e; omega)
    subst hWf
    exact (((((bel.setCell (by simp; omega) _).setCell (by simp) _).setCell (by simp) _).setCell (by simp) _).setCell (by simp) _).setCell (by simp) _
end
end Go.Proofs.Ytnhnofiimidagaa
