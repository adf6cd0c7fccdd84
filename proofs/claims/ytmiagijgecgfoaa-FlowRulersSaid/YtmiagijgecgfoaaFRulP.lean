/-
  Rulers in plain words; rows of rows that are made; no function of the program.
-/
import Derived.Test.YtmiagijgecgfoaaFRuns
import Derived.Test.YtmiagijgecgfoaaGMap
import Derived.Laws.MakeOwn
namespace Go.Proofs.Ytmiagijgecgfoaa
open Go.RowKit

section
variable {l : List Ins} {rb : Nat → Bool} {U : Nat → Nat → Bool} {n : Nat}
/-- which places rule which ones -/
def rlB (rb : Nat → Bool) (U : Nat → Nat → Bool) (n a b : Nat) : Bool := rulesB rb (U a) n a b
theorem rlB_eq {a b : Nat} (ha : a ≤ n) (hb : b ≤ n) : rlB rb U n a b = (rb a && rb b && (decide (a = b) || !U a b)) := by
  have e : decide ((a : Int) = (b : Int)) = decide (a = b) := by
    rw [Bool.eq_iff_iff, decide_eq_true_iff, decide_eq_true_iff]; omega
  unfold rlB rulesB thereB
  rw [decide_eq_true (show (0 : Int) ≤ (a : Int) ∧ (a : Int) ≤ (n : Int) by omega), decide_eq_true (show (0 : Int) ≤ (b : Int) ∧ (b : Int) ≤ (n : Int) by omega), e]
  simp only [Int.toNat_natCast, Bool.true_and]
theorem rl_zero (hrb : IsReached l rb) (hU : ∀ a : Nat, IsRound l a (U a)) {b : Nat} (hb : b ≤ n) : rlB rb U n 0 b = rb b := by
  rw [rlB_eq (Nat.zero_le _) hb, (hrb 0).2 (.refl (by omega)), Bool.true_and]
  have hno : ∀ x, ¬ RE l ((0 : Nat) : Int) 0 x := by
    intro x hx
    induction hx with
    | refl h => exact h rfl
    | step _ _ _ ih => exact ih
  cases hu : U 0 b with
  | true => exact absurd ((hU 0 b).1 hu) (hno b)
  | false => simp
theorem rl_same {a : Nat} (ha : a ≤ n) : rlB rb U n a a = rb a := by
  rw [rlB_eq ha ha, decide_eq_true rfl, Bool.true_or, Bool.and_true, Bool.and_self]
theorem rl_iff (hU : ∀ a : Nat, IsRound l a (U a)) {a b : Nat} (ha : a ≤ n) (hb : b ≤ n) : rlB rb U n a b = true ↔ rb a = true ∧ rb b = true ∧ (a = b ∨ ¬ RE l a 0 b) := by
  rw [rlB_eq ha hb, Bool.and_eq_true, Bool.and_eq_true, Bool.or_eq_true, decide_eq_true_iff, Bool.not_eq_true', ← hU a b, Bool.not_eq_true, and_assoc]
theorem RE.split {a b : Nat} (hab : a ≠ b) (h1 : RE l a 0 b) (h2 : RE l b 0 a) {c : Nat} (h : RE l (-1) 0 c) : RE l a 0 c ∨ RE l b 0 c := by
  induction h with
  | refl _ =>
    by_cases e : a = 0
    · subst e; exact .inr (.refl (by omega))
    · exact .inl (.refl (by omega))
  | step _ hx _ ih =>
    rename_i x y _ _
    rcases ih with h | h
    · by_cases e : y = a
      · subst e; exact .inr h2
      · exact .inl (.step h hx (by omega))
    · by_cases e : y = b
      · subst e; exact .inl h1
      · exact .inr (.step h hx (by omega))
theorem rl_line (hrb : IsReached l rb) (hU : ∀ a : Nat, IsRound l a (U a)) {a b c : Nat} (ha : a ≤ n) (hb : b ≤ n) (hc : c ≤ n) (h1 : rlB rb U n a c = true) (h2 : rlB rb U n b c = true) (h3 : rlB rb U n a b = false) : rlB rb U n b a = true := by
  rw [rl_iff hU ha hc] at h1
  rw [rl_iff hU hb hc] at h2
  cases h4 : rlB rb U n b a with
  | true => rfl
  | false =>
    exfalso
    have g1 : ¬ (rb a = true ∧ rb b = true ∧ (a = b ∨ ¬ RE l a 0 b)) := by rw [← rl_iff hU ha hb, h3]; simp
    have g2 : ¬ (rb b = true ∧ rb a = true ∧ (b = a ∨ ¬ RE l b 0 a)) := by rw [← rl_iff hU hb ha, h4]; simp
    obtain ⟨ra, rc, ka⟩ := h1
    obtain ⟨rb', _, kb⟩ := h2
    have hab : a ≠ b := fun e => g1 ⟨ra, rb', .inl e⟩
    have e1 : RE l a 0 b := Classical.byContradiction fun h => g1 ⟨ra, rb', .inr h⟩
    have e2 : RE l b 0 a := Classical.byContradiction fun h => g2 ⟨rb', ra, .inr h⟩
    rcases ka with rfl | ka
    · exact g2 ⟨rb', ra, kb⟩
    · rcases kb with rfl | kb
      · exact g1 ⟨ra, rb', .inr ka⟩
      · rcases RE.split hab e1 e2 ((hrb c).1 rc) with h | h
        · exact ka h
        · exact kb h
/-- the places met, and no way around another one -/
def MetI (l : List Ins) (S : Nat → Bool) (nx : Nat) : Prop := S nx = true ∧ ∀ a, S a = false → RE l a 0 nx
theorem MetI.start : MetI l (addS (fun _ => false) 0) 0 := by
  refine ⟨by simp [addS], fun a h => .refl ?_⟩
  unfold addS at h
  split at h
  · cases h
  · omega
theorem MetI.step {S : Nat → Bool} {nx ny : Nat} (h : MetI l S nx) (hn : ny ∈ nextL l nx) : MetI l (addS S ny) ny := by
  refine ⟨by simp [addS], fun a ha => ?_⟩
  unfold addS at ha
  split at ha
  · cases ha
  · exact .step (h.2 a ha) hn (by omega)
theorem MetI.ok {S : Nat → Bool} {nx : Nat} (h : MetI l S nx) (hU : ∀ a : Nat, IsRound l a (U a)) {a : Nat} (ha : a ≤ n) (hx : nx ≤ n) (hr : rlB rb U n a nx = true) : S a = true := by
  rw [rl_iff hU ha hx] at hr
  obtain ⟨_, _, hr⟩ := hr
  cases hs : S a with
  | true => rfl
  | false =>
    exfalso
    rcases hr with rfl | hr
    · rw [h.1] at hs; cases hs
    · exact hr (h.2 a hs)
theorem rounds_ex (l : List Ins) : ∃ U : Nat → Nat → Bool, ∀ a : Nat, IsRound l a (U a) :=
  ⟨fun a => Classical.choose (round_ex l a), fun a => Classical.choose_spec (round_ex l a)⟩
end

section
variable {w w' : World} {lo hi g n a b : Nat} {R : Nat → Nat → Bool} {cs : Array Value}
theorem RdB.wide {size m lo' hi' : Nat} {A : Option Addr} {xs : List Value} (h : RdB w lo hi size A m xs) (h1 : lo' ≤ lo) (h2 : hi ≤ hi') : RdB w lo' hi' size A m xs :=
  ⟨h.1, fun hn => by obtain ⟨b, o, e, q1, q2, hc⟩ := h.2 hn; exact ⟨b, o, e, by omega, by omega, hc⟩⟩
theorem RdB.low {size m : Nat} {A : Option Addr} {xs : List Value} (h : RdB w lo hi size A m xs) (hb : Below hi w w') : RdB w' lo hi size A m xs :=
  ⟨h.1, fun hn => by
    obtain ⟨b, o, e, h1, h2, hc⟩ := h.2 hn
    exact ⟨b, o, e, h1, h2, fun j u hu => (hb.cell (p := ⟨b, o + j, none⟩) h2).trans (hc j u hu)⟩⟩
/-- a block of rows: those ahead of row a are whole -/
structure RowsI (g n : Nat) (R : Nat → Nat → Bool) (a hi : Nat) (cs : Array Value) (w : World) : Prop where
  bx : Bx w g cs
  sz : cs.size = n
  hg : g < hi
  hh : hi ≤ w.heap.size
  done : ∀ i, i < a → ∃ A c, cs[i]? = some (.slice A n c) ∧ RdB w (g + 1) hi 1 A n (rowV (R i) n)
  rest : ∀ i, a < i → i < n → cs[i]? = some (.slice none 0 0)
/-- .. and row a is made up to its place b -/
structure RowP (g n : Nat) (R : Nat → Nat → Bool) (a b hi : Nat) (cs : Array Value) (v : Value) (w : World) : Prop where
  rows : RowsI g n R a hi cs w
  at_ : cs[a]? = some v
  own : w.ownsRow hi 4 1 v b (rowV (R a) b)
theorem RowsI.to (h : RowsI g n R a hi cs w) (hb : Below w.heap.size w w') : RowsI g n R a hi cs w' :=
  ⟨h.bx.to hb, h.sz, h.hg, Nat.le_trans h.hh hb.size, fun i hi' => by
    obtain ⟨A, c, h1, h2⟩ := h.done i hi'
    exact ⟨A, c, h1, h2.to h.hh hb⟩, h.rest⟩
theorem RowP.to {v : Value} (h : RowP g n R a b hi cs v w) (hb : Below w.heap.size w w') : RowP g n R a b hi cs v w' :=
  ⟨h.rows.to hb, h.at_, own_below h.own hb (Nat.le_refl _)⟩
/-- a place more -/
theorem RowP.put {v v' : Value} {o : Obj} {w3 : World} (h : RowP g n R a b hi cs v w) (han : a < n) (hown : w3.ownsRow hi 4 1 v' (b + 1) (rowV (R a) (b + 1))) (hgr : (w.alloc o).grownBy w3 v.ownBlock) :
    RowP g n R a (b + 1) hi (cs.setIfInBounds a v') v' (w3.setCell ⟨g, a, none⟩ v') := by
  have hb : Below hi w w3 := grown1 (Below.refl hi w) h.own h.rows.hh hgr
  have hgb : ∀ k, v.ownBlock = some k → hi ≤ k := fun k hk => (h.own.lt k hk).1
  refine ⟨⟨?_, ?_, h.rows.hg, ?_, ?_, ?_⟩, ?_, ?_⟩
  · exact (h.rows.bx.below hb h.rows.hg).set_ a v'
  · rw [Array.size_setIfInBounds]; exact h.rows.sz
  · have := Nat.le_trans h.rows.hh hb.size
    simpa using this
  · intro i hi'
    obtain ⟨A, c, h1, h2⟩ := h.rows.done i hi'
    refine ⟨A, c, ?_, (h2.low hb).set_ (p := ⟨g, a, none⟩) (.inl (Nat.lt_succ_self g)) v'⟩
    rw [Array.getElem?_setIfInBounds_ne (by omega)]
    exact h1
  · intro i h1 h2
    rw [Array.getElem?_setIfInBounds_ne (by omega)]
    exact h.rows.rest i h1 h2
  · rw [Array.getElem?_setIfInBounds_self_of_lt (by rw [h.rows.sz]; exact han)]
  · exact ownsRow_setCell_below hown (show (⟨g, a, none⟩ : Addr).block < hi from h.rows.hg) v'
/-- the row is whole: on to the next -/
theorem RowP.next {v : Value} (h : RowP g n R a n hi cs v w) : RowsI g n R (a + 1) w.heap.size cs w ∧ (a + 1 < n → cs[a + 1]? = some (.slice none 0 0)) := by
  obtain ⟨A, c, rfl⟩ := own_shape h.own
  have hr := RdB.of_own h.own
  refine ⟨⟨h.rows.bx, h.rows.sz, Nat.lt_of_lt_of_le h.rows.hg h.rows.hh, Nat.le_refl _, fun i hi' => ?_, fun i h1 h2 => h.rows.rest i (by omega) h2⟩, fun h1 => h.rows.rest _ (by omega) h1⟩
  by_cases e : i = a
  · subst e
    exact ⟨A, c, h.at_, hr.wide h.rows.hg (Nat.le_refl _)⟩
  · obtain ⟨A', c', h1, h2⟩ := h.rows.done i (by omega)
    exact ⟨A', c', h1, h2.wide (Nat.le_refl _) h.rows.hh⟩
theorem RowsI.open_ (h : RowsI g n R a hi cs w) (ha : cs[a]? = some (.slice none 0 0)) : RowP g n R a 0 hi cs (.slice none 0 0) w :=
  ⟨h, ha, World.ownsRow_nil _ _ _ _⟩
theorem RowsI.start (hb : Bx w g (Array.replicate n (.slice none 0 0))) : RowsI g n R 0 (g + 1) (Array.replicate n (.slice none 0 0)) w :=
  ⟨hb, by simp, by omega, hb.lt, fun i h => absurd h (Nat.not_lt_zero i), fun i _ h => by rw [Array.getElem?_replicate, if_pos h]⟩
/-- a whole row -/
theorem RowsI.row (h : RowsI g n R a hi cs w) {i : Nat} (hi' : i < a) (hn : 0 < n) : ∃ b o c, w.cell? ⟨g, i, none⟩ = some (.slice (some ⟨b, o, none⟩) n c) ∧ ∀ j, j < n → w.cell? ⟨b, o + j, none⟩ = some (.bool (R i j)) := by
  obtain ⟨A, c, h1, h2⟩ := h.done i hi'
  obtain ⟨b, o, rfl, _, _, h3⟩ := h2.2 hn
  exact ⟨b, o, c, (h.bx.cell i).trans h1, fun j hj => h3 j _ (rowV_get _ hj)⟩
theorem RowsI.low (h : RowsI g n R a hi cs w) (hb : Below hi w w') : RowsI g n R a hi cs w' :=
  ⟨h.bx.below hb h.hg, h.sz, h.hg, Nat.le_trans h.hh hb.size, fun i hi' => by
    obtain ⟨A, c, h1, h2⟩ := h.done i hi'
    exact ⟨A, c, h1, h2.low hb⟩, h.rest⟩
theorem RowsI.ten {gT : Nat} (h : RowsI g n R a hi cs w) (hg : gT < g) (v0 v1 v2 v3 v4 v5 v6 v7 v8 v9 : Value) :
    RowsI g n R a hi cs ((((((((((w.setCell ⟨gT, 0, none⟩ v0).setCell ⟨gT, 1, none⟩ v1).setCell ⟨gT, 2, none⟩ v2).setCell ⟨gT, 3, none⟩ v3).setCell ⟨gT, 4, none⟩ v4).setCell ⟨gT, 5, none⟩ v5).setCell ⟨gT, 6, none⟩ v6).setCell ⟨gT, 7, none⟩ v7).setCell ⟨gT, 8, none⟩ v8).setCell ⟨gT, 9, none⟩ v9) :=
  ⟨h.bx.far10 (by omega) _ _ _ _ _ _ _ _ _ _, h.sz, h.hg, by simpa using h.hh, fun i hi' => by
    obtain ⟨A, c, h1, h2⟩ := h.done i hi'
    exact ⟨A, c, h1, h2.ten (.inl (by omega)) _ _ _ _ _ _ _ _ _ _⟩, h.rest⟩
theorem IsSet.cell_ {b : Nat} {S : Nat → Bool} (h : IsSet w b S) {p : Addr} (hp : p.block ≠ b) (v : Value) : IsSet (w.setCell p v) b S := by
  obtain ⟨es, clock, h1, h2⟩ := h
  exact ⟨es, clock, (Below.heap_setCell w p v b (fun e => hp e.symm)).trans h1, h2⟩
theorem IsSet.ten {b gT : Nat} {S : Nat → Bool} (h : IsSet w b S) (hg : gT ≠ b) (v0 v1 v2 v3 v4 v5 v6 v7 v8 v9 : Value) :
    IsSet ((((((((((w.setCell ⟨gT, 0, none⟩ v0).setCell ⟨gT, 1, none⟩ v1).setCell ⟨gT, 2, none⟩ v2).setCell ⟨gT, 3, none⟩ v3).setCell ⟨gT, 4, none⟩ v4).setCell ⟨gT, 5, none⟩ v5).setCell ⟨gT, 6, none⟩ v6).setCell ⟨gT, 7, none⟩ v7).setCell ⟨gT, 8, none⟩ v8).setCell ⟨gT, 9, none⟩ v9) b S :=
  (((((((((h.cell_ (p := ⟨gT, 0, none⟩) hg v0).cell_ (p := ⟨gT, 1, none⟩) hg v1).cell_ (p := ⟨gT, 2, none⟩) hg v2).cell_ (p := ⟨gT, 3, none⟩) hg v3).cell_ (p := ⟨gT, 4, none⟩) hg v4).cell_ (p := ⟨gT, 5, none⟩) hg v5).cell_ (p := ⟨gT, 6, none⟩) hg v6).cell_ (p := ⟨gT, 7, none⟩) hg v7).cell_ (p := ⟨gT, 8, none⟩) hg v8).cell_ (p := ⟨gT, 9, none⟩) hg v9
/-- what lies there while the task runs -/
structure RunM (w1 : World) (gT g hi bm : Nat) (A' : Option Addr) (n c' : Nat) (R : Nat → Nat → Bool) (cs : Array Value) (S : Nat → Bool) (nx : Nat) (r : Nat → Int) (w : World) : Prop where
  t : Bx w gT (tskC A' n c' nx r)
  rows : RowsI g (n + 1) R (n + 1) hi cs w
  set_ : IsSet w bm S
  hg : gT < g
  hm : hi ≤ bm
  b : Below gT w1 w
section
variable {w1 : World} {gT bm c' nx : Nat} {A' : Option Addr} {S : Nat → Bool} {r : Nat → Int}
theorem RunM.to (h : RunM w1 gT g hi bm A' n c' R cs S nx r w) (hb : Below w.heap.size w w') : RunM w1 gT g hi bm A' n c' R cs S nx r w' :=
  ⟨h.t.to hb, h.rows.to hb, h.set_.to hb, h.hg, h.hm, h.b.trans (hb.mono (Nat.le_of_lt h.t.lt))⟩
theorem mapW_low {B b : Nat} {es : Array MapEntry} {clock : Nat} (hb : B ≤ b) : Below B w (mapW w b es clock) :=
  have h := Below.refl B w
  ⟨h.os, h.tape, h.output, by rw [mapW_size]; exact h.size, fun k hk => (mapW_other (by omega)).trans (h.block k hk)⟩
theorem RunM.low {S2 : Nat → Bool} (h : RunM w1 gT g hi bm A' n c' R cs S nx r w) (hb : Below hi w w') (hs : IsSet w' bm S2) : RunM w1 gT g hi bm A' n c' R cs S2 nx r w' :=
  have hgh : gT < hi := Nat.lt_trans h.hg h.rows.hg
  ⟨h.t.below hb hgh, h.rows.low hb, hs, h.hg, h.hm, h.b.trans (hb.mono (Nat.le_of_lt hgh))⟩
theorem RunM.put {P : Program} {t kt et : TypeId} (h : RunM w1 gT g hi bm A' n c' R cs S nx r w) (ht : P.underlying t = some (.map kt et)) (hk : P.underlying kt = some (.int .i64)) (k : Nat) :
    ∃ w', (Instr.mapUpdate t (.map (some bm)) (.int .i64 k) (.bool true)).run P w = .ok () w' ∧ RunM w1 gT g hi bm A' n c' R cs (addS S k) nx r w' := by
  obtain ⟨es, clock, h1, h2⟩ := h.set_.put ht hk k
  exact ⟨_, h1, h.low (mapW_low h.hm) h2⟩
end
theorem below_put {v v' : Value} {o : Obj} {w0 w3 : World} (h : RowP g n R a b hi cs v w) (hw : Below g w0 w) (hgr : (w.alloc o).grownBy w3 v.ownBlock) : Below g w0 (w3.setCell ⟨g, a, none⟩ v') :=
  (hw.trans ((grown1 (Below.refl hi w) h.own h.rows.hh hgr).mono (Nat.le_of_lt h.rows.hg))).setCell (p := ⟨g, a, none⟩) (Nat.le_refl _) v'
end
theorem Try.infoRB : (Try.prog.info? 60).map (fun i => (i.zero, i.size, i.bytes)) = some (some (.slice none 0 0), 1, 24) := by kernel_rfl
theorem madeCells_one (v : Value) (n : Nat) : madeCells #[v] n = Array.replicate n v := by
  apply Array.ext_getElem?
  intro i
  rw [Array.getElem?_replicate]
  unfold madeCells
  rw [Array.getElem?_map, Array.getElem?_range]
  split
  · simp [Nat.mod_one]
  · rfl
theorem made_rows (n : Nat) (hn : n ≤ 64) (w : World) : ∃ w', (Instr.makeSlice 90 (.int .i64 ((n : Int) + 1)) (.int .i64 ((n : Int) + 1))).run Try.prog w = .ok (.slice (some ⟨w.heap.size, 0, none⟩) (n + 1) (n + 1)) w' ∧
    Bx w' w.heap.size (Array.replicate (n + 1) (.slice none 0 0)) ∧ Below w.heap.size w w' := by
  obtain ⟨i0, hi, hz0, hz1, hz2⟩ := info_parts Try.infoRB
  have h := Go.run_makeSlice (P := Try.prog) w 90 60 i0 _ Try.underlying90 hi hz0 .i64 .i64 ((n : Int) + 1) ((n : Int) + 1) (by omega) (Int.le_refl _) (by rw [hz1]; omega) (by rw [hz2]; omega) (by omega)
  have e : ((n : Int) + 1).toNat = n + 1 := by omega
  rw [e, hz1, Nat.mul_one] at h
  have hc : madeCells (Value.slice none 0 0).cells (n + 1) = Array.replicate (n + 1) (.slice none 0 0) := madeCells_one _ _
  rw [hc] at h
  exact ⟨_, h, Bx.new _ _ _ _ rfl, (Below.refl _ _).alloc (Nat.le_refl _) _⟩
end Go.Proofs.Ytmiagijgecgfoaa
