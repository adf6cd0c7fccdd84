/-
  The walk of bailiwicklaw24.FlowRuns.
-/
import Derived.Test.YtmiagijgecgfoaaFBegin
namespace Go.Proofs.Ytmiagijgecgfoaa
open Go.RowKit

theorem run_next {l : List Ins} (hp : Prog l) {nx : Nat} (r : Nat → Int) (h : haltB l nx = false) : pN l nx r ∈ nextL l nx := by
  unfold haltB at h
  cases hx : l[nx]? with
  | none => rw [hx] at h; simp at h
  | some x =>
    obtain ⟨xo, ka, kb, kc, kn, rfl, ha, hb, hc, hk, ho, hj⟩ := hp.get hx
    rw [hx] at h
    simp only [decide_eq_false_iff_not] at h
    have h1 : wB l nx = decide (16 < (xo : Int)) := by
      unfold wB
      rw [hx]
      simp only
      rw [Bool.eq_iff_iff]
      simp only [decide_eq_true_eq]
      omega
    unfold pN
    rw [h1]
    by_cases h16 : 16 < (xo : Int)
    · have hT : tN l nx = nx + 1 := by unfold tN; rw [hx]
      have hN : nextL l nx = [nx + 1] := by
        unfold nextL; rw [hx]; simp only
        rw [if_neg h, if_neg (by omega), if_neg (by omega)]
      rw [decide_eq_true h16, if_pos rfl, hT, hN]
      exact List.mem_singleton.2 rfl
    · have hS : sN l nx r = if (xo : Int) = 5 ∨ (xo : Int) = 6 ∧ r ka ≠ 0 then kn else nx + 1 := by
        unfold sN; rw [hx]; simp only [Int.toNat_natCast]
        rw [if_neg (by omega)]
      rw [decide_eq_false h16, if_neg (by simp), hS]
      by_cases h5 : (xo : Int) = 5
      · have hN : nextL l nx = [kn] := by
          unfold nextL; rw [hx]; simp only [Int.toNat_natCast]
          rw [if_neg h, if_pos h5]
        rw [hN, if_pos (.inl h5)]
        exact List.mem_singleton.2 rfl
      · by_cases h6 : (xo : Int) = 6
        · have hN : nextL l nx = if kn < nx + 1 then [kn, nx + 1] else if kn = nx + 1 then [nx + 1] else [nx + 1, kn] := by
            unfold nextL; rw [hx]; simp only [Int.toNat_natCast]
            rw [if_neg h, if_neg h5, if_pos h6]
          by_cases hz : r ka = 0
          · rw [if_neg (show ¬ ((xo : Int) = 5 ∨ (xo : Int) = 6 ∧ r ka ≠ 0) from fun hh => by rcases hh with hh | ⟨_, hh⟩; exact h5 hh; exact hh hz), hN]
            split
            · simp
            · split <;> simp
          · rw [if_pos (show (xo : Int) = 5 ∨ (xo : Int) = 6 ∧ r ka ≠ 0 from .inr ⟨h6, hz⟩), hN]
            split
            · simp
            · split
              · simp; omega
              · simp
        · have hN : nextL l nx = [nx + 1] := by
            unfold nextL; rw [hx]; simp only
            rw [if_neg h, if_neg h5, if_neg h6]
          rw [hN, if_neg (show ¬ ((xo : Int) = 5 ∨ (xo : Int) = 6 ∧ r ka ≠ 0) from fun hh => by rcases hh with hh | ⟨hh, _⟩; exact h5 hh; exact h6 hh)]
          exact List.mem_singleton.2 rfl
theorem bestL_ge {l : List Nat} {x : Nat} (h : x ∈ l) : x ≤ bestL l := by
  induction l with
  | nil => simp at h
  | cons y l ih =>
    simp only [bestL]
    rcases List.mem_cons.1 h with rfl | h
    · omega
    · have := ih h; omega
theorem Long.next {l : List Ins} {a k j : Nat} (h : Long l a k) (hj : j ∈ nextL l a) : ∃ k', Long l j k' ∧ k' + 1 ≤ k := by
  cases h with
  | out h1 =>
    have e : nextL l a = [] := by unfold nextL; rw [List.getElem?_eq_none (by omega)]
    rw [e] at hj
    simp at hj
  | into vs h1 h2 h3 =>
    obtain ⟨i, hi, rfl⟩ := List.mem_iff_getElem.1 hj
    have hi' : i < vs.length := by omega
    have := bestL_ge (List.getElem_mem hi')
    exact ⟨vs[i], h3 i _ _ (List.getElem?_eq_getElem hi) (List.getElem?_eq_getElem hi'), by omega⟩

theorem yieldsIf_loadBx {P : Program} {ops : Array Oper} {S : World → Prop} {op : Oper} {a : Act} {ty : TypeId} {d : TypeDesc} {g : Nat} {cs : Array Value} (hw : Region.wanted op (yielded ops a.tmps) = true) (x : Operand) (ho : op.op = .load ty x)
    (hx : a.eval x = .pointer (some ⟨g, 0, none⟩)) (hS : ∀ w, S w → Bx w g cs) (hu : P.underlying ty = some d) (hd : (match d with | .struct _ | .array _ _ => true | _ => false) = true) (hi : (P.info? ty).map (·.size) = some cs.size) :
    YieldsIf P ops S op (.agg cs) a :=
  .inl ⟨hw, fun w hw' => by
    unfold execOp
    simp only [ho, hx, (hS w hw').load hu hd hi, Sem.run_bind, Sem.run_pure, Result.andThen_ok]⟩
theorem sizeTsk (A : Option Addr) (n c nx : Nat) (r : Nat → Int) : (Try.prog.info? 28).map (·.size) = some (tskC A n c nx r).size := by
  show _ = some 10
  kernel_rfl

section
variable {l : List Ins} {A : Option Addr} {n c : Nat} {w : World}

/-- what lies there while a step is done -/
structure RunW (w1 : World) (gT lo hi : Nat) (A' Ar : Option Addr) (n c' : Nat) (rb : Nat → Bool) (nx : Nat) (r : Nat → Int) (wr : World) : Prop where
  t : Bx wr gT (tskC A' n c' nx r)
  row : RdB wr lo hi 1 Ar (n + 1) (rowV rb (n + 1))
  hh : hi ≤ wr.heap.size
  b : Below gT w1 wr
theorem RunW.to {w1 : World} {gT lo hi : Nat} {A' Ar : Option Addr} {n c' : Nat} {rb : Nat → Bool} {nx : Nat} {r : Nat → Int} {wr w' : World} (h : RunW w1 gT lo hi A' Ar n c' rb nx r wr) (hb : Below wr.heap.size wr w') (hg : gT ≤ w1.heap.size) : RunW w1 gT lo hi A' Ar n c' rb nx r w' :=
  ⟨h.t.to hb, h.row.to h.hh hb, Nat.le_trans h.hh hb.size, h.b.trans (hb.mono (Nat.le_trans hg h.b.size))⟩

def LongOut (l : List Ins) (w : World) (e : Ending) (w' : World) : Prop :=
  ∃ (M : Nat) (E : Int), e = .returned (.tuple #[.int .i64 M, .int .i64 E]) ∧ (E = 12 ∨ (E = 0 ∧ Long l 0 M ∧ NoLoop l)) ∧ Below w.heap.size w w'
theorem Longest_any (hp : Prog l) (hr : Rd w w.heap.size 5 A n (l.flatMap Ins.cu)) :
    Calls Try.prog 26 #[.slice A n c] w (LongOut l w) := by
  obtain ⟨lb, hlb⟩ := loops_ex l
  have hln := hr.lenU
  cases hany : anyB lb (n + 1) with
  | true =>
    refine (Longest_loop hp hr hlb hany).mono ?_
    rintro e w' ⟨rfl, hb⟩
    exact ⟨0, 12, rfl, .inl rfl, hb⟩
  | false =>
    refine (Longest_way hp hr hlb hany).mono ?_
    rintro e w' ⟨k, hL, rfl, hb⟩
    refine ⟨k, 0, rfl, .inr ⟨rfl, hL, fun i hi a ha hra => ?_⟩, hb⟩
    have h1 : lb i = true := (hlb i).2 ⟨hi, a, ha, hra⟩
    have h2 := hi.le hp (Nat.zero_le _)
    rw [anyB_false hany i (by omega)] at h1
    cases h1

/-- is it found among the first? -/
def Found (fb : Bool) (x : Nat) (l : List Nat) : Prop := fb = true ↔ x ∈ l
/-- what holds between two rounds -/
structure RunI (w1 : World) (gT lo hi : Nat) (A' Ar : Option Addr) (n c' : Nat) (l : List Ins) (rb : Nat → Bool) (M : Nat) (E : Int) (k nx : Nat) (r : Nat → Int) (wr : World) : Prop where
  t : Bx wr gT (tskC A' n c' nx r)
  row : RdB wr lo hi 1 Ar (n + 1) (rowV rb (n + 1))
  hh : hi ≤ wr.heap.size
  b : Below gT w1 wr
  re : RE l (-1) 0 nx
  lg : E = 0 → ∃ k', Long l nx k' ∧ k + k' ≤ M

set_option maxRecDepth 100000 in
set_option maxHeartbeats 8000000 in
theorem runs_any (A2 : Option Addr) (n2 c2 : Nat) (L : List Res) (hok : ∀ x ∈ l, x.ok) (hn : n ≤ 140737488355328) (hr : Rd w w.heap.size 5 A n (l.flatMap Ins.cu)) (hr2 : Rd w w.heap.size 3 A2 n2 (L.flatMap Res.cs)) (hL : ∀ x ∈ L, x.ok) :
    Calls Try.prog 10 #[.slice A n c, .slice A2 n2 c2] w fun e w' => e = .returned (.bool true) ∧ Below w.heap.size w w' := by
  by_cases hg : n ≤ 200 ∧ n2 ≤ 60
  · obtain ⟨hn1, hn2⟩ := hg
    have hd1 : decide (200 < n) = false := decide_eq_false (by omega)
    have hd1' : decide ((200 : Int) < n) = false := decide_eq_false (by omega)
    have hd2 : decide ((60 : Int) < n2) = false := decide_eq_false (by omega)
    cases hm : mayP l with
    | false =>
      have HB := hide (begins_no (c := c) hok hm hn hr)
      clear hm hr hr2 hL hok
      go_enter Try.func10, Try.ntmps10
      go_wp2_with fail
      refine (unhide HB).mono ?_
      rintro e w1 ⟨⟨A', nn, c', rfl⟩, hb1⟩
      simp only [tskV, tskC]
      go_wp2_with fail
      refine (wakes24_any _).mono ?_
      rintro e w2 ⟨rfl, hb2⟩
      go_wp2
      go_ret
      exact ⟨rfl, bt (hb1.alloc hb1.size _) hb2⟩
    | true =>
      have hp : Prog l := ⟨hok, hm⟩
      have hln := hr.lenU
      have hle := hp.le
      have hn64 : n ≤ 64 := by omega
      obtain ⟨rb, hrb⟩ := reached_ex l
      have HB := hide (begins_yes (c := c) hp hr)
      have HRE := hide (fun W h => Reached_yes (w := W) (A := A) (n := n) (c := c) hp h hrb)
      have HLO := hide (fun W h => Longest_any (w := W) (A := A) (n := n) (c := c) hp h)
      have HP := hide hp
      have HRB := hide hrb
      have HLN := Lib.hid hln
      have HR := hide hr
      have HR2 := hide hr2
      clear hm hr hr2 hok hp hrb hln
      go_enter Try.func10, Try.ntmps10
      go_wp2_with fail
      refine (unhide HB).mono ?_
      rintro e w1 ⟨A', c', rfl, hra, hb1⟩
      have hrl := (unhide HR).to hb1
      have hrr := (unhide HR2).to hb1
      simp only [tskV, tskC]
      go_upto_region 4 with fail
      refine nameW ?_
      intro W1 hW1
      have hb2 : Below w1.heap.size w1 W1 := by rw [hW1]; exact (Below.refl _ _).alloc (Nat.le_refl _) _
      have hx1 : Bx W1 w1.heap.size (tskC A' n c' 0 rg0) := by rw [hW1]; exact Bx.new _ _ _ _ rfl
      have HRA := hide (fun (W : World) (hb : Below w1.heap.size w1 W) => (hra.below hb).mono hb.size)
      have HRL := hide (fun (W : World) (hb : Below w1.heap.size w1 W) => (hrl.below hb).mono hb.size)
      have HRR := hide (fun (W : World) (hb : Below w1.heap.size w1 W) => (hrr.below hb).mono hb.size)
      clear hW1 HB HR HR2 hra hrl hrr
      go_wp2_with fail
      refine (unhide HRE _ (unhide HRL _ hb2)).mono ?_
      rintro e w2 ⟨Ar, cr, rfl, hown, hb3⟩
      have hx2 := hx1.to hb3
      have hrow := RdB.of_own hown
      have hb4 := bt hb2 hb3
      have hlo : w1.heap.size < W1.heap.size := hx1.lt
      clear hown hx1 hb2 hb3 HRE
      go_wp2_with fail
      refine (unhide HLO _ (unhide HRL _ hb4)).mono ?_
      rintro e w3 ⟨M, E, rfl, hE, hb5⟩
      have hx3 := hx2.to hb5
      have hrow3 := hrow.to (Nat.le_refl _) hb5
      have hh3 := hb5.size
      have hb6 := bt hb4 hb5
      have hlh : W1.heap.size ≤ w2.heap.size := by
        have := hrow.2 (by omega)
        obtain ⟨_, _, _, h1, h2, _⟩ := this
        omega
      have HI := hide (⟨hx3, hrow3, hh3, hb6, .refl (by omega), fun h => by
        rcases hE with h1 | ⟨_, h1, _⟩
        · omega
        · exact ⟨M, h1, by omega⟩⟩ : RunI w1 w1.heap.size W1.heap.size w2.heap.size A' Ar n c' l rb M E 0 0 rg0 w3)
      have HE := hide hE
      clear hx2 hrow hb4 hb5 hx3 hrow3 hh3 hb6 HLO hE
      go_wp2
      go_loopw [11, 12] (fun nn ii wr => ∃ (k nx : Nat) (r : Nat → Int), k ≤ 300 ∧ ii = .int .i64 k ∧ nn = .int .i64 k ∧ RunI w1 w1.heap.size W1.heap.size w2.heap.size A' Ar n c' l rb M E k nx r wr) (fun _ ii _ => 300 - (intOf ii).toNat)
      case atStart => exact ⟨0, 0, rg0, by omega, rfl, rfl, unhide HI⟩
      case round =>
        clear HI
        obtain ⟨k, nx, r, hk, rfl, rfl, hI⟩ := hrel
        obtain ⟨hx, hrow, hh, hbr, hre, hlg⟩ := hI
        by_cases hk3 : k < 300
        · have hkd : decide ((k : Int) < 300) = true := decide_eq_true (by omega)
          have hH := halts_any (A' := A') (n' := n) (c' := c') (nx := nx) (r := r) (A := A) (n := n) (c := c) (w := wr) (unhide HRL wr hbr)
          obtain ⟨hb, hhb⟩ : ∃ q, haltB l nx = q := ⟨_, rfl⟩
          rw [hhb] at hH
          simp only [tskV, tskC] at hH
          have HH := hide hH
          have HHB := Lib.hid hhb
          clear hH hhb
          have a0 : (_ : Option Value) = some (.slice A' n c') := hx.cell 0
          have a1 : (_ : Option Value) = some (.int .i64 nx) := hx.cell 1
          have a2 : (_ : Option Value) = some (.int .u64 (r 0)) := hx.cell 2
          have a3 : (_ : Option Value) = some (.int .u64 (r 1)) := hx.cell 3
          have a4 : (_ : Option Value) = some (.int .u64 (r 2)) := hx.cell 4
          have a5 : (_ : Option Value) = some (.int .u64 (r 3)) := hx.cell 5
          have a6 : (_ : Option Value) = some (.int .u64 (r 4)) := hx.cell 6
          have a7 : (_ : Option Value) = some (.int .u64 (r 5)) := hx.cell 7
          have a8 : (_ : Option Value) = some (.int .u64 (r 6)) := hx.cell 8
          have a9 : (_ : Option Value) = some (.int .u64 (r 7)) := hx.cell 9
          go_wp2_with fail
          refine (unhide HH).mono ?_
          rintro e w4 ⟨rfl, hbq⟩
          have hx4 := hx.to hbq
          have hrow4 := hrow.to hh hbq
          have hh4 := Nat.le_trans hh hbq.size
          have hbr4 := hbr.trans (hbq.mono hbr.size)
          clear hx hrow hh hbr hbq HH a0 a1 a2 a3 a4 a5 a6 a7 a8 a9
          cases hb
          · have hnx := run_next HP.out r HHB.out
            have hok := resAt_ok hL k
            obtain ⟨x, hxx⟩ : ∃ q, resAt L k = q := ⟨_, rfl⟩
            rw [hxx] at hok
            have hRS := fun W h => result_any (w := W) (A2 := A2) (n2 := n2) (c2 := c2) (L := L) h k (by omega)
            rw [hxx] at hRS
            have hST := fun W h => steps_any (w := W) (A := A') (n := n) (c := c') (nx := nx) (r := r) HP.out h x hok
            have hNX := fun W h => Next_in (w := W) (A := A) (n := n) (c := c) HP.out h nx
            have hnn := nextL_le HP.out hnx
            rw [HLN.out] at hnn
            have hre2 : RE l (-1) 0 (pN l nx r) := .step hre hnx (by omega)
            have hlg2 : E = 0 → ∃ k', Long l (pN l nx r) k' ∧ (k + 1) + k' ≤ M := fun hE => by
              obtain ⟨k', h1, h2⟩ := hlg hE
              obtain ⟨k'', h3, h4⟩ := h1.next hnx
              exact ⟨k'', h3, by omega⟩
            have hrb := ((unhide HRB) _).2 hre2
            obtain ⟨ny, hny⟩ : ∃ q, pN l nx r = q := ⟨_, rfl⟩
            obtain ⟨ry, hry⟩ : ∃ q, pR l nx r x = q := ⟨_, rfl⟩
            rw [hny] at hnx hST hnn hre2 hlg2 hrb
            rw [hry] at hST
            obtain ⟨N, hN⟩ : ∃ q, nextL l nx = q := ⟨_, rfl⟩
            have hl2 := nextL_short l nx
            rw [hN] at hNX hnx hl2
            obtain ⟨xe, xv, xh⟩ := x
            simp only [tskV, tskC, resV] at hRS hST
            have HRS := hide hRS
            have HST := hide hST
            have HNX := hide hNX
            have HNM := hide hnx
            have HRE2 := hide hre2
            have HLG2 := hide hlg2
            have HRBY := Lib.hid hrb
            clear hRS hST hNX hnx hre2 hlg2 hrb hny hry hN hre hlg hxx hok HHB
            have a0 : (_ : Option Value) = some (.slice A' n c') := hx4.cell 0
            have a1 : (_ : Option Value) = some (.int .i64 nx) := hx4.cell 1
            have a2 : (_ : Option Value) = some (.int .u64 (r 0)) := hx4.cell 2
            have a3 : (_ : Option Value) = some (.int .u64 (r 1)) := hx4.cell 3
            have a4 : (_ : Option Value) = some (.int .u64 (r 2)) := hx4.cell 4
            have a5 : (_ : Option Value) = some (.int .u64 (r 3)) := hx4.cell 5
            have a6 : (_ : Option Value) = some (.int .u64 (r 4)) := hx4.cell 6
            have a7 : (_ : Option Value) = some (.int .u64 (r 5)) := hx4.cell 7
            have a8 : (_ : Option Value) = some (.int .u64 (r 6)) := hx4.cell 8
            have a9 : (_ : Option Value) = some (.int .u64 (r 7)) := hx4.cell 9
            go_upto_region 15 with fail
            clear a0 a1 a2 a3 a4 a5 a6 a7 a8 a9
            have hHeld : RunW w1 w1.heap.size W1.heap.size w2.heap.size A' Ar n c' rb nx r w4.drew := (⟨hx4, hrow4, hh4, hbr4⟩ : RunW w1 w1.heap.size W1.heap.size w2.heap.size A' Ar n c' rb nx r w4).to ((Below.refl _ _).drew) (Nat.le_refl _)
            clear hx4 hrow4 hh4 hbr4
            refine wp_region_G 4 (fun W => RunW w1 w1.heap.size W1.heap.size w2.heap.size A' Ar n c' rb nx r W) (by kernel_rfl) ?_
            simp only [List.size_toArray, List.length_cons, List.length_nil, Nat.zero_add, Nat.reduceAdd]
            refine wpAnyG_take (i := 0) (v := .agg (tskC A' n c' nx r)) rfl (by kernel_rfl) (fun _ _ _ h => h) (yieldsIf_loadBx (by rfl) _ rfl rfl (fun _ h => h.t) Try.underlying28 rfl (sizeTsk _ _ _ _ _)) hHeld ?_
            refine wpAnyG_take (i := 1) (v := ?_) rfl (by kernel_rfl) (fun _ _ _ h => h) (Or.inl ⟨by rfl, ?_⟩) hHeld ?_
            rotate_left
            · intro w' hSw
              go_simp
              try with_reducible rfl
            refine wpAnyG_take (i := 2) (v := ?_) rfl (by kernel_rfl) (fun _ _ _ h => h) (Or.inl ⟨by rfl, ?_⟩) hHeld ?_
            rotate_left
            · intro w' hSw
              go_simp
              try with_reducible rfl
            simp only [Act.put, List.setIfInBounds_toArray]
            refine wpAnyG_one (i := 3) (by kernel_rfl) rfl (fun K hK => ?_)
            go_simp
            refine (unhide HRS _ (unhide HRR _ hHeld.b)).mono ?_
            rintro e w6 ⟨rfl, hbq⟩
            have hHeld := hHeld.to hbq (Nat.le_refl _)
            refine hK.out _ _ ⟨fun _ => hHeld, ?_⟩
            clear hK K hbq HRS
            refine wpAnyG_one (i := 4) (by kernel_rfl) rfl (fun K hK => ?_)
            go_simp
            refine (unhide HST _ (unhide HRA _ hHeld.b)).mono ?_
            rintro e w7 ⟨rfl, hbq⟩
            have hHeld := hHeld.to hbq (Nat.le_refl _)
            refine hK.out _ _ ⟨fun h => absurd h (by decide), ?_⟩
            clear hK K hbq HST
            obtain ⟨hx7, hrow7, hh7, hbr7⟩ := hHeld
            have a0 : (_ : Option Value) = some (.slice A' n c') := hx7.cell 0
            have af0 := hx7.frozen 0
            have a1 : (_ : Option Value) = some (.int .i64 nx) := hx7.cell 1
            have af1 := hx7.frozen 1
            have a2 : (_ : Option Value) = some (.int .u64 (r 0)) := hx7.cell 2
            have af2 := hx7.frozen 2
            have a3 : (_ : Option Value) = some (.int .u64 (r 1)) := hx7.cell 3
            have af3 := hx7.frozen 3
            have a4 : (_ : Option Value) = some (.int .u64 (r 2)) := hx7.cell 4
            have af4 := hx7.frozen 4
            have a5 : (_ : Option Value) = some (.int .u64 (r 3)) := hx7.cell 5
            have af5 := hx7.frozen 5
            have a6 : (_ : Option Value) = some (.int .u64 (r 4)) := hx7.cell 6
            have af6 := hx7.frozen 6
            have a7 : (_ : Option Value) = some (.int .u64 (r 5)) := hx7.cell 7
            have af7 := hx7.frozen 7
            have a8 : (_ : Option Value) = some (.int .u64 (r 6)) := hx7.cell 8
            have af8 := hx7.frozen 8
            have a9 : (_ : Option Value) = some (.int .u64 (r 7)) := hx7.cell 9
            have af9 := hx7.frozen 9
            refine wpAnyG_one (i := 5) (by kernel_rfl) rfl (fun K hK => ?_)
            go_simp
            refine hK.out _ _ ⟨fun h => absurd h (by decide), ?_⟩
            clear hK K
            refine wpAnyG_done (by kernel_rfl) ?_ _
            go_upto_region 16 with fail
            refine nameW ?_
            intro W8 hW8
            have hxz := hx7.ten (.slice A' n c') (.int .i64 (ny:Int)) (.int .u64 (ry 0)) (.int .u64 (ry 1)) (.int .u64 (ry 2)) (.int .u64 (ry 3)) (.int .u64 (ry 4)) (.int .u64 (ry 5)) (.int .u64 (ry 6)) (.int .u64 (ry 7))
            have hrz := hrow7.ten (g := w1.heap.size) (Or.inl hlo) (.slice A' n c') (.int .i64 (ny:Int)) (.int .u64 (ry 0)) (.int .u64 (ry 1)) (.int .u64 (ry 2)) (.int .u64 (ry 3)) (.int .u64 (ry 4)) (.int .u64 (ry 5)) (.int .u64 (ry 6)) (.int .u64 (ry 7))
            have hbz := below_ten (w0 := w1) (g := w1.heap.size) hbr7 (Nat.le_refl _) (.slice A' n c') (.int .i64 (ny:Int)) (.int .u64 (ry 0)) (.int .u64 (ry 1)) (.int .u64 (ry 2)) (.int .u64 (ry 3)) (.int .u64 (ry 4)) (.int .u64 (ry 5)) (.int .u64 (ry 6)) (.int .u64 (ry 7))
            have hhz : w2.heap.size ≤ W8.heap.size := by rw [hW8]; simpa using hh7
            rw [← hW8] at hxz hrz hbz
            clear hW8 hx7 hrow7 hh7 hbr7 a0 a1 a2 a3 a4 a5 a6 a7 a8 a9 af0 af1 af2 af3 af4 af5 af6 af7 af8 af9
            go_wp2_with fail
            refine (unhide HNX _ (unhide HRL _ hbz)).mono ?_
            rintro e w9 ⟨An, cn, rfl, hrn, hbq⟩
            have hx9 := hxz.to hbq
            have hrow9 := hrz.to hhz hbq
            have hh9 := Nat.le_trans hhz hbq.size
            have hbr9 := hbz.trans (hbq.mono hbz.size)
            have HI9 := hide (⟨hx9, hrow9, hh9, hbr9, unhide HRE2, unhide HLG2⟩ : RunI w1 w1.heap.size W1.heap.size w2.heap.size A' Ar n c' l rb M E (k + 1) ny ry w9)
            have HRN := hide (fun (W : World) (hb : Below w9.heap.size w9 W) => hrn.below hb)
            obtain ⟨lN, hlN⟩ : ∃ q, N.length = q := ⟨_, rfl⟩
            rw [hlN]
            rw [hlN] at HRN hl2
            have HLNN := Lib.hid hlN
            clear hxz hrz hhz hbz hx9 hrow9 hh9 hbr9 hbq hrn HNX hlN
            go_wp2
            go_loopw [16, 17] (fun ff jj wr => ∃ (j : Nat) (fb : Bool), j ≤ lN ∧ jj = .int .i64 j ∧ ff = .bool fb ∧ Found fb ny (N.take j) ∧ Below w9.heap.size w9 wr) (fun _ jj _ => lN - (intOf jj).toNat)
            case atStart => exact ⟨0, false, Nat.zero_le _, rfl, rfl, by simp [Found], Below.refl _ _⟩
            case round =>
              obtain ⟨j, fb, hj, rfl, rfl, hfb, hbq⟩ := hrel
              obtain ⟨wi, rfl⟩ : ∃ x, x = wr := ⟨_, rfl⟩
              have ht1 : (_ : Option Value) = some (.int .i64 ny) := ((unhide HI9).t.to hbq).cell 1
              by_cases hlt : j < lN
              · obtain ⟨b2, o2, rfl, hb2b, hcs⟩ := (unhide HRN _ hbq).2 (by omega)
                have hjN : j < N.length := by rw [HLNN.out]; exact hlt
                obtain ⟨xn, hxn⟩ : ∃ x, N[j]? = some x := ⟨_, List.getElem?_eq_getElem hjN⟩
                have q0 := hcs j (intV xn) (by rw [List.getElem?_map, hxn]; rfl)
                have hts := take_snoc hxn
                have HBQ := hide hbq
                simp only [intV] at q0
                have jl : (j : Int) < lN := by omega
                have jl1 : ((j : Int)).toNat = j := by omega
                cases fb
                · by_cases he : xn = ny
                  · subst he
                    have hf2 : Found true xn (N.take (j + 1)) := by rw [hts]; simp [Found]
                    have HF2 := hide hf2
                    clear hf2 hfb hcs hxn hts hjN hbq
                    go_wp2
                    go_quiet (fail)
                    go_wp2
                    go_roundw
                    case rel => exact ⟨j + 1, true, by omega, by go_num, rfl, HF2.out, (unhide HBQ).trans ((below_drewN (Below.refl _ _) _ : Below wi.heap.size wi _).mono (unhide HBQ).size)⟩
                    case measure => simp [intOf]; omega
                  · have hf2 : Found false ny (N.take (j + 1)) := by
                      unfold Found
                      rw [hts, List.mem_append]
                      constructor
                      · intro h; cases h
                      · rintro (h | h)
                        · exact hfb.2 h
                        · exact absurd (List.mem_singleton.1 h).symm he
                    have HF2 := hide hf2
                    have e1 : ((xn : Int) == (ny : Int)) = false := by simpa using (fun h => he (by omega) : ¬ (xn : Int) = ny)
                    have e2 : decide ((xn : Int) = (ny : Int)) = false := decide_eq_false (by omega)
                    have e3 : decide (xn = ny) = false := decide_eq_false he
                    have e4 : (xn == ny) = false := by simpa using he
                    clear hf2 hfb hcs hxn hts hjN hbq
                    go_wp2
                    go_quiet (fail)
                    go_wp2
                    go_roundw
                    case rel => exact ⟨j + 1, false, by omega, by go_num, rfl, HF2.out, (unhide HBQ).trans ((below_drewN (Below.refl _ _) _ : Below wi.heap.size wi _).mono (unhide HBQ).size)⟩
                    case measure => simp [intOf]; omega
                · have hf2 : Found true ny (N.take (j + 1)) := ⟨fun _ => by rw [hts]; exact List.mem_append_left _ (hfb.1 rfl), fun _ => rfl⟩
                  have HF2 := hide hf2
                  clear hf2 hfb hcs hxn hts hjN hbq
                  go_wp2
                  go_quiet (fail)
                  go_wp2
                  go_roundw
                  case rel => exact ⟨j + 1, true, by omega, by go_num, rfl, HF2.out, (unhide HBQ).trans ((below_drewN (Below.refl _ _) _ : Below wi.heap.size wi _).mono (unhide HBQ).size)⟩
                  case measure => simp [intOf]; omega
              · have e1 : N.take j = N := List.take_of_length_le (by rw [HLNN.out]; omega)
                rw [e1] at hfb
                obtain rfl : fb = true := hfb.2 (unhide HNM)
                obtain ⟨q1, q2, q3, q4, q5, q6⟩ := unhide HI9
                have hrz := q2.to q3 hbq
                obtain ⟨br, orr, rfl, _, _, hcr⟩ := hrz.2 (by omega)
                have r0 := hcr ny _ (rowV_get rb (show ny < n + 1 by omega))
                rw [HRBY.out] at r0
                have HI10 := hide (⟨q1.to hbq, hrz, Nat.le_trans q3 hbq.size, q4.trans (hbq.mono q4.size), q5, q6⟩ : RunI w1 w1.heap.size W1.heap.size w2.heap.size A' (some ⟨br, orr, none⟩) n c' l rb M E (k + 1) ny ry wi)
                have z1 : decide ((ny : Int) < 0) = false := decide_eq_false (by omega)
                have z2 : decide ((n : Int) < ny) = false := decide_eq_false (by omega)
                have z3 : decide (n < ny) = false := decide_eq_false (by omega)
                have z4 : (ny : Int) < (n : Int) + 1 := by omega
                have z5 : ny < n + 1 := by omega
                clear q1 q2 q3 q4 q5 q6 hrz hcr hfb e1 hbq HI9 HRN
                go_wp2
                go_roundw
                case rel => exact ⟨k + 1, ny, ry, by omega, by go_num, by go_num, unhide HI10⟩
                case measure => simp [intOf]; omega
          · have hM : E = 0 → k ≤ M := fun hE => by obtain ⟨k', _, h⟩ := hlg hE; omega
            have HLV := hide hM
            have hk4 : (k : Int) ≤ M → True := fun _ => trivial
            have hH := halts_any (A' := A') (n' := n) (c' := c') (nx := nx) (r := r) (A := A) (n := n) (c := c) (w := w4) (unhide HRL w4 hbr4)
            rw [HHB.out] at hH
            simp only [tskV, tskC] at hH
            have HH := hide hH
            clear hH hM hk4 hlg hre
            rcases HE.out with rfl | ⟨rfl, _, _⟩
            · go_wp2_with fail
              refine (wakes24_any _).mono ?_
              rintro e w9 ⟨rfl, hb9⟩
              go_wp2
              go_ret
              exact ⟨rfl, bt (bt hb1 hbr4) hb9⟩
            · have hkM := (unhide HLV) rfl
              have z1 : decide ((k : Int) ≤ M) = true := decide_eq_true (by omega)
              have z2 : decide (k ≤ M) = true := decide_eq_true hkM
              have a0 : (_ : Option Value) = some (.slice A' n c') := hx4.cell 0
              have a1 : (_ : Option Value) = some (.int .i64 nx) := hx4.cell 1
              have a2 : (_ : Option Value) = some (.int .u64 (r 0)) := hx4.cell 2
              have a3 : (_ : Option Value) = some (.int .u64 (r 1)) := hx4.cell 3
              have a4 : (_ : Option Value) = some (.int .u64 (r 2)) := hx4.cell 4
              have a5 : (_ : Option Value) = some (.int .u64 (r 3)) := hx4.cell 5
              have a6 : (_ : Option Value) = some (.int .u64 (r 4)) := hx4.cell 6
              have a7 : (_ : Option Value) = some (.int .u64 (r 5)) := hx4.cell 7
              have a8 : (_ : Option Value) = some (.int .u64 (r 6)) := hx4.cell 8
              have a9 : (_ : Option Value) = some (.int .u64 (r 7)) := hx4.cell 9
              go_wp2_with fail
              refine (unhide HH).mono ?_
              rintro e w8 ⟨rfl, hb8⟩
              clear a0 a1 a2 a3 a4 a5 a6 a7 a8 a9
              have hb10 := bt (bt hb1 hbr4) hb8
              clear hx4 hrow4 hh4 hbr4 hb8 HH
              go_wp2_with fail
              refine (wakes24_any _).mono ?_
              rintro e w9 ⟨rfl, hb9⟩
              go_wp2
              go_ret
              exact ⟨rfl, bt hb10 hb9⟩
        · obtain rfl : k = 300 := by omega
          rcases HE.out with rfl | ⟨rfl, hLM, hNL⟩
          · go_wp2_with fail
            refine (wakes24_any _).mono ?_
            rintro e w9 ⟨rfl, hb9⟩
            go_wp2
            go_ret
            exact ⟨rfl, bt (bt hb1 hbr) hb9⟩
          · exfalso
            obtain ⟨k', _, h⟩ := hlg rfl
            have := hLM.le66 HP.out hNL (.refl (by omega))
            omega
  · go_enter Try.func10, Try.ntmps10
    go_wp2_with fail
    all_goals
      refine (wakes24_any w).mono ?_
      rintro e w1 ⟨rfl, hb1⟩
      go_wp2
      go_ret
      exact ⟨rfl, hb1⟩
end
end Go.Proofs.Ytmiagijgecgfoaa
