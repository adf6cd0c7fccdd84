/-
  The iterator of journal.records: record by record, whatever a round does with what it is handed.
-/
import Derived.Test.YtnhnofiimidagaaJPlain
import Derived.RangeFuncSeq
import Derived.Deep.RegionHeld3
import Derived.BigFrameIn
import Derived.ControlIn
import Derived.Outline
import Derived.Deep.DeepCutAuto
import Derived.IntWalk
import Derived.BigQuiet
import Derived.Deep.QuietTactic
namespace Go.Proofs.Ytnhnofiimidagaa
open Go.RowKit
attribute [local go_sem] Oper.semAt_some

/-- how far a box's number is from the end -/
def leftA (j : List UInt8) (Ba : Nat) (W : World) : Nat := match W.cell? ⟨Ba, 0, none⟩ with
  | some (.int _ a) => j.length - a.toNat
  | _ => 0
theorem leftA_eq {j : List UInt8} {Ba a : Nat} {W : World} (h : Bx W Ba #[.int .i64 a]) : leftA j Ba W = j.length - a := by
  have := h.cell 0
  simp at this
  simp [leftA, this]
/-- how the iterator ends: at a place where there is no good record; or a round has said no -/
def IterPost (j : List UInt8) (J : Nat → World → Prop) (Jx : World → Prop) (e : Ending) (W : World) : Prop := (∃ v, e = .returned v) ∧ ((∃ a, goodAt j a = none ∧ J a W) ∨ Jx W)
/-- how a round ends -/
def RoundPost (J : Nat → World → Prop) (Jx : World → Prop) (e : Nat) (en : Ending) (W : World) : Prop := (en = .returned (.bool true) ∧ J e W) ∨ (en = .returned (.bool false) ∧ Jx W)

theorem keep2 {w0 w w' : World} {p q : Addr} {x y : Value} (h : w.cell? p = some x ∧ w.cell? q = some y ∧ Below w0.heap.size w0 w) (hb : Below w.heap.size w w') : w'.cell? p = some x ∧ w'.cell? q = some y ∧ Below w0.heap.size w0 w' :=
  ⟨(hb.cell (World.block_lt_of_cell? _ _ h.1)).trans h.1, (hb.cell (World.block_lt_of_cell? _ _ h.2.1)).trans h.2.1, bt h.2.2 hb⟩

set_option maxRecDepth 100000 in
set_option maxHeartbeats 4000000 in
theorem recs_any (j : List UInt8) (hj : j.length ≤ 1000000) (n l : Nat) (J : Nat → World → Prop) (Jx : World → Prop) (Ba Bj : Nat)
    (hbox : Hid (∀ a W, J a W → (∃ v, Bx W Ba #[v]) ∧ Bx W Bj #[.string (S j)]))
    (hgrow : Hid (∀ a W W', J a W → Below W.heap.size W W' → J a W'))
    (hset : Hid (∀ a W v, J a W → J a (W.setCell ⟨Ba, 0, none⟩ v)))
    (hY : Hid (∀ a p e W, J a W → Bx W Ba #[.int .i64 a] → goodAt j a = some (p, e) → YieldAt Fence.wide n Try.prog l #[.string (S p), .int .i64 e] W (RoundPost J Jx e)))
    (a0 : Nat) (W : World) (h0 : J a0 W) (hb : Bx W Ba #[.int .i64 a0]) (h4 : 4 ≤ a0) (hle : a0 ≤ j.length) :
    Calls Try.prog 62 #[.func (.yield l) #[] #[], .pointer (some ⟨Ba, 0, none⟩), .pointer (some ⟨Bj, 0, none⟩)] W (IterPost j J Jx) := by
  go_enter Try.func62, Try.ntmps62
  go_wp2
  go_loopw [4] (fun _ wr => ∃ a : Nat, J a wr ∧ Bx wr Ba #[.int .i64 a] ∧ 4 ≤ a ∧ a ≤ j.length) (fun _ wr => leftA j Ba wr)
  case atStart => exact ⟨a0, h0, hb, h4, hle⟩
  case round =>
    clear h0 hb h4 hle
    obtain ⟨a, hJ, hba, h4, hle⟩ := hrel
    have hbj := (hbox.out a wr hJ).2
    have ca := hba.cell 0
    have cj := hbj.cell 0
    have ca2 := hba.frozen 0
    by_cases hlt : a < j.length
    · obtain ⟨x, hx⟩ : ∃ x, j[a]? = some x := ⟨_, List.getElem?_eq_getElem hlt⟩
      have hxa : ∀ h, j[a]'h = x := fun h => by rw [List.getElem?_eq_getElem h] at hx; exact Option.some.inj hx
      obtain ⟨N, hN⟩ : ∃ N : Nat, x.toNat = N := ⟨_, rfl⟩
      have hN8 : N < 256 := by have := x.toNat_lt; omega
      have hD : (j.getD a 0).toNat = N := by rw [List.getD_eq_getElem?_getD, hx]; exact hN
      have HD := Lib.hid hD
      clear hx hD
      by_cases hbad : N < 1 ∨ 200 < N ∨ j.length < a + 5 + N
      · have hg : goodAt j a = none := by unfold goodAt; rw [if_pos hlt, HD.out, if_pos hbad]
        have HG := Lib.hid hg
        clear hg
        by_cases h1 : N < 1
        · clear hbad
          have d1 : decide ((N : Int) < 1) = true := by simp; omega
          have d1n : decide (N < 1) = true := by simp; omega
          go_wp2
          go_quiet (fail)
          go_wp2
          go_end0
          exact ⟨⟨_, rfl⟩, .inl ⟨a, HG.out, hgrow.out _ _ _ hJ (below_drewN (Below.refl _ _) _)⟩⟩
        · by_cases h2 : 200 < N
          · clear hbad
            have d1 : decide ((N : Int) < 1) = false := by simp; omega
            have d1n : decide (N < 1) = false := by simp; omega
            have d2 : decide ((200 : Int) < N) = true := by simp; omega
            have d2n : decide (200 < N) = true := by simp; omega
            go_wp2
            go_quiet (fail)
            go_wp2
            go_end0
            exact ⟨⟨_, rfl⟩, .inl ⟨a, HG.out, hgrow.out _ _ _ hJ (below_drewN (Below.refl _ _) _)⟩⟩
          · have h3 : j.length < a + 5 + N := by omega
            clear hbad
            have d1 : decide ((N : Int) < 1) = false := by simp; omega
            have d1n : decide (N < 1) = false := by simp; omega
            have d2 : decide ((200 : Int) < N) = false := by simp; omega
            have d2n : decide (200 < N) = false := by simp; omega
            have d3 : decide ((j.length : Int) < (a : Int) + 1 + N + 4) = true := by simp; omega
            go_wp2
            go_quiet (fail)
            go_wp2
            go_end0
            exact ⟨⟨_, rfl⟩, .inl ⟨a, HG.out, hgrow.out _ _ _ hJ (below_drewN (Below.refl _ _) _)⟩⟩
      · by_cases hse : sealB ((j.take a).drop (a - 4)) ((j.take (a + 1 + N)).drop a) = (j.take (a + 5 + N)).drop a
        · have hg : goodAt j a = some ((j.take (a + 1 + N)).drop (a + 1), a + 5 + N) := by unfold goodAt; rw [if_pos hlt, HD.out, if_neg hbad, if_pos hse]
          have HG := Lib.hid hg
          have HSE := Lib.hid hse
          clear hg hse
          have h1 : 1 ≤ N := by omega
          have h2 : N ≤ 200 := by omega
          have h3 : a + 5 + N ≤ j.length := by omega
          have t1 : ((a : Int) - 4).toNat = a - 4 := by omega
          have t2 : ((a : Int) + 1 + N).toNat = a + 1 + N := by omega
          have t3 : ((a : Int) + 1 + N + 4).toNat = a + 5 + N := by omega
          have s1 : IntKind.i64.wrap ((a : Int) - 4) = (a : Int) - 4 := IntWalk.i64_in _ (by omega)
          have s2 : IntKind.i64.wrap ((a : Int) + 1) = (a : Int) + 1 := IntWalk.i64_in _ (by omega)
          have s3 : IntKind.i64.wrap ((a : Int) + 1 + N) = (a : Int) + 1 + N := IntWalk.i64_in _ (by omega)
          have g1 : (0 : Int) ≤ (a : Int) - 4 := by omega
          have g2 : (0 : Int) ≤ (a : Int) + 1 + N := by omega
          have g3 : (0 : Int) ≤ (a : Int) + 1 + N + 4 := by omega
          have g4 : (a : Int) - 4 ≤ a := by omega
          have g5 : (a : Int) ≤ j.length := by omega
          have g6 : (a : Int) ≤ (a : Int) + 1 + N := by omega
          have g7 : (a : Int) + 1 + N ≤ j.length := by omega
          have g8 : (a : Int) ≤ (a : Int) + 1 + N + 4 := by omega
          have g9 : (a : Int) + 1 + N + 4 ≤ j.length := by omega
          have g10 : (4 : Int) ≤ a := by omega
          clear hbad
          have d1 : decide ((N : Int) < 1) = false := by simp; omega
          have d1n : decide (N < 1) = false := by simp; omega
          have d2 : decide ((200 : Int) < N) = false := by simp; omega
          have d2n : decide (200 < N) = false := by simp; omega
          have d3 : decide ((j.length : Int) < (a : Int) + 1 + N + 4) = false := by simp; omega
          go_wp2
          have hne : (!((j.take (a + 1 + N)).drop a ++ lowB (sumN ((j.take a).drop (a - 4) ++ (j.take (a + 1 + N)).drop a)) 4 == (j.take (a + 5 + N)).drop a)) = false := by rw [Bool.not_eq_false', beq_iff_eq]; exact HSE.out
          have hS : wr.cell? ⟨Ba, 0, none⟩ = some (.int .i64 a) ∧ wr.cell? ⟨Bj, 0, none⟩ = some (.string (S j)) ∧ Below wr.heap.size wr wr := ⟨ca, cj, Below.refl _ _⟩
          have hS1 : Below wr.heap.size wr wr.drew := (Below.refl _ _).drew
          go_region_held3 (fun w' => w'.cell? ⟨Ba, 0, none⟩ = some (.int .i64 a) ∧ w'.cell? ⟨Bj, 0, none⟩ = some (.string (S j)) ∧ Below wr.heap.size wr w') (go_keep)
            (first | (go_at_call 52; refine (sealed_any ((j.take a).drop (a - 4)) ((j.take (a + 1 + N)).drop a) _ (by simp; omega)).mono ?_; rintro e w1 ⟨rfl, hb1⟩; obtain ⟨k1, k2, k3⟩ := keep2 (by assumption) hb1))
          go_upto_region 4 with (fail)
          have hJ1 := hgrow.out _ _ _ hJ k3
          have hba1 := hba.to k3
          obtain ⟨fn, tmps, assign, body, hy, hR⟩ := hY.out a _ _ w1 hJ1 hba1 HG.out
          rw [show ((a + 5 + N : Nat) : Int) = (a : Int) + 1 + N + 4 by omega] at hy
          refine (wpIn_wide (n := n + 1)).1 ?_
          gi_wp2
          refine hR.mono ?_
          rintro e W3 (⟨rfl, hJ3⟩ | ⟨rfl, hx3⟩)
          · obtain ⟨⟨v, hv⟩, hbj3⟩ := hbox.out _ W3 hJ3
            have c3 := hv.cell 0
            have f3 := hv.frozen 0
            have hJ4 := hset.out _ _ (.int .i64 ((a : Int) + 1 + N + 4)) hJ3
            have hv4 : Bx (W3.setCell ⟨Ba, 0, none⟩ (.int .i64 ((a : Int) + 1 + N + 4))) Ba #[.int .i64 ((a : Int) + 1 + N + 4)] := hv.set_ 0 _
            have ee : (a : Int) + 1 + N + 4 = ((a + 5 + N : Nat) : Int) := by omega
            have HEE := Lib.hid ee
            clear ee hY hbox hgrow hset HG HSE HD k1 k2 ca cj ca2 hS hS1 hne hba1 hJ1 hy hR
            gi_wp2
            go_wp2
            go_roundw
            case rel =>
              rw [HEE.out] at hJ4 hv4 ⊢
              exact ⟨a + 5 + N, hJ4, hv4, by omega, by omega⟩
            case measure =>
              rw [HEE.out] at hv4 ⊢
              rw [leftA_eq hv4, leftA_eq hba]
              omega
          · gi_wp2
            go_wp2
            go_end0
            exact ⟨⟨_, rfl⟩, .inr hx3⟩
        · have hg : goodAt j a = none := by unfold goodAt; rw [if_pos hlt, HD.out, if_neg hbad, if_neg hse]
          have HG := Lib.hid hg
          have HSE := Lib.hid hse
          clear hg hse
          have h1 : 1 ≤ N := by omega
          have h2 : N ≤ 200 := by omega
          have h3 : a + 5 + N ≤ j.length := by omega
          have t1 : ((a : Int) - 4).toNat = a - 4 := by omega
          have t2 : ((a : Int) + 1 + N).toNat = a + 1 + N := by omega
          have t3 : ((a : Int) + 1 + N + 4).toNat = a + 5 + N := by omega
          have s1 : IntKind.i64.wrap ((a : Int) - 4) = (a : Int) - 4 := IntWalk.i64_in _ (by omega)
          have s2 : IntKind.i64.wrap ((a : Int) + 1) = (a : Int) + 1 := IntWalk.i64_in _ (by omega)
          have s3 : IntKind.i64.wrap ((a : Int) + 1 + N) = (a : Int) + 1 + N := IntWalk.i64_in _ (by omega)
          have g1 : (0 : Int) ≤ (a : Int) - 4 := by omega
          have g2 : (0 : Int) ≤ (a : Int) + 1 + N := by omega
          have g3 : (0 : Int) ≤ (a : Int) + 1 + N + 4 := by omega
          have g4 : (a : Int) - 4 ≤ a := by omega
          have g5 : (a : Int) ≤ j.length := by omega
          have g6 : (a : Int) ≤ (a : Int) + 1 + N := by omega
          have g7 : (a : Int) + 1 + N ≤ j.length := by omega
          have g8 : (a : Int) ≤ (a : Int) + 1 + N + 4 := by omega
          have g9 : (a : Int) + 1 + N + 4 ≤ j.length := by omega
          have g10 : (4 : Int) ≤ a := by omega
          clear hbad
          have d1 : decide ((N : Int) < 1) = false := by simp; omega
          have d1n : decide (N < 1) = false := by simp; omega
          have d2 : decide ((200 : Int) < N) = false := by simp; omega
          have d2n : decide (200 < N) = false := by simp; omega
          have d3 : decide ((j.length : Int) < (a : Int) + 1 + N + 4) = false := by simp; omega
          go_wp2
          have hne : (!((j.take (a + 1 + N)).drop a ++ lowB (sumN ((j.take a).drop (a - 4) ++ (j.take (a + 1 + N)).drop a)) 4 == (j.take (a + 5 + N)).drop a)) = true := by rw [Bool.not_eq_true', beq_eq_false_iff_ne]; exact HSE.out
          have hS : wr.cell? ⟨Ba, 0, none⟩ = some (.int .i64 a) ∧ wr.cell? ⟨Bj, 0, none⟩ = some (.string (S j)) ∧ Below wr.heap.size wr wr := ⟨ca, cj, Below.refl _ _⟩
          have hS1 : Below wr.heap.size wr wr.drew := (Below.refl _ _).drew
          go_region_held3 (fun w' => w'.cell? ⟨Ba, 0, none⟩ = some (.int .i64 a) ∧ w'.cell? ⟨Bj, 0, none⟩ = some (.string (S j)) ∧ Below wr.heap.size wr w') (go_keep)
            (first | (go_at_call 52; refine (sealed_any ((j.take a).drop (a - 4)) ((j.take (a + 1 + N)).drop a) _ (by simp; omega)).mono ?_; rintro e w1 ⟨rfl, hb1⟩; obtain ⟨k1, k2, k3⟩ := keep2 (by assumption) hb1))
          go_wp2
          go_end0
          exact ⟨⟨_, rfl⟩, .inl ⟨a, HG.out, hgrow.out _ _ _ hJ k3⟩⟩
    · have hg : goodAt j a = none := by unfold goodAt; rw [if_neg hlt]
      have HG := Lib.hid hg
      clear hg
      go_wp2
      go_end0
      exact ⟨⟨_, rfl⟩, .inl ⟨a, HG.out, hJ⟩⟩
end Go.Proofs.Ytnhnofiimidagaa
