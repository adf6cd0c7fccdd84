/-
  The walk of bailiwickref27.Read.
-/
import Derived.Test.YtnhnofiimidagaaJAdd
namespace Go.Proofs.Ytnhnofiimidagaa
open Go.RowKit

def RRPost (j : List UInt8) (w : World) (e : Ending) (w' : World) : Prop :=
  ∃ A n c, e = .returned (.agg #[.int .i64 (readV j).1.1, .slice A n c, .string (S (readV j).1.2.2), .int .i64 (readV j).2, .bool (readO j).isSome]) ∧ Rd w' w'.heap.size 1 A n ((readV j).1.2.1.map strV) ∧ Below w.heap.size w w'

theorem picks_is {pk : List UInt8} {b : Bool} (h : pk.all pickOk = b) (w : World) (hl : pk.length ≤ 1000000) :
    Calls Try.prog 58 #[.string (S pk)] w fun e w' => e = .returned (.bool b) ∧ w = w' := by
  subst h
  exact picks_any pk w hl
theorem keep3 {w0 w w' : World} {p q r : Addr} {x y z : Value} (h : w.cell? p = some x ∧ w.cell? q = some y ∧ w.cell? r = some z ∧ Below w0.heap.size w0 w) (hb : Below w.heap.size w w') : w'.cell? p = some x ∧ w'.cell? q = some y ∧ w'.cell? r = some z ∧ Below w0.heap.size w0 w' :=
  ⟨(hb.cell (World.block_lt_of_cell? _ _ h.1)).trans h.1, (hb.cell (World.block_lt_of_cell? _ _ h.2.1)).trans h.2.1, (hb.cell (World.block_lt_of_cell? _ _ h.2.2.1)).trans h.2.2.1, bt h.2.2.2 hb⟩
theorem rd_held {w0 w : World} {p q r : Addr} {x y z : Value} {A : Option Addr} {n : Nat} {xs : List Value} (h : w.cell? p = some x ∧ w.cell? q = some y ∧ w.cell? r = some z ∧ Below w0.heap.size w0 w) (hr : Rd w0 w0.heap.size 1 A n xs) : Rd w w.heap.size 1 A n xs := hr.to h.2.2.2
theorem head_magic {pg : Int} {ps : List (List UInt8)} {j : List UInt8} {k : Nat} (h : bgB pg ps = j.take (10 + k)) : j.take 4 = [66, 76, 87, 75] := by
  have h1 := congrArg (List.take 4) h
  rw [List.take_take, show min 4 (10 + k) = 4 by omega] at h1
  rw [← h1]
  rfl
theorem headO_magic {j : List UInt8} {q : (Int × List (List UInt8) × List UInt8) × Nat} (h : headO j = some q) : j.take 4 = [66, 76, 87, 75] := by
  unfold headO at h
  split at h
  · cases h
  split at h
  · cases h
  split at h
  · cases h
  split at h
  · rename_i he
    exact head_magic he
  · cases h
theorem headO_short {j : List UInt8} (h : j.length < 10) : headO j = none := by
  unfold headO
  split
  · rfl
  split
  · rfl
  · omega
theorem rec_seal {j : List UInt8} {a N : Nat} {x : UInt8} (hx : j[a]? = some x) (hN : x.toNat = N) (h4 : 4 ≤ a) (hl : a + 1 + N ≤ j.length) :
    recB (j.take a) ((j.take (a + 1 + N)).drop (a + 1)) = sealB ((j.take a).drop (a - 4)) ((j.take (a + 1 + N)).drop a) := by
  have ha : a < j.length := (List.getElem?_eq_some_iff.1 hx).1
  have h1 : ((j.take (a + 1 + N)).drop (a + 1)).length = N := by rw [List.length_drop, List.length_take]; omega
  have h2 : (j.take a).length - 4 = a - 4 := by rw [List.length_take]; omega
  have h3 : by8 (N : Int) = x := by
    unfold by8
    rw [Int.toNat_natCast, ← hN]
    exact UInt8.ofNat_toNat
  have h4 : (j.take (a + 1 + N)).drop a = x :: (j.take (a + 1 + N)).drop (a + 1) := by
    have hx2 : (j.take (a + 1 + N))[a]? = some x := by rw [List.getElem?_take, if_pos (by omega)]; exact hx
    obtain ⟨hk, hx3⟩ := List.getElem?_eq_some_iff.1 hx2
    rw [List.drop_eq_getElem_cons hk, hx3]
  rw [recB, h1, h2, h3, h4]
theorem rr_no {j : List UInt8} (h : headO j = none) : readV j = ((0, [], []), 0) ∧ (readO j).isSome = false := by
  have hO : readO j = none := by unfold readO; rw [h]
  refine ⟨by unfold readV; rw [hO]; rfl, by rw [hO]; rfl⟩

/-- its first tests -/
theorem hd_facts {j : List UInt8} (h10 : 10 ≤ j.length) : ∃ (x y : UInt8) (N : Nat), (∀ h, j[4]'h = x) ∧ (∀ h, j[5]'h = y) ∧ (x.toNat : Int) + 256 * (y.toNat : Int) = N ∧ N ≤ 65535 ∧ hdN j = N := by
  have hx : j[4]? = some j[4] := List.getElem?_eq_getElem (by omega)
  have hy : j[5]? = some j[5] := List.getElem?_eq_getElem (by omega)
  have h1 := j[4].toNat_lt
  have h2 := j[5].toNat_lt
  refine ⟨j[4], j[5], hdN j, fun _ => rfl, fun _ => rfl, ?_, ?_, rfl⟩
  all_goals
    unfold hdN
    rw [List.getD_eq_getElem?_getD, List.getD_eq_getElem?_getD, hx, hy]
    simp only [Option.getD_some]
    omega

set_option maxRecDepth 100000 in
set_option maxHeartbeats 4000000 in
theorem rread_no {j : List UInt8} (h : headO j = none) (w : World) (hj : j.length ≤ 1000000) : Calls Try.prog 39 #[.string (S j)] w (RRPost j w) := by
  obtain ⟨n1, n2⟩ := rr_no h
  have HN1 := Lib.hid n1
  have HN2 := Lib.hid n2
  have HH := Lib.hid h
  have hb0 : Below w.heap.size w (w.alloc (.cells #[.int .i64 0, .slice none 0 0, .string (ByteArray.mk #[]), .int .i64 0, .bool false] 68)) := (Below.refl _ _).alloc (Nat.le_refl _) _
  have hr0 := Bx.new w #[.int .i64 0, .slice none 0 0, .string (ByteArray.mk #[]), .int .i64 0, .bool false] 68 w.heap.size rfl
  clear n1 n2 h
  by_cases h10 : j.length < 10
  · go_enter Try.func39, Try.ntmps39
    go_wp2
    have cc0 := hr0.cell 0
    have cc1 := hr0.cell 1
    have cc2 := hr0.cell 2
    have cc3 := hr0.cell 3
    have cc4 := hr0.cell 4
    refine bodyPost_ret (v := .agg #[.int .i64 0, .slice none 0 0, .string (ByteArray.mk #[]), .int .i64 0, .bool false]) (by simp [results, Try.results39, go_sem, *]) rfl ⟨none, 0, 0, ?_, ?_, hb0⟩
    · rw [HN1.out, HN2.out]; rfl
    · rw [HN1.out]; exact Rd.none_
  have hlen : (10 : Int) ≤ j.length := by omega
  by_cases hmg : j.take 4 = [66, 76, 87, 75]
  · have hne : (!(j.take 4 == [66, 76, 87, 75])) = false := by rw [hmg]; rfl
    obtain ⟨x, y, N, hx4, hy5, hs, hNl, hN⟩ := hd_facts (j := j) (by omega)
    have HN := Lib.hid hN
    have hx8 := x.toNat_lt
    have hy8 := y.toNat_lt
    have hm1 : IntKind.i64.wrap (256 * (y.toNat : Int)) = 256 * (y.toNat : Int) := IntWalk.i64_in _ (by omega)
    have hm2 : IntKind.i64.wrap ((x.toNat : Int) + 256 * (y.toNat : Int)) = (N : Int) := (IntWalk.i64_in _ (by omega)).trans hs
    clear hmg hN hs
    by_cases hsh : j.length < 10 + N
    · go_enter Try.func39, Try.ntmps39
      go_wp2
      go_quiet (fail)
      have hr1 : Bx ((w.alloc (.cells #[.int .i64 0, .slice none 0 0, .string (ByteArray.mk #[]), .int .i64 0, .bool false] 68)).drewN nq) w.heap.size #[.int .i64 0, .slice none 0 0, .string (ByteArray.mk #[]), .int .i64 0, .bool false] := hr0
      have hb1 := below_drewN hb0 nq
      have hrF := (((((hr1.set_ 0 (.int .i64 0)).set_ 1 (.slice none 0 0)).set_ 2 (.string (ByteArray.mk #[]))).set_ 3 (.int .i64 0)).set_ 4 (.bool false))
      have hbF := (((((hb1.setCell (show w.heap.size ≤ (⟨w.heap.size, 0, none⟩ : Addr).block by simp) (.int .i64 0)).setCell (show w.heap.size ≤ (⟨w.heap.size, 1, none⟩ : Addr).block by simp) (.slice none 0 0)).setCell (show w.heap.size ≤ (⟨w.heap.size, 2, none⟩ : Addr).block by simp) (.string (ByteArray.mk #[]))).setCell (show w.heap.size ≤ (⟨w.heap.size, 3, none⟩ : Addr).block by simp) (.int .i64 0)).setCell (show w.heap.size ≤ (⟨w.heap.size, 4, none⟩ : Addr).block by simp) (.bool false))
      have HbF := hide hbF
      clear hbF
      have rc0 := hr1.cell 0
      have rc1 := hr1.cell 1
      have rc2 := hr1.cell 2
      have rc3 := hr1.cell 3
      have rc4 := hr1.cell 4
      have rf0 := hr1.frozen 0
      have rf1 := hr1.frozen 1
      have rf2 := hr1.frozen 2
      have rf3 := hr1.frozen 3
      have rf4 := hr1.frozen 4
      go_wp2
      have cc0 := hrF.cell 0
      have cc1 := hrF.cell 1
      have cc2 := hrF.cell 2
      have cc3 := hrF.cell 3
      have cc4 := hrF.cell 4
      refine bodyPost_ret (v := .agg #[.int .i64 0, .slice none 0 0, .string (ByteArray.mk #[]), .int .i64 0, .bool false]) (by simp [results, Try.results39, go_sem, *]) rfl ⟨none, 0, 0, ?_, ?_, unhide HbF⟩
      · rw [HN1.out, HN2.out]; rfl
      · rw [HN1.out]; exact Rd.none_
    obtain ⟨d, hd⟩ : ∃ d, (j.take (6 + N)).drop 6 = d := ⟨_, rfl⟩
    have hdl : d.length ≤ 1000000 := by rw [← hd, List.length_drop, List.length_take]; omega
    have h10' : 10 + N ≤ j.length := by omega
    have hd10 : decide ((j.length : Int) < 10 + N) = false := by simp; omega
    clear hsh
    cases hs : scO d with
    | none =>
      have HS := Lib.hid hs
      clear hs
      go_enter Try.func39, Try.ntmps39
      go_wp2
      go_quiet (fail)
      have hr1 : Bx ((w.alloc (.cells #[.int .i64 0, .slice none 0 0, .string (ByteArray.mk #[]), .int .i64 0, .bool false] 68)).drewN nq) w.heap.size #[.int .i64 0, .slice none 0 0, .string (ByteArray.mk #[]), .int .i64 0, .bool false] := hr0
      have hb1 := below_drewN hb0 nq
      clear hr0 hb0
      go_wp2_with fail
      refine (rscDec_no HS.out _ hdl).mono ?_
      rintro e w3 ⟨A8, c8, rfl, hb2⟩
      have hr2 := hr1.to hb2
      have hb3 := bt hb1 hb2
      clear hr1 hb1 hb2
      go_wp2
      go_quiet (fail)
      have hby : Below w3.heap.size w3 (w3.alloc (.cells #[.int .i64 0, .slice A8 0 c8, .string (S [])] 44)) := (Below.refl _ _).alloc (Nat.le_refl _) _
      have hr3 : Bx ((w3.alloc (.cells #[.int .i64 0, .slice A8 0 c8, .string (S [])] 44)).drewN nq) w.heap.size #[.int .i64 0, .slice none 0 0, .string (ByteArray.mk #[]), .int .i64 0, .bool false] := hr2.to (below_drewN hby nq)
      have hb4 := below_drewN (bt hb3 hby) nq
      have hrF := (((((hr3.set_ 0 (.int .i64 0)).set_ 1 (.slice none 0 0)).set_ 2 (.string (ByteArray.mk #[]))).set_ 3 (.int .i64 0)).set_ 4 (.bool false))
      have hbF := (((((hb4.setCell (show w.heap.size ≤ (⟨w.heap.size, 0, none⟩ : Addr).block by simp) (.int .i64 0)).setCell (show w.heap.size ≤ (⟨w.heap.size, 1, none⟩ : Addr).block by simp) (.slice none 0 0)).setCell (show w.heap.size ≤ (⟨w.heap.size, 2, none⟩ : Addr).block by simp) (.string (ByteArray.mk #[]))).setCell (show w.heap.size ≤ (⟨w.heap.size, 3, none⟩ : Addr).block by simp) (.int .i64 0)).setCell (show w.heap.size ≤ (⟨w.heap.size, 4, none⟩ : Addr).block by simp) (.bool false))
      have HbF := hide hbF
      clear hbF
      have rc0 := hr3.cell 0
      have rc1 := hr3.cell 1
      have rc2 := hr3.cell 2
      have rc3 := hr3.cell 3
      have rc4 := hr3.cell 4
      have rf0 := hr3.frozen 0
      have rf1 := hr3.frozen 1
      have rf2 := hr3.frozen 2
      have rf3 := hr3.frozen 3
      have rf4 := hr3.frozen 4
      go_wp2
      have cc0 := hrF.cell 0
      have cc1 := hrF.cell 1
      have cc2 := hrF.cell 2
      have cc3 := hrF.cell 3
      have cc4 := hrF.cell 4
      refine bodyPost_ret (v := .agg #[.int .i64 0, .slice none 0 0, .string (ByteArray.mk #[]), .int .i64 0, .bool false]) (by simp [results, Try.results39, go_sem, *]) rfl ⟨none, 0, 0, ?_, ?_, unhide HbF⟩
      · rw [HN1.out, HN2.out]; rfl
      · rw [HN1.out]; exact Rd.none_
    | some q =>
      obtain ⟨pg, ps, pk⟩ := q
      have hm := (scB_scO hs).1
      have hm0 := may_nopk hm
      have HS := Lib.hid hs
      cases pk with
      | cons b0 pk =>
        have hne2 : (!((b0 :: pk : List UInt8) == [])) = true := by simp
        clear hs hm hm0
        go_enter Try.func39, Try.ntmps39
        go_wp2
        go_quiet (fail)
        have hr1 : Bx ((w.alloc (.cells #[.int .i64 0, .slice none 0 0, .string (ByteArray.mk #[]), .int .i64 0, .bool false] 68)).drewN nq) w.heap.size #[.int .i64 0, .slice none 0 0, .string (ByteArray.mk #[]), .int .i64 0, .bool false] := hr0
        have hb1 := below_drewN hb0 nq
        clear hr0 hb0
        go_wp2_with fail
        refine (rscDec_yes HS.out _ hdl).mono ?_
        rintro e w3 ⟨A8, c8, rfl, hp8, hb2⟩
        have hr2 := hr1.to hb2
        have hb3 := bt hb1 hb2
        clear hr1 hb1 hb2
        go_wp2
        go_quiet (fail)
        have hby : Below w3.heap.size w3 (w3.alloc (.cells #[.int .i64 pg, .slice A8 ps.length c8, .string (S (b0 :: pk))] 44)) := (Below.refl _ _).alloc (Nat.le_refl _) _
        have hr3 : Bx ((w3.alloc (.cells #[.int .i64 pg, .slice A8 ps.length c8, .string (S (b0 :: pk))] 44)).drewN nq) w.heap.size #[.int .i64 0, .slice none 0 0, .string (ByteArray.mk #[]), .int .i64 0, .bool false] := hr2.to (below_drewN hby nq)
        have hb4 := below_drewN (bt hb3 hby) nq
        have hrF := (((((hr3.set_ 0 (.int .i64 0)).set_ 1 (.slice none 0 0)).set_ 2 (.string (ByteArray.mk #[]))).set_ 3 (.int .i64 0)).set_ 4 (.bool false))
        have hbF := (((((hb4.setCell (show w.heap.size ≤ (⟨w.heap.size, 0, none⟩ : Addr).block by simp) (.int .i64 0)).setCell (show w.heap.size ≤ (⟨w.heap.size, 1, none⟩ : Addr).block by simp) (.slice none 0 0)).setCell (show w.heap.size ≤ (⟨w.heap.size, 2, none⟩ : Addr).block by simp) (.string (ByteArray.mk #[]))).setCell (show w.heap.size ≤ (⟨w.heap.size, 3, none⟩ : Addr).block by simp) (.int .i64 0)).setCell (show w.heap.size ≤ (⟨w.heap.size, 4, none⟩ : Addr).block by simp) (.bool false))
        have HbF := hide hbF
        clear hbF
        have rc0 := hr3.cell 0
        have rc1 := hr3.cell 1
        have rc2 := hr3.cell 2
        have rc3 := hr3.cell 3
        have rc4 := hr3.cell 4
        have rf0 := hr3.frozen 0
        have rf1 := hr3.frozen 1
        have rf2 := hr3.frozen 2
        have rf3 := hr3.frozen 3
        have rf4 := hr3.frozen 4
        go_wp2
        have cc0 := hrF.cell 0
        have cc1 := hrF.cell 1
        have cc2 := hrF.cell 2
        have cc3 := hrF.cell 3
        have cc4 := hrF.cell 4
        refine bodyPost_ret (v := .agg #[.int .i64 0, .slice none 0 0, .string (ByteArray.mk #[]), .int .i64 0, .bool false]) (by simp [results, Try.results39, go_sem, *]) rfl ⟨none, 0, 0, ?_, ?_, unhide HbF⟩
        · rw [HN1.out, HN2.out]; rfl
        · rw [HN1.out]; exact Rd.none_
      | nil =>
        have hneq : bgB pg ps ≠ j.take (10 + N) := fun he => by
          have : headO j = some ((pg, ps, []), 10 + N) := by
            unfold headO
            rw [if_neg (by omega), HN.out, if_neg (by omega), hd, hs]
            exact if_pos he
          rw [HH.out] at this
          cases this
        have hne3 : (!(bgB pg ps == j.take (10 + N))) = true := by rw [Bool.not_eq_true', beq_eq_false_iff_ne]; exact hneq
        have hbg := fun A n c w hr => rbegin_any pg ps [] A n c w hr hm0
        simp only [rscrV] at hbg
        have HBG := hide hbg
        clear hs hm hm0 hneq hbg
        go_enter Try.func39, Try.ntmps39
        go_wp2
        go_quiet (fail)
        have hr1 : Bx ((w.alloc (.cells #[.int .i64 0, .slice none 0 0, .string (ByteArray.mk #[]), .int .i64 0, .bool false] 68)).drewN nq) w.heap.size #[.int .i64 0, .slice none 0 0, .string (ByteArray.mk #[]), .int .i64 0, .bool false] := hr0
        have hb1 := below_drewN hb0 nq
        clear hr0 hb0
        go_wp2_with fail
        refine (rscDec_yes HS.out _ hdl).mono ?_
        rintro e w3 ⟨A8, c8, rfl, hp8, hb2⟩
        have hr2 := hr1.to hb2
        have hb3 := bt hb1 hb2
        clear hr1 hb1 hb2
        go_wp2
        have hby : Below w3.heap.size w3 (w3.alloc (.cells #[.int .i64 pg, .slice A8 ps.length c8, .string (S [])] 44)) := (Below.refl _ _).alloc (Nat.le_refl _) _
        have hyx := Bx.new w3 #[.int .i64 pg, .slice A8 ps.length c8, .string (S [])] 44 w3.heap.size rfl
        obtain ⟨w4, hw4⟩ : ∃ w4, w3.alloc (.cells #[.int .i64 pg, .slice A8 ps.length c8, .string (S [])] 44) = w4 := ⟨_, rfl⟩
        rw [hw4] at hby hyx ⊢
        have HW4 := Lib.hid hw4
        have hr3 := hr2.to hby
        have hb4 := bt hb3 hby
        have hp9 := hp8.to hby
        have y0 := hyx.cell 0
        have y1 := hyx.cell 1
        have y2 := hyx.cell 2
        have hS1 : Below w4.heap.size w4 w4.drew := (Below.refl _ _).drew
        have q1 : IntKind.i64.wrap (10 + (N : Int)) = 10 + (N : Int) := IntWalk.i64_in _ (by omega)
        have q2 : (0 : Int) ≤ 10 + (N : Int) := by omega
        have q3 : 10 + (N : Int) ≤ j.length := by omega
        have q4 : (10 + (N : Int)).toNat = 10 + N := by omega
        clear hw4 hby hr2 hb3 hp8
        go_region_held3 (fun w' => w'.cell? ⟨w3.heap.size, 0, none⟩ = some (.int .i64 pg) ∧ w'.cell? ⟨w3.heap.size, 1, none⟩ = some (.slice A8 ps.length c8) ∧ w'.cell? ⟨w3.heap.size, 2, none⟩ = some (.string (S [])) ∧ Below w4.heap.size w4 w') (go_keep)
          (first | (go_at_call 35; refine (unhide HBG A8 ps.length c8 _ (rd_held (by assumption) hp9)).mono ?_; rintro e w6 ⟨rfl, hb6⟩; obtain ⟨k1, k2, k3, k4⟩ := keep3 (by assumption) hb6))
        have hr5 := hr3.to k4
        have hb7 := bt hb4 k4
        trace_state
        have hrF := (((((hr5.set_ 0 (.int .i64 0)).set_ 1 (.slice none 0 0)).set_ 2 (.string (ByteArray.mk #[]))).set_ 3 (.int .i64 0)).set_ 4 (.bool false))
        have hbF := (((((hb7.setCell (show w.heap.size ≤ (⟨w.heap.size, 0, none⟩ : Addr).block by simp) (.int .i64 0)).setCell (show w.heap.size ≤ (⟨w.heap.size, 1, none⟩ : Addr).block by simp) (.slice none 0 0)).setCell (show w.heap.size ≤ (⟨w.heap.size, 2, none⟩ : Addr).block by simp) (.string (ByteArray.mk #[]))).setCell (show w.heap.size ≤ (⟨w.heap.size, 3, none⟩ : Addr).block by simp) (.int .i64 0)).setCell (show w.heap.size ≤ (⟨w.heap.size, 4, none⟩ : Addr).block by simp) (.bool false))
        have HbF := hide hbF
        clear hbF
        have rc0 := hr5.cell 0
        have rc1 := hr5.cell 1
        have rc2 := hr5.cell 2
        have rc3 := hr5.cell 3
        have rc4 := hr5.cell 4
        have rf0 := hr5.frozen 0
        have rf1 := hr5.frozen 1
        have rf2 := hr5.frozen 2
        have rf3 := hr5.frozen 3
        have rf4 := hr5.frozen 4
        go_wp2
        have cc0 := hrF.cell 0
        have cc1 := hrF.cell 1
        have cc2 := hrF.cell 2
        have cc3 := hrF.cell 3
        have cc4 := hrF.cell 4
        refine bodyPost_ret (v := .agg #[.int .i64 0, .slice none 0 0, .string (ByteArray.mk #[]), .int .i64 0, .bool false]) (by simp [results, Try.results39, go_sem, *]) rfl ⟨none, 0, 0, ?_, ?_, unhide HbF⟩
        · rw [HN1.out, HN2.out]; rfl
        · rw [HN1.out]; exact Rd.none_
  · have hne : (!(j.take 4 == [66, 76, 87, 75])) = true := by rw [Bool.not_eq_true', beq_eq_false_iff_ne]; exact hmg
    clear hmg
    go_enter Try.func39, Try.ntmps39
    go_wp2
    have cc0 := hr0.cell 0
    have cc1 := hr0.cell 1
    have cc2 := hr0.cell 2
    have cc3 := hr0.cell 3
    have cc4 := hr0.cell 4
    refine bodyPost_ret (v := .agg #[.int .i64 0, .slice none 0 0, .string (ByteArray.mk #[]), .int .i64 0, .bool false]) (by simp [results, Try.results39, go_sem, *]) rfl ⟨none, 0, 0, ?_, ?_, hb0⟩
    · rw [HN1.out, HN2.out]; rfl
    · rw [HN1.out]; exact Rd.none_
end Go.Proofs.Ytnhnofiimidagaa
