/-
  The walk of journal.head.
-/
import Derived.Test.YtnhnofiimidagaaJRecord
import Derived.Test.YtnhnofiimidagaaJDec
import Derived.Laws.DeepStrings4
namespace Go.Proofs.Ytnhnofiimidagaa
open Go.RowKit

/-- the length that a head tells -/
def hdN (j : List UInt8) : Nat := (j.getD 4 0).toNat + 256 * (j.getD 5 0).toNat
/-- the script of a head, and how many bytes it has -/
def headO (j : List UInt8) : Option ((Int × List (List UInt8) × List UInt8) × Nat) :=
  if j.length < 6 then none else if j.length < 10 + hdN j then none else
    match scO ((j.take (6 + hdN j)).drop 6) with
    | none => none
    | some q => if bgB q.1 q.2.1 = j.take (10 + hdN j) then some (q, 10 + hdN j) else none

theorem may_nopk {pg : Int} {ps : List (List UInt8)} {pk : List UInt8} (h : mayS pg ps pk = true) : mayS pg ps [] = true := by
  unfold mayS at h ⊢
  simp only [Bool.and_eq_true, decide_eq_true_eq] at h
  simp [h]
/-- whoever has a head has no picks in it -/
theorem headO_pk {j : List UInt8} {q : Int × List (List UInt8) × List UInt8} {at_ : Nat} (h : headO j = some (q, at_)) : q.2.2 = [] := by
  unfold headO at h
  split at h
  · cases h
  split at h
  · cases h
  rename_i h6 h10
  split at h
  · cases h
  rename_i q' hq
  split at h
  · rename_i he
    simp only [Option.some.injEq, Prod.mk.injEq] at h
    obtain ⟨rfl, _⟩ := h
    obtain ⟨_, hB⟩ := scB_scO (pg := q'.1) (ps := q'.2.1) (pk := q'.2.2) hq
    have h1 := congrArg List.length hB
    have h2 := congrArg List.length he
    simp only [bgB, sealB, List.length_append, headB_len, lowB_len, List.length_take, List.length_drop, scB, List.length_cons, List.length_nil] at h1 h2
    apply List.eq_nil_of_length_eq_zero
    omega
  · cases h

theorem or_i64 (a b : Nat) (ha : a < 256) (hb : b < 256) : bits .or .i64 (a : Int) ((b : Int) * 256) = (a : Int) + 256 * (b : Int) := by
  have e1 : (BitVec.ofInt 64 (a : Int)).toNat = a := by rw [BitVec.ofInt_natCast, BitVec.toNat_ofNat]; exact Nat.mod_eq_of_lt (by omega)
  have e2 : (BitVec.ofInt 64 ((b : Int) * 256)).toNat = b * 256 := by
    rw [show ((b : Int) * 256) = ((b * 256 : Nat) : Int) by omega, BitVec.ofInt_natCast, BitVec.toNat_ofNat]; exact Nat.mod_eq_of_lt (by omega)
  show IntKind.i64.wrap ((BitVec.ofInt 64 (a : Int) ||| BitVec.ofInt 64 ((b : Int) * 256)).toNat : Int) = _
  rw [BitVec.toNat_or, e1, e2, Nat.or_comm, show b * 256 = b <<< 8 by rw [Nat.shiftLeft_eq], ← Nat.shiftLeft_add_eq_or_of_lt (by omega), Nat.shiftLeft_eq]
  refine (IntWalk.i64_in _ ?_).trans ?_ <;> omega

theorem OwnB.setCell_lt {w : World} {base : Nat} {e : TypeId} {v : Value} {n : Nat} {xs : List Value} (h : OwnB w base e v n xs) {p : Addr} (hp : p.block < base) (u : Value) : OwnB (w.setCell p u) base e v n xs := by
  obtain ⟨g, cap, cur, fr, rfl, hbg, hg, r⟩ := h
  exact ⟨g, cap, cur, fr, rfl, hbg, (Below.heap_setCell w p u g (fun he => by omega)).trans hg, r⟩

theorem scrDecO_yes {l : List UInt8} {pg : Int} {ps : List (List UInt8)} {pk : List UInt8} (h : scO l = some (pg, ps, pk)) (w : World) (hl : l.length ≤ 1000000) :
    Calls Try.prog 27 #[.string (S l)] w
      fun e w' => ∃ A c A2 c2, e = .returned (.tuple #[.agg #[.int .i64 pg, .slice A ps.length c, .slice A2 pk.length c2], .int .i64 0]) ∧
        w'.ownsRow w.heap.size 9 1 (.slice A ps.length c) ps.length (ps.map strV) ∧ OwnB w' w.heap.size 5 (.slice A2 pk.length c2) pk.length (pk.map byteV) ∧ Below w.heap.size w w' := by
  refine (scrDecO_any l w hl).mono ?_
  rintro e w' ⟨A, n, c, A2, m, c2, rfl, h1, h2, h3, hb⟩
  have e1 := (scr_yes h).1
  have e2 := (scr_yes h).2
  obtain ⟨h5, h4⟩ := h3 e2
  rw [e1] at h1 h2 h5 h4 ⊢
  rw [e2]
  have hn := h1.lenOne
  have hm := h2.lenOne
  simp only at hn hm h1 h2 h5 h4
  subst hn hm
  exact ⟨A, c, A2, c2, rfl, h4, h5, hb⟩

/-- what a head hands back -/
def headV (j : List UInt8) : (Int × List (List UInt8) × List UInt8) × Nat := (headO j).getD ((0, [], []), 0)
def headE (j : List UInt8) : Int := if (headO j).isSome then 0 else 3

set_option maxRecDepth 100000 in
set_option maxHeartbeats 4000000 in
theorem head_any (j : List UInt8) (w : World) (hj : j.length ≤ 1000000) :
    Calls Try.prog 55 #[.string (S j)] w
      fun e w' => ∃ A n c A2 m c2, e = .returned (.tuple #[scrV (headV j).1.1 A n c A2 m c2, .int .i64 (headV j).2, .int .i64 (headE j)]) ∧
        Rd w' w'.heap.size 1 A n ((headV j).1.2.1.map strV) ∧ (headE j = 0 → OwnB w' w.heap.size 5 (.slice A2 m c2) m [] ∧ w'.ownsRow w.heap.size 9 1 (.slice A n c) n ((headV j).1.2.1.map strV)) ∧ m = 0 ∧ Below w.heap.size w w' := by
  have hb0 : Below w.heap.size w (w.alloc (.cells #[.int .i64 0, .slice none 0 0, .slice none 0 0] 49)) := (Below.refl _ _).alloc (Nat.le_refl _) _
  have hr0 := Bx.new w #[.int .i64 0, .slice none 0 0, .slice none 0 0] 49 w.heap.size rfl
  have cr0 := hr0.cell 0
  have cr1 := hr0.cell 1
  have cr2 := hr0.cell 2
  simp only [scrV, headV]
  by_cases h6 : j.length < 6
  · have hno : headO j = none := by unfold headO; rw [if_pos h6]
    have HNo := Lib.hid hno
    have he : headE j = 3 := by unfold headE; rw [hno]; rfl
    have HE := Lib.hid he
    clear hno he
    go_enter Try.func55, Try.ntmps55
    go_wp2
    refine bodyPost_ret (v := .tuple #[.agg #[.int .i64 0, .slice none 0 0, .slice none 0 0], .int .i64 0, .int .i64 3]) (by simp [results, Try.results55, go_sem, *]) rfl ?_
    rw [HNo.out, HE.out]
    exact ⟨none, 0, 0, none, 0, 0, rfl, Rd.none_, fun h => absurd h (by decide), rfl, hb0⟩
  obtain ⟨x, hx⟩ : ∃ x, j[4]? = some x := ⟨_, List.getElem?_eq_getElem (by omega)⟩
  obtain ⟨y, hy⟩ : ∃ y, j[5]? = some y := ⟨_, List.getElem?_eq_getElem (by omega)⟩
  have hx4 : ∀ h, j[4]'h = x := fun h => by rw [List.getElem?_eq_getElem h] at hx; exact Option.some.inj hx
  have hy5 : ∀ h, j[5]'h = y := fun h => by rw [List.getElem?_eq_getElem h] at hy; exact Option.some.inj hy
  obtain ⟨a, ha⟩ : ∃ a : Nat, x.toNat = a := ⟨_, rfl⟩
  obtain ⟨b, hb⟩ : ∃ b : Nat, y.toNat = b := ⟨_, rfl⟩
  have ha8 : a < 256 := by have := x.toNat_lt; omega
  have hb8 : b < 256 := by have := y.toNat_lt; omega
  have hor := or_i64 a b ha8 hb8
  have hN : hdN j = a + 256 * b := by
    unfold hdN
    rw [List.getD_eq_getElem?_getD, List.getD_eq_getElem?_getD, hx, hy]
    simp [ha, hb]
  obtain ⟨N, hNN⟩ : ∃ N, a + 256 * b = N := ⟨_, rfl⟩
  rw [hNN] at hN
  have hor' : bits .or .i64 (a : Int) ((b : Int) * 256) = (N : Int) := by rw [hor]; omega
  have HN := Lib.hid hN
  have h6' : 6 ≤ j.length := by omega
  have hNl : N ≤ 65535 := by omega
  have hsh : IntKind.i64.wrap ((b : Int) * 256) = (b : Int) * 256 := IntWalk.i64_in _ (by omega)
  clear hx hy hN hor hNN
  by_cases h10 : j.length < 10 + N
  · have hno : headO j = none := by unfold headO; rw [if_neg h6, HN.out, if_pos h10]
    have HNo := Lib.hid hno
    have he : headE j = 3 := by unfold headE; rw [hno]; rfl
    have HE := Lib.hid he
    clear hno he h6
    go_enter Try.func55, Try.ntmps55
    go_wp2
    go_quiet (fail)
    go_wp2
    refine bodyPost_ret (v := .tuple #[.agg #[.int .i64 0, .slice none 0 0, .slice none 0 0], .int .i64 0, .int .i64 3]) (by simp [results, Try.results55, go_sem, *]) rfl ?_
    rw [HNo.out, HE.out]
    exact ⟨none, 0, 0, none, 0, 0, rfl, Rd.none_, fun h => absurd h (by decide), rfl, (((below_drewN hb0 _).setCell (show w.heap.size ≤ (⟨w.heap.size, 0, none⟩ : Addr).block by simp) _).setCell (show w.heap.size ≤ (⟨w.heap.size, 1, none⟩ : Addr).block by simp) _).setCell (show w.heap.size ≤ (⟨w.heap.size, 2, none⟩ : Addr).block by simp) _⟩
  obtain ⟨d, hd⟩ : ∃ d, (j.take (6 + N)).drop 6 = d := ⟨_, rfl⟩
  have hdl : d.length ≤ 1000000 := by rw [← hd, List.length_drop, List.length_take]; omega
  cases hs : scO d with
  | none =>
    have hno : headO j = none := by unfold headO; rw [if_neg h6, HN.out, if_neg h10, hd, hs]
    have HNo := Lib.hid hno
    have he : headE j = 3 := by unfold headE; rw [hno]; rfl
    have HE := Lib.hid he
    have HS := Lib.hid hs
    clear hno he h6 hs
    go_enter Try.func55, Try.ntmps55
    go_wp2
    go_quiet (fail)
    go_wp2_with fail
    refine (scrDec_no HS.out _ hdl).mono ?_
    rintro e w1 ⟨A8, c8, A9, c9, rfl, hb1⟩
    have hrd : Bx ((w.alloc (.cells #[.int .i64 0, .slice none 0 0, .slice none 0 0] 49)).drewN nq) w.heap.size #[.int .i64 0, .slice none 0 0, .slice none 0 0] := hr0
    have hr1 := hrd.to hb1
    have hbA := bt (below_drewN hb0 nq) hb1
    have hby : Below w1.heap.size w1 (w1.alloc (.cells #[.int .i64 0, .slice A8 0 c8, .slice A9 0 c9] 49)) := (Below.refl _ _).alloc (Nat.le_refl _) _
    have hyb := Bx.new w1 #[.int .i64 0, .slice A8 0 c8, .slice A9 0 c9] 49 w1.heap.size rfl
    have hr2 := hr1.to hby
    have hbB := bt hbA hby
    have y0 := hyb.cell 0
    have y1 := hyb.cell 1
    have y2 := hyb.cell 2
    have hbg := fun w => begin_any 0 [] A8 A9 0 c8 0 c9 w Rd.none_ (by simp) (by omega)
    rw [show bgS 0 [] = [] by unfold bgS; rw [show mayS 0 [] [] = false by decide]; rfl, show scE 0 [] [] = 3 by decide] at hbg
    simp only [scrV] at hbg
    have HBG := hide hbg
    clear hbg hr0 cr0 cr1 cr2 hb0 hrd hr1 hb1 hbA hby hyb
    go_wp2_with fail
    refine (unhide HBG _).mono ?_
    rintro e w2 ⟨rfl, hb2⟩
    have hr3 := hr2.to hb2
    have hbC := bt hbB hb2
    have cr0 := hr3.cell 0
    have cr1 := hr3.cell 1
    have cr2 := hr3.cell 2
    have fr0 := hr3.frozen 0
    have fr1 := hr3.frozen 1
    have fr2 := hr3.frozen 2
    have hrF := ((hr3.set_ 0 (.int .i64 0)).set_ 1 (.slice none 0 0)).set_ 2 (.slice none 0 0)
    have hbF := (((hbC).setCell (show w.heap.size ≤ (⟨w.heap.size, 0, none⟩ : Addr).block by simp) (.int .i64 0)).setCell (show w.heap.size ≤ (⟨w.heap.size, 1, none⟩ : Addr).block by simp) (.slice none 0 0)).setCell (show w.heap.size ≤ (⟨w.heap.size, 2, none⟩ : Addr).block by simp) (.slice none 0 0)
    clear hr2 hbB hb2 y0 y1 y2 hbC hr3 HBG
    go_wp2
    have cF0 := hrF.cell 0
    have cF1 := hrF.cell 1
    have cF2 := hrF.cell 2
    refine bodyPost_ret (v := .tuple #[.agg #[.int .i64 0, .slice none 0 0, .slice none 0 0], .int .i64 0, .int .i64 3]) (by simp [results, Try.results55, go_sem, *]) rfl ?_
    rw [HNo.out, HE.out]
    exact ⟨none, 0, 0, none, 0, 0, rfl, Rd.none_, fun h => absurd h (by decide), rfl, hbF⟩
  | some q =>
    obtain ⟨pg, ps, pk⟩ := q
    have hm := (scB_scO hs).1
    have hm0 := may_nopk hm
    have h8 := (mayS_iff hm).2.1.2
    have hpl : ∀ x ∈ ps, x.length ≤ 1000000 := fun x hx => by have := decOk_len ((mayS_iff hm).2.2.2.1 x hx); omega
    have HS := Lib.hid hs
    by_cases heq : bgB pg ps = j.take (10 + N)
    · have hyes : headO j = some ((pg, ps, pk), 10 + N) := by
        unfold headO
        rw [if_neg h6, HN.out, if_neg h10, hd, hs]
        exact if_pos heq
      obtain rfl : pk = [] := headO_pk hyes
      have he : headE j = 0 := by unfold headE; rw [hyes]; rfl
      have HY := Lib.hid hyes
      have HE := Lib.hid he
      have hb10 : 10 + N ≤ j.length := by omega
      clear hyes he h6 hs hm
      go_enter Try.func55, Try.ntmps55
      go_wp2
      go_quiet (fail)
      go_wp2_with fail
      refine (scrDecO_yes HS.out _ hdl).mono ?_
      rintro e w1 ⟨A8, c8, A9, c9, rfl, hp1, hk1, hb1⟩
      have hrd : Bx ((w.alloc (.cells #[.int .i64 0, .slice none 0 0, .slice none 0 0] 49)).drewN nq) w.heap.size #[.int .i64 0, .slice none 0 0, .slice none 0 0] := hr0
      have hr1 := hrd.to hb1
      have hbA := bt (below_drewN hb0 nq) hb1
      have hby : Below w1.heap.size w1 (w1.alloc (.cells #[.int .i64 pg, .slice A8 ps.length c8, .slice A9 ([] : List UInt8).length c9] 49)) := (Below.refl _ _).alloc (Nat.le_refl _) _
      have hyb := Bx.new w1 #[.int .i64 pg, .slice A8 ps.length c8, .slice A9 ([] : List UInt8).length c9] 49 w1.heap.size rfl
      have hr2 := hr1.to hby
      have hbB := bt hbA hby
      have y0 := hyb.cell 0
      have y1 := hyb.cell 1
      have y2 := hyb.cell 2
      have ho1 : w1.ownsRow (w.heap.size + 1) 9 1 (.slice A8 ps.length c8) ps.length (ps.map strV) := own_mono hp1 (by simp)
      have ho2 := own_below ho1 hby (Nat.le_refl _)
      have hp2 := Rd.of_own ho2
      have hk2 := hk1.below hby (Nat.le_refl _)
      have hbg := fun w hr => begin_any pg ps A8 A9 ps.length c8 ([] : List UInt8).length c9 w hr hpl (by omega)
      rw [show bgS pg ps = j.take (6 + N + 4) by unfold bgS; rw [hm0, show 6 + N + 4 = 10 + N by omega]; exact heq, show scE pg ps [] = 0 by unfold scE; rw [hm0]; rfl] at hbg
      simp only [scrV] at hbg
      have HBG := hide hbg
      have hw1 : w.heap.size < w1.heap.size := by have := hb1.size; simp at this; omega
      clear hbg hr0 cr0 cr1 cr2 hb0 hrd hr1 hb1 hbA hby hpl hm0 hp1 hk1 ho1
      go_wp2_with fail
      refine (unhide HBG _ hp2).mono ?_
      rintro e w2 ⟨rfl, hb2⟩
      have hr3 := hr2.to hb2
      have hbC := bt hbB hb2
      have hyc := hyb.to hb2
      have hp3 := own_below ho2 hb2 (Nat.le_refl _)
      have hk3 := hk2.below hb2 (Nat.le_refl _)
      have cr0 := hr3.cell 0
      have cr1 := hr3.cell 1
      have cr2 := hr3.cell 2
      have fr0 := hr3.frozen 0
      have fr1 := hr3.frozen 1
      have fr2 := hr3.frozen 2
      have z0 := hyc.cell 0
      have z1 := hyc.cell 1
      have z2 := hyc.cell 2
      clear hr2 hbB hb2 y0 y1 y2 HBG hyb hyc hp2 hk2
      have hrF := ((hr3.set_ 0 (.int .i64 pg)).set_ 1 (.slice A8 ps.length c8)).set_ 2 (.slice A9 ([] : List UInt8).length c9)
      have hbF := (((hbC).setCell (show w.heap.size ≤ (⟨w.heap.size, 0, none⟩ : Addr).block by simp) (.int .i64 pg)).setCell (show w.heap.size ≤ (⟨w.heap.size, 1, none⟩ : Addr).block by simp) (.slice A8 ps.length c8)).setCell (show w.heap.size ≤ (⟨w.heap.size, 2, none⟩ : Addr).block by simp) (.slice A9 ([] : List UInt8).length c9)
      go_wp2
      have cF0 := hrF.cell 0
      have cF1 := hrF.cell 1
      have cF2 := hrF.cell 2
      have hk4 : OwnB w2 (w.heap.size + 1) 5 (.slice A9 ([] : List UInt8).length c9) ([] : List UInt8).length (([] : List UInt8).map byteV) := hk3.mono (by simp)
      have e10 : (6 : Int) + N + 4 = ((10 + N : Nat) : Int) := by omega
      refine bodyPost_ret (v := .tuple #[.agg #[.int .i64 pg, .slice A8 ps.length c8, .slice A9 0 c9], .int .i64 (6 + N + 4), .int .i64 0]) (by simp [results, Try.results55, go_sem, *]) rfl ?_
      rw [HY.out, HE.out, e10]
      exact ⟨_, _, _, _, _, _, rfl, Rd.of_own (ownsRow_setCell_below (ownsRow_setCell_below (ownsRow_setCell_below hp3 (show (⟨w.heap.size, 0, none⟩ : Addr).block < w.heap.size + 1 by simp) _) (show (⟨w.heap.size, 1, none⟩ : Addr).block < w.heap.size + 1 by simp) _) (show (⟨w.heap.size, 2, none⟩ : Addr).block < w.heap.size + 1 by simp) _), fun _ => ⟨(((hk4.setCell_lt (show (⟨w.heap.size, 0, none⟩ : Addr).block < w.heap.size + 1 by simp) _).setCell_lt (show (⟨w.heap.size, 1, none⟩ : Addr).block < w.heap.size + 1 by simp) _).setCell_lt (show (⟨w.heap.size, 2, none⟩ : Addr).block < w.heap.size + 1 by simp) _).mono (by omega), own_mono (ownsRow_setCell_below (ownsRow_setCell_below (ownsRow_setCell_below hp3 (show (⟨w.heap.size, 0, none⟩ : Addr).block < w.heap.size + 1 by simp) _) (show (⟨w.heap.size, 1, none⟩ : Addr).block < w.heap.size + 1 by simp) _) (show (⟨w.heap.size, 2, none⟩ : Addr).block < w.heap.size + 1 by simp) _) (by omega)⟩, rfl, hbF⟩
    · have hno : headO j = none := by
        unfold headO
        rw [if_neg h6, HN.out, if_neg h10, hd, hs]
        exact if_neg heq
      have HNo := Lib.hid hno
      have he : headE j = 3 := by unfold headE; rw [hno]; rfl
      have HE := Lib.hid he
      have hb10 : 10 + N ≤ j.length := by omega
      have hne' : bgB pg ps ≠ j.take (6 + N + 4) := fun h => heq (by rw [h, show 6 + N + 4 = 10 + N by omega])
      have hne : (!bgB pg ps == j.take (6 + N + 4)) = true := by rw [Bool.not_eq_true', beq_eq_false_iff_ne]; exact hne'
      have h40 : pk.length ≤ 140737488355328 := by have := (mayS_iff hm).2.2.1; omega
      clear hno he h6 hs hm
      go_enter Try.func55, Try.ntmps55
      go_wp2
      go_quiet (fail)
      go_wp2_with fail
      refine (scrDecO_yes HS.out _ hdl).mono ?_
      rintro e w1 ⟨A8, c8, A9, c9, rfl, hp1, hk1, hb1⟩
      have hrd : Bx ((w.alloc (.cells #[.int .i64 0, .slice none 0 0, .slice none 0 0] 49)).drewN nq) w.heap.size #[.int .i64 0, .slice none 0 0, .slice none 0 0] := hr0
      have hr1 := hrd.to hb1
      have hbA := bt (below_drewN hb0 nq) hb1
      have hby : Below w1.heap.size w1 (w1.alloc (.cells #[.int .i64 pg, .slice A8 ps.length c8, .slice A9 pk.length c9] 49)) := (Below.refl _ _).alloc (Nat.le_refl _) _
      have hyb := Bx.new w1 #[.int .i64 pg, .slice A8 ps.length c8, .slice A9 pk.length c9] 49 w1.heap.size rfl
      have hr2 := hr1.to hby
      have hbB := bt hbA hby
      have y0 := hyb.cell 0
      have y1 := hyb.cell 1
      have y2 := hyb.cell 2
      have ho1 : w1.ownsRow (w.heap.size + 1) 9 1 (.slice A8 ps.length c8) ps.length (ps.map strV) := own_mono hp1 (by simp)
      have ho2 := own_below ho1 hby (Nat.le_refl _)
      have hp2 := Rd.of_own ho2
      have hk2 := hk1.below hby (Nat.le_refl _)
      have hbg := fun w hr => begin_any pg ps A8 A9 ps.length c8 pk.length c9 w hr hpl (by omega)
      rw [show bgS pg ps = bgB pg ps by unfold bgS; rw [hm0]; rfl, show scE pg ps [] = 0 by unfold scE; rw [hm0]; rfl] at hbg
      simp only [scrV] at hbg
      have HBG := hide hbg
      have hw1 : w.heap.size < w1.heap.size := by have := hb1.size; simp at this; omega
      clear hbg hr0 cr0 cr1 cr2 hb0 hrd hr1 hb1 hbA hby hpl hm0 hp1 hk1 ho1
      go_wp2_with fail
      refine (unhide HBG _ hp2).mono ?_
      rintro e w2 ⟨rfl, hb2⟩
      have hr3 := hr2.to hb2
      have hbC := bt hbB hb2
      have hyc := hyb.to hb2
      have hp3 := own_below ho2 hb2 (Nat.le_refl _)
      have hk3 := hk2.below hb2 (Nat.le_refl _)
      have cr0 := hr3.cell 0
      have cr1 := hr3.cell 1
      have cr2 := hr3.cell 2
      have fr0 := hr3.frozen 0
      have fr1 := hr3.frozen 1
      have fr2 := hr3.frozen 2
      have z0 := hyc.cell 0
      have z1 := hyc.cell 1
      have z2 := hyc.cell 2
      clear hr2 hbB hb2 y0 y1 y2 HBG hyb hyc hp2 hk2
      have hrF := ((hr3.set_ 0 (.int .i64 0)).set_ 1 (.slice none 0 0)).set_ 2 (.slice none 0 0)
      have hbF := (((hbC).setCell (show w.heap.size ≤ (⟨w.heap.size, 0, none⟩ : Addr).block by simp) (.int .i64 0)).setCell (show w.heap.size ≤ (⟨w.heap.size, 1, none⟩ : Addr).block by simp) (.slice none 0 0)).setCell (show w.heap.size ≤ (⟨w.heap.size, 2, none⟩ : Addr).block by simp) (.slice none 0 0)
      go_wp2
      have cF0 := hrF.cell 0
      have cF1 := hrF.cell 1
      have cF2 := hrF.cell 2
      refine bodyPost_ret (v := .tuple #[.agg #[.int .i64 0, .slice none 0 0, .slice none 0 0], .int .i64 0, .int .i64 3]) (by simp [results, Try.results55, go_sem, *]) rfl ?_
      rw [HNo.out, HE.out]
      exact ⟨none, 0, 0, none, 0, 0, rfl, Rd.none_, fun h => absurd h (by decide), rfl, hbF⟩
end Go.Proofs.Ytnhnofiimidagaa
