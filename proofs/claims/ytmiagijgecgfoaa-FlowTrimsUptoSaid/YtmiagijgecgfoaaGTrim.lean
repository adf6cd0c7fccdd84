/-
  The walk of bailiwickref24.Trim.
-/
import Derived.Test.YtmiagijgecgfoaaGEach
namespace Go.Proofs.Ytmiagijgecgfoaa
open Go.RowKit

/-- a trimmed program, as the document has it -/
def RTrimOut (l : List Ins) (b : Nat → Bool) (n : Nat) (w : World) (e : Ending) (w' : World) : Prop :=
  ∃ A' c', e = .returned (.slice A' (trimK l b n).length c') ∧ w'.ownsRow w.heap.size 73 5 (.slice A' (trimK l b n).length c') (trimK l b n).length ((trimK l b n).flatMap Ins.ci) ∧ Below w.heap.size w w'

section
variable {l : List Ins} {A : Option Addr} {n c : Nat} {w : World}

set_option maxRecDepth 100000 in
set_option maxHeartbeats 8000000 in
theorem rTrim_any (hp : Prog l) (hr : Rd w w.heap.size 5 A n (l.flatMap Ins.ci)) {b : Nat → Bool} (hb : IsReached l b) :
    Calls Try.prog 32 #[.slice A n c] w (RTrimOut l b n w) := by
  obtain ⟨i0, hi, hz0, hz1, hz2⟩ := info_parts Try.infoRI
  have hln := hr.lenI
  have hle := hp.le
  have hn64 : n ≤ 64 := by omega
  have HRR := hide (rReached_any (c := c) hp hr hb)
  have HR := hide (fun (W : World) (hb : Below w.heap.size w W) => hr.to hb)
  have HP := hide hp
  clear hr hp hb hln hle
  go_enter Try.func32, Try.ntmps32
  go_wp2_with fail
  refine (unhide HRR).mono ?_
  rintro e w1 ⟨Ar, cr, rfl, hown, hb1⟩
  have hrr := Rd.of_own hown
  have HRW := hide (fun (W : World) (h : Below w1.heap.size w1 W) => hrr.below h)
  have HB1 := hide hb1
  have hs1 := hb1.size
  clear hown hrr hb1 HRR
  go_wp2
  go_loopw [4, 5] (fun v i wr => ∃ k : Nat, k ≤ n ∧ i = .int .i64 k ∧ wr.ownsRow w1.heap.size 73 5 v (trimK l b k).length ((trimK l b k).flatMap Ins.ci) ∧ Below w1.heap.size w1 wr) (fun _ i _ => n - (intOf i).toNat)
  case atStart => exact ⟨0, Nat.zero_le _, rfl, World.ownsRow_nil _ _ _ _, Below.refl _ _⟩
  case round =>
    obtain ⟨k, hk, rfl, hown, hbq⟩ := hrel
    by_cases hlt : k < n
    · obtain ⟨br, orr, rfl, _, hcs⟩ := (unhide HRW _ hbq).2 (by omega)
      have r0 := hcs k _ (rowV_get b (show k < n + 1 by omega))
      have k1 : (k : Int) < n := by omega
      have k2 : (k : Int) < (n : Int) + 1 := by omega
      have k3 : ((k : Int)).toNat = k := by omega
      have k4 : k < n + 1 := by omega
      cases hbk : b k
      · rw [hbk] at r0
        have hN := trimK_no (l := l) hbk
        rw [← hN] at hown
        have HOW := hide hown
        have HBQ := hide hbq
        clear hown hbq hcs hbk hN
        go_wp2
        go_roundw
        case rel => exact ⟨k + 1, by omega, by go_num, HOW.out, HBQ.out⟩
        case measure => simp [intOf]; omega
      · rw [hbk] at r0
        obtain ⟨b2, o2, x, rfl, hb2, hx, g0, g1, g2, g3, g4⟩ := (unhide HR _ (bt (unhide HB1) hbq)).insI hlt
        have hN := trimK_yes hx hbk
        obtain ⟨xo, ka, kb, kc, kn, rfl, _, _, _, hkn, _, hjn⟩ := HP.out.get hx
        go_upto_region 8 with fail
        refine nameW ?_
        intro W2 hW2
        have hbz : Below wr.heap.size wr W2 := by rw [hW2]; exact (Below.refl _ _).alloc (Nat.le_refl _) _
        have hx2 : Bx W2 wr.heap.size #[.int .i64 xo, .int .i64 ka, .int .i64 kb, .int .i64 kc, .int .i64 kn] := by rw [hW2]; exact Bx.new _ _ _ _ rfl
        have hown2 := own_below hown hbz (Nat.le_refl _)
        have hbq2 := hbq.trans (hbz.mono hbq.size)
        have hsz : w1.heap.size ≤ wr.heap.size := hbq.size
        have hne : u4.ownBlock ≠ some wr.heap.size := fun e => by have := (hown.lt _ e).2; omega
        clear hW2 hown hbz hcs r0 g0 g1 g2 g3 g4 hbq hbk
        have a0 : (_ : Option Value) = some (.int .i64 xo) := hx2.cell 0
        have a4 : (_ : Option Value) = some (.int .i64 kn) := hx2.cell 4
        by_cases hj : xo = 5 ∨ xo = 6
        · have hkl := hjn hj
          have hln := ((unhide HR) w (Below.refl _ _)).lenI
          have hT : trimX b ⟨xo, ka, kb, kc, kn⟩ = ⟨xo, ka, kb, kc, numB b kn⟩ := by unfold trimX; rw [if_pos (by simp only; omega)]; rfl
          rw [hT] at hN
          have HN := Lib.hid hN
          have hknn : kn < n := by omega
          clear hN hT hx hjn hkl hln
          rcases hj with rfl | rfl
          · skip
            obtain ⟨wo, rfl⟩ : ∃ x, x = wr := ⟨_, rfl⟩
            have HX2 := hide hx2
            have HO2 := hide hown2
            have HQ2 := hide hbq2
            clear hx2 hown2 hbq2
            go_wp2
            go_loopw [7, 8] (fun y j wr' => ∃ q : Nat, q ≤ kn ∧ j = .int .i64 q ∧ y = .int .i64 (numB b q) ∧ wr' = W2) (fun _ j _ => kn - (intOf j).toNat)
            case atStart => exact ⟨0, Nat.zero_le _, rfl, rfl, rfl⟩
            case round =>
              obtain ⟨q, hq, rfl, rfl, rfl⟩ := hrel
              have hnl := numB_le b q
              have a4 : (_ : Option Value) = some (.int .i64 kn) := (unhide HX2).cell 4
              by_cases hqt : q < kn
              · obtain ⟨br2, orr2, heq, _, hcs⟩ := (unhide HRW _ (unhide HQ2)).2 (by omega)
                have r0 := hcs q _ (rowV_get b (show q < n + 1 by omega))
                obtain ⟨rfl, rfl⟩ : br = br2 ∧ orr = orr2 := by
                  have := Option.some.inj heq
                  exact ⟨by injection this, by injection this⟩
                have q1 : (q : Int) < kn := by omega
                have q2 : (q : Int) < (n : Int) + 1 := by omega
                have q3 : ((q : Int)).toNat = q := by omega
                clear hcs heq
                cases hbq : b q
                · rw [hbq] at r0
                  have HM := Lib.hid (numB_no hbq)
                  clear hbq
                  go_wp2
                  go_roundw
                  case rel => exact ⟨q + 1, by omega, by go_num, by rw [HM.out], trivial⟩
                  case measure => simp [intOf]; omega
                · rw [hbq] at r0
                  have HM := Lib.hid (numB_yes hbq)
                  clear hbq
                  go_wp2
                  go_roundw
                  case rel => exact ⟨q + 1, by omega, by go_num, by rw [HM.out]; go_num, trivial⟩
                  case measure => simp [intOf]; omega
              · have qe : q = kn := by omega
                subst qe
                have hx2 := unhide HX2
                have f4 := hx2.frozen 4
                go_upto_region 16 with fail
                refine nameW ?_
                intro W5 hW5
                have hown2 := (unhide HO2).kept (setCell_grown wr wo.heap.size 4 (.int .i64 (numB b q))) (.inr hne)
                have hx6 := hx2.set_ 4 (.int .i64 (numB b q))
                have hbq2 := (unhide HQ2).setCell (p := ⟨wo.heap.size, 4, none⟩) hsz (.int .i64 (numB b q))
                rw [← hW5] at hown2 hx6 hbq2
                clear hW5 hx2 f4 a4 HX2 HO2 HQ2
                have hx2 := hx6
                clear hx6
                have b0 : (_ : Option Value) = some (.int .i64 (5:Int)) := hx2.cell 0
                have b1 : (_ : Option Value) = some (.int .i64 ka) := hx2.cell 1
                have b2 : (_ : Option Value) = some (.int .i64 kb) := hx2.cell 2
                have b3 : (_ : Option Value) = some (.int .i64 kc) := hx2.cell 3
                have b4 : (_ : Option Value) = some (.int .i64 (numB b q:Int)) := hx2.cell 4
                have hls := trimK_len l b k
                have hbs := hbq2.size
                clear hx2
                go_wp2_with (at_builtin; refine wpList_append_own _ rfl _ _ 32 rfl w1.heap.size 73 i0 _ 5 40 Try.underlying32 hi hz0 hz1 hz2 rfl (by decide) _ _ _ rfl (hown2.alloc _) ⟨W5.heap.size, 0, none⟩ 1 1 [.int .i64 (5:Int), .int .i64 ka, .int .i64 kb, .int .i64 kc, .int .i64 (numB b q:Int)] rfl rfl ?c1 ?c2 ?c3 ?c4 ?c5 ?_)
                case c1 => exact news_at _ _ _ _ rfl
                case c2 => intro u hu; simp at hu; rcases hu with rfl | rfl | rfl | rfl | rfl <;> rfl
                case c3 => unfold maxLen; omega
                case c4 => omega
                case c5 => simp; omega
                intro v' w3 hown' hgrow _
                have hb4 := grown1 hbq2 hown2 hbs hgrow
                have HB4 := hide hb4
                have HOW := hide hown'
                clear hown2 hown' hgrow hb4 hbq2 b0 b1 b2 b3 b4
                go_wp2
                go_roundw
                case rel =>
                  refine ⟨k + 1, by omega, by go_num, ?_, HB4.out⟩
                  rw [HN.out, List.flatMap_append, List.length_append]
                  simpa [Ins.ci] using HOW.out
                case measure => simp [intOf]; omega
          · skip
            obtain ⟨wo, rfl⟩ : ∃ x, x = wr := ⟨_, rfl⟩
            have HX2 := hide hx2
            have HO2 := hide hown2
            have HQ2 := hide hbq2
            clear hx2 hown2 hbq2
            go_wp2
            go_loopw [7, 8] (fun y j wr' => ∃ q : Nat, q ≤ kn ∧ j = .int .i64 q ∧ y = .int .i64 (numB b q) ∧ wr' = W2) (fun _ j _ => kn - (intOf j).toNat)
            case atStart => exact ⟨0, Nat.zero_le _, rfl, rfl, rfl⟩
            case round =>
              obtain ⟨q, hq, rfl, rfl, rfl⟩ := hrel
              have hnl := numB_le b q
              have a4 : (_ : Option Value) = some (.int .i64 kn) := (unhide HX2).cell 4
              by_cases hqt : q < kn
              · obtain ⟨br2, orr2, heq, _, hcs⟩ := (unhide HRW _ (unhide HQ2)).2 (by omega)
                have r0 := hcs q _ (rowV_get b (show q < n + 1 by omega))
                obtain ⟨rfl, rfl⟩ : br = br2 ∧ orr = orr2 := by
                  have := Option.some.inj heq
                  exact ⟨by injection this, by injection this⟩
                have q1 : (q : Int) < kn := by omega
                have q2 : (q : Int) < (n : Int) + 1 := by omega
                have q3 : ((q : Int)).toNat = q := by omega
                clear hcs heq
                cases hbq : b q
                · rw [hbq] at r0
                  have HM := Lib.hid (numB_no hbq)
                  clear hbq
                  go_wp2
                  go_roundw
                  case rel => exact ⟨q + 1, by omega, by go_num, by rw [HM.out], trivial⟩
                  case measure => simp [intOf]; omega
                · rw [hbq] at r0
                  have HM := Lib.hid (numB_yes hbq)
                  clear hbq
                  go_wp2
                  go_roundw
                  case rel => exact ⟨q + 1, by omega, by go_num, by rw [HM.out]; go_num, trivial⟩
                  case measure => simp [intOf]; omega
              · have qe : q = kn := by omega
                subst qe
                have hx2 := unhide HX2
                have f4 := hx2.frozen 4
                go_upto_region 16 with fail
                refine nameW ?_
                intro W5 hW5
                have hown2 := (unhide HO2).kept (setCell_grown wr wo.heap.size 4 (.int .i64 (numB b q))) (.inr hne)
                have hx6 := hx2.set_ 4 (.int .i64 (numB b q))
                have hbq2 := (unhide HQ2).setCell (p := ⟨wo.heap.size, 4, none⟩) hsz (.int .i64 (numB b q))
                rw [← hW5] at hown2 hx6 hbq2
                clear hW5 hx2 f4 a4 HX2 HO2 HQ2
                have hx2 := hx6
                clear hx6
                have b0 : (_ : Option Value) = some (.int .i64 (6:Int)) := hx2.cell 0
                have b1 : (_ : Option Value) = some (.int .i64 ka) := hx2.cell 1
                have b2 : (_ : Option Value) = some (.int .i64 kb) := hx2.cell 2
                have b3 : (_ : Option Value) = some (.int .i64 kc) := hx2.cell 3
                have b4 : (_ : Option Value) = some (.int .i64 (numB b q:Int)) := hx2.cell 4
                have hls := trimK_len l b k
                have hbs := hbq2.size
                clear hx2
                go_wp2_with (at_builtin; refine wpList_append_own _ rfl _ _ 32 rfl w1.heap.size 73 i0 _ 5 40 Try.underlying32 hi hz0 hz1 hz2 rfl (by decide) _ _ _ rfl (hown2.alloc _) ⟨W5.heap.size, 0, none⟩ 1 1 [.int .i64 (6:Int), .int .i64 ka, .int .i64 kb, .int .i64 kc, .int .i64 (numB b q:Int)] rfl rfl ?c1 ?c2 ?c3 ?c4 ?c5 ?_)
                case c1 => exact news_at _ _ _ _ rfl
                case c2 => intro u hu; simp at hu; rcases hu with rfl | rfl | rfl | rfl | rfl <;> rfl
                case c3 => unfold maxLen; omega
                case c4 => omega
                case c5 => simp; omega
                intro v' w3 hown' hgrow _
                have hb4 := grown1 hbq2 hown2 hbs hgrow
                have HB4 := hide hb4
                have HOW := hide hown'
                clear hown2 hown' hgrow hb4 hbq2 b0 b1 b2 b3 b4
                go_wp2
                go_roundw
                case rel =>
                  refine ⟨k + 1, by omega, by go_num, ?_, HB4.out⟩
                  rw [HN.out, List.flatMap_append, List.length_append]
                  simpa [Ins.ci] using HOW.out
                case measure => simp [intOf]; omega
        · have hT : trimX b ⟨xo, ka, kb, kc, kn⟩ = ⟨xo, ka, kb, kc, kn⟩ := by unfold trimX; rw [if_neg (by simp only; omega)]
          rw [hT] at hN
          have e5 : ((xo : Int) == 5) = false := by simpa using (fun h => hj (.inl (by omega)) : ¬ (xo : Int) = 5)
          have e6 : ((xo : Int) == 6) = false := by simpa using (fun h => hj (.inr (by omega)) : ¬ (xo : Int) = 6)
          have HN := Lib.hid hN
          clear hN hT hj hx hjn
          go_upto_region 16 with fail
          clear a0 a4
          have b0 : (_ : Option Value) = some (.int .i64 (xo:Int)) := hx2.cell 0
          have b1 : (_ : Option Value) = some (.int .i64 ka) := hx2.cell 1
          have b2 : (_ : Option Value) = some (.int .i64 kb) := hx2.cell 2
          have b3 : (_ : Option Value) = some (.int .i64 kc) := hx2.cell 3
          have b4 : (_ : Option Value) = some (.int .i64 (kn:Int)) := hx2.cell 4
          have hls := trimK_len l b k
          have hbs := hbq2.size
          clear hx2
          go_wp2_with (at_builtin; refine wpList_append_own _ rfl _ _ 32 rfl w1.heap.size 73 i0 _ 5 40 Try.underlying32 hi hz0 hz1 hz2 rfl (by decide) _ _ _ rfl (hown2.alloc _) ⟨W2.heap.size, 0, none⟩ 1 1 [.int .i64 (xo:Int), .int .i64 ka, .int .i64 kb, .int .i64 kc, .int .i64 (kn:Int)] rfl rfl ?c1 ?c2 ?c3 ?c4 ?c5 ?_)
          case c1 => exact news_at _ _ _ _ rfl
          case c2 => intro u hu; simp at hu; rcases hu with rfl | rfl | rfl | rfl | rfl <;> rfl
          case c3 => unfold maxLen; omega
          case c4 => omega
          case c5 => simp; omega
          intro v' w3 hown' hgrow _
          have hb4 := grown1 hbq2 hown2 hbs hgrow
          have HB4 := hide hb4
          have HOW := hide hown'
          clear hown2 hown' hgrow hb4 hbq2 b0 b1 b2 b3 b4
          go_wp2
          go_roundw
          case rel =>
            refine ⟨k + 1, by omega, by go_num, ?_, HB4.out⟩
            rw [HN.out, List.flatMap_append, List.length_append]
            simpa [Ins.ci] using HOW.out
          case measure => simp [intOf]; omega
    · have kz : ¬ (k : Int) < n := by omega
      obtain rfl : k = n := by omega
      obtain ⟨A', c', hsl⟩ := own_shape hown
      subst hsl
      have HOW := hide (own_mono hown hs1)
      have HB := hide (bt (unhide HB1) hbq)
      clear hown hbq
      go_wp2
      go_ret
      exact ⟨A', c', rfl, HOW.out, HB.out⟩
end
end Go.Proofs.Ytmiagijgecgfoaa
