/-
  script.Decode's walk once more: its picks lie in a row of the call's own. (The text of ScrDec, turned by program.)
-/
import Derived.Test.YtnhnofiimidagaaScrDec
namespace Go.Proofs.Ytnhnofiimidagaa
open Go.RowKit

set_option maxRecDepth 100000 in
set_option maxHeartbeats 8000000 in
theorem scrDecO_any (l : List UInt8) (w : World) (hl : l.length ≤ 1000000) :
    Calls Try.prog 27 #[.string (S l)] w
      fun e w' => ∃ A n c A2 m c2, e = .returned (.tuple #[scrV (scD l).1 A n c A2 m c2, .int .i64 (scDE l)]) ∧
        Rd w' w'.heap.size 1 A n ((scD l).2.1.map strV) ∧ Rd w' w'.heap.size 1 A2 m ((scD l).2.2.map byteV) ∧ (scDE l = 0 → OwnB w' w.heap.size 5 (.slice A2 m c2) m ((scD l).2.2.map byteV) ∧ w'.ownsRow w.heap.size 9 1 (.slice A n c) n ((scD l).2.1.map strV)) ∧ Below w.heap.size w w' := by
  obtain ⟨i0, hi, hz0, hz1, hz2⟩ := info_parts Try.infoString
  have hmf : ∀ (fn : Fn) (first cap : Array Value) (w : World), (Instr.makeFunc fn first cap).run Try.prog w = .ok (.func fn first cap) w := fun _ _ _ _ => rfl
  go_enter Try.func27, Try.ntmps27
  go_wp2_with fail
  go_step3
  go_wp2_with fail
  refine (number_cut l w.heap.size (w.heap.size + 1 + 1) _ (((Bx.new _ _ _ _ rfl).alloc _).alloc _) (Bx.new _ _ _ _ (by simp))).mono ?_
  rintro e w1 ⟨rfl, hc1⟩
  have hs1 : w1.heap.size = w.heap.size + 3 := by rw [hc1.size]; simp
  have hb1 : Below w.heap.size w w1 := ((((Below.refl w.heap.size w).alloc (Nat.le_refl _) _).alloc (by simp) _).alloc (by simp; omega) _).trans (hc1.below _ (Nat.le_refl _))
  have hr1 := hc1.keep (w.heap.size + 1) _ (by omega) ((Bx.new _ _ _ _ (by simp)).alloc _)
  have ht1 := hc1.keep (w.heap.size + 1 + 1) _ (by omega) (Bx.new _ _ _ _ (by simp))
  have hx1 := hc1.bx
  clear hc1
  go_wp2_with fail
  refine (number_cut (l.drop 1) w.heap.size (w.heap.size + 1 + 1) _ (hx1.alloc _) (ht1.alloc _)).mono ?_
  rintro e w2 ⟨rfl, hc2⟩
  obtain ⟨pr, hpr⟩ : ∃ pr, numOf (l.drop 1) = pr := ⟨_, rfl⟩
  obtain ⟨pg, hpg⟩ : ∃ pg, numOf l = pg := ⟨_, rfl⟩
  have hple := numOf_le (l.drop 1)
  rw [hpr] at hple ⊢
  rw [hpg] at hc2
  have hs2 : w2.heap.size = w.heap.size + 4 := by rw [hc2.size]; simp; omega
  have hb2 : Below w.heap.size w w2 := (hb1.alloc (by omega) _).trans (hc2.below _ (Nat.le_refl _))
  have hr2 := hc2.keep _ _ (by omega) (hr1.alloc _)
  have ht2 := hc2.keep _ _ (by omega) (ht1.alloc _)
  have hsx2 := hc2.keep (w.heap.size + 3) _ (by omega) (Bx.new _ _ _ _ hs1.symm)
  have hx2 := hc2.bx
  rw [List.drop_drop] at hx2
  clear hc2 hb1 hr1 ht1 hx1


  have HPR := Lib.hid hpr
  have HPG := Lib.hid hpg
  clear hpr hpg
  go_wp2_with fail
  obtain ⟨M, hMn⟩ : ∃ M : Nat, (min pr 9).toNat = M := ⟨_, rfl⟩
  have HR : Hid (rounds l = M) := by
    show rounds l = M
    rw [rounds, HPR.out, hMn]
  have hM : max 0 (min pr 9) = (M : Int) := by omega
  have hM9 : M ≤ 9 := by omega
  clear hMn
  go_step3
  go_wp2_with fail
  clear hM
  go_loopw [20, 7] (fun i p wr => ∃ (k : Nat) (v : Value) (r : List UInt8) (ps : List (List UInt8)), k ≤ M ∧ i = .int .i64 k ∧ p = .int .i64 pr ∧ Bx wr w.heap.size #[.string (S r)] ∧ Bx wr (w.heap.size + 1) #[.int .i64 0, .slice none 0 0, .slice none 0 0] ∧
      Bx wr (w.heap.size + 1 + 1) #[.func (.func 50) #[] #[.pointer (some ⟨w.heap.size, 0, none⟩)]] ∧ Bx wr (w.heap.size + 3) #[.int .i64 pg, v, .slice none 0 0] ∧ wr.ownsRow (w.heap.size + 4) 9 1 v k (ps.map strV) ∧ Below w.heap.size w wr ∧
      Hid (takeP M (l.drop 2) = (takeP (M - k) r).map fun q => (ps ++ q.1, q.2)) ∧ Hid (∀ x ∈ ps, x.length ≤ 1000000) ∧ r.length ≤ 1000000 ∧ w.heap.size + 4 ≤ wr.heap.size) (fun i _ _ => M - (intOf i).toNat)
  case atStart =>
    refine ⟨0, .slice none 0 0, l.drop 2, [], Nat.zero_le _, rfl, rfl, hx2, hr2, ht2, hsx2, ⟨rfl, .inl ⟨rfl, rfl⟩⟩, hb2, ?_, noneLong, by rw [List.length_drop]; omega, by omega⟩
    show takeP M (l.drop 2) = _
    cases takeP (M - 0) (l.drop 2) <;> simp
  case round =>
    obtain ⟨k, v, r, ps, hk, rfl, rfl, hx, hr, ht, hsx, hown, hb, HT, HL, hrl, hsz⟩ := hrel
    obtain ⟨A, c, rfl⟩ := own_shape hown
    clear hx2 hr2 ht2 hsx2 hb2 hs2
    by_cases hlt : k < M
    · cases r with
      | nil =>
        have HN : Hid (takeP M (l.drop 2) = none) := by
          show takeP M (l.drop 2) = none
          rw [HT.out, show M - k = (M - k - 1) + 1 from by omega]
          rfl
        go_wp2_with fail
        refine (number_cut [] w.heap.size (w.heap.size + 1 + 1) _ hx ht).mono ?_
        rintro e w3 ⟨rfl, hc3⟩
        have hr3 := hc3.keep _ _ (by omega) hr
        have ht3 := hc3.keep _ _ (by omega) ht
        have hsx3 := hc3.keep _ _ (by omega) hsx
        have hb3 := hb.trans (hc3.below _ (Nat.le_refl _))
        have hx3 := hc3.bx
        have ct3 := ht3.cell 0
        rw [show numOf [] = -1 from rfl]
        clear hc3 hx hr ht hsx hown hb
        go_wp2_with fail
        rw [show max 0 (-1) * 6 = (0 : Int) from rfl]
        refine (take_cut [] 0 w.heap.size w3 (Int.le_refl 0) hx3).mono ?_
        rintro e w4 ⟨rfl, hc4⟩
        have hr4 := hc4.keep _ _ (by omega) hr3
        have hsx4 := hc4.keep _ _ (by omega) hsx3
        have hb4 := hb3.trans (hc4.below _ (Nat.le_refl _))
        have hx4 := hc4.bx
        rw [show ([] : List UInt8).take (0 : Int).toNat = [] from rfl]
        rw [show ([] : List UInt8).drop (0 : Int).toNat = [] from rfl] at hx4
        clear hc4 hr3 ht3 hsx3 hb3 hx3 hsz
        obtain ⟨c5, w5, hcv, hb5, _, hown5⟩ := run_bytes (P := Try.prog) w4 ([]) 9 47 5 Try.underlying9 Try.underlying47 Try.underlying5 (by simp)
        have hr5 := hr4.to hb5
        have hsx5 := hsx4.to hb5
        have cx4 := hx4.cell 0
        have cs5 := hsx5.cell 2
        have fs5 := hsx5.frozen 2
        have cr0 := hr5.cell 0
        have fr0 := hr5.frozen 0
        have cr1 := hr5.cell 1
        have fr1 := hr5.frozen 1
        have cr2 := hr5.cell 2
        have fr2 := hr5.frozen 2
        have HNo := Lib.hid (scr_no (scO_no2 (by rw [HR.out]; exact HN.out)))
        have hrF := (((hr5.far (p := ⟨w.heap.size + 3, 2, none⟩) (by simp) (.slice (some ⟨w4.heap.size, 0, none⟩) 0 c5)).set_ 0 (.int .i64 0)).set_ 1 (.slice none 0 0)).set_ 2 (.slice none 0 0)
        have hbF := ((((bt hb4 hb5).setCell (show w.heap.size ≤ (⟨w.heap.size + 3, 2, none⟩ : Addr).block by simp) (.slice (some ⟨w4.heap.size, 0, none⟩) 0 c5)).setCell (show w.heap.size ≤ (⟨w.heap.size + 1, 0, none⟩ : Addr).block by simp) (.int .i64 0)).setCell (show w.heap.size ≤ (⟨w.heap.size + 1, 1, none⟩ : Addr).block by simp) (.slice none 0 0)).setCell (show w.heap.size ≤ (⟨w.heap.size + 1, 2, none⟩ : Addr).block by simp) (.slice none 0 0)
        clear hr4 hsx4 hb4 hx4 hb5 hown5 hr5 hsx5
        go_wp2
        rw [Exit.noGoto_ret]
        have cF0 := hrF.cell 0
        have cF1 := hrF.cell 1
        have cF2 := hrF.cell 2
        refine bodyPost_ret (v := .tuple #[.agg #[.int .i64 0, .slice none 0 0, .slice none 0 0], .int .i64 3]) (by simp [results, Try.results27, go_sem, *]) rfl ?_
        rw [HNo.out.1, HNo.out.2]
        exact ⟨none, 0, 0, none, 0, 0, rfl, Rd.none_, Rd.none_, fun h => absurd h (by decide), hbF⟩
      | cons b r =>
        obtain ⟨q, hq⟩ : ∃ q : Nat, b.toNat = q := ⟨_, rfl⟩
        have hq255 : q ≤ 255 := by have := b.toNat_lt; omega
        have hn1 : numOf (b :: r) = (q : Int) := by simp only [numOf, hq]
        have HN1 := Lib.hid hn1
        obtain ⟨p, hp⟩ : ∃ p, r.take (q * 6) = p := ⟨_, rfl⟩
        have HQ := Lib.hid hq
        have HP := Lib.hid hp
        have hmx : max 0 (q : Int) = q := by omega
        have hpl : p.length = min (q * 6) r.length := by rw [← hp, List.length_take]
        have hrl2 : r.length ≤ 1000000 := by simp at hrl; omega
        have e1 : ((q : Int) * 6).toNat = q * 6 := by omega
        have E1 := Lib.hid e1
        clear hn1 hq hp e1 hrl
        by_cases hsh : r.length < q * 6
        · have hpq : p.length < q * 6 := by omega
          have HN : Hid (takeP M (l.drop 2) = none) := by
            show takeP M (l.drop 2) = none
            rw [HT.out, show M - k = (M - k - 1) + 1 from by omega]
            simp only [takeP, HQ.out, if_pos hsh]
            rfl
          go_wp2_with fail
          refine (number_cut (b :: r) w.heap.size (w.heap.size + 1 + 1) _ hx ht).mono ?_
          rintro e w3 ⟨rfl, hc3⟩
          have hr3 := hc3.keep _ _ (by omega) hr
          have ht3 := hc3.keep _ _ (by omega) ht
          have hsx3 := hc3.keep _ _ (by omega) hsx
          have hb3 := hb.trans (hc3.below _ (Nat.le_refl _))
          have hx3 : Bx w3 w.heap.size #[.string (S r)] := hc3.bx
          have ct3 := ht3.cell 0
          rw [HN1.out]
          clear hc3 hx hr ht hsx hown hb
          go_wp2_with fail
          refine (take_cut r ((q : Int) * 6) w.heap.size w3 (by omega) hx3).mono ?_
          rintro e w4 ⟨rfl, hc4⟩
          have hr4 := hc4.keep _ _ (by omega) hr3
          have hsx4 := hc4.keep _ _ (by omega) hsx3
          have hb4 := hb3.trans (hc4.below _ (Nat.le_refl _))
          have hx4 := hc4.bx
          rw [E1.out] at hx4 ⊢
          rw [HP.out]
          have hdl : (r.drop (q * 6)).length ≤ 1000000 := by rw [List.length_drop]; omega
          clear hc4 hr3 ht3 hsx3 hb3 hx3 hsz
          generalize r.drop (q * 6) = r2 at *
          obtain ⟨c5, w5, hcv, hb5, _, hown5⟩ := run_bytes (P := Try.prog) w4 (r2) 9 47 5 Try.underlying9 Try.underlying47 Try.underlying5 (by omega)
          have hr5 := hr4.to hb5
          have hsx5 := hsx4.to hb5
          have cx4 := hx4.cell 0
          have cs5 := hsx5.cell 2
          have fs5 := hsx5.frozen 2
          have cr0 := hr5.cell 0
          have fr0 := hr5.frozen 0
          have cr1 := hr5.cell 1
          have fr1 := hr5.frozen 1
          have cr2 := hr5.cell 2
          have fr2 := hr5.frozen 2
          have HNo := Lib.hid (scr_no (scO_no2 (by rw [HR.out]; exact HN.out)))
          have hrF := (((hr5.far (p := ⟨w.heap.size + 3, 2, none⟩) (by simp) (.slice (some ⟨w4.heap.size, 0, none⟩) r2.length c5)).set_ 0 (.int .i64 0)).set_ 1 (.slice none 0 0)).set_ 2 (.slice none 0 0)
          have hbF := ((((bt hb4 hb5).setCell (show w.heap.size ≤ (⟨w.heap.size + 3, 2, none⟩ : Addr).block by simp) (.slice (some ⟨w4.heap.size, 0, none⟩) r2.length c5)).setCell (show w.heap.size ≤ (⟨w.heap.size + 1, 0, none⟩ : Addr).block by simp) (.int .i64 0)).setCell (show w.heap.size ≤ (⟨w.heap.size + 1, 1, none⟩ : Addr).block by simp) (.slice none 0 0)).setCell (show w.heap.size ≤ (⟨w.heap.size + 1, 2, none⟩ : Addr).block by simp) (.slice none 0 0)
          clear hr4 hsx4 hb4 hx4 hb5 hown5 hr5 hsx5
          go_wp2
          rw [Exit.noGoto_ret]
          have cF0 := hrF.cell 0
          have cF1 := hrF.cell 1
          have cF2 := hrF.cell 2
          refine bodyPost_ret (v := .tuple #[.agg #[.int .i64 0, .slice none 0 0, .slice none 0 0], .int .i64 3]) (by simp [results, Try.results27, go_sem, *]) rfl ?_
          rw [HNo.out.1, HNo.out.2]
          exact ⟨none, 0, 0, none, 0, 0, rfl, Rd.none_, Rd.none_, fun h => absurd h (by decide), hbF⟩
        · have hpq : p.length = q * 6 := by omega
          have HT2 : Hid (takeP M (l.drop 2) = (takeP (M - (k + 1)) (r.drop (q * 6))).map fun x => ((ps ++ [p]) ++ x.1, x.2)) := by
            show takeP M (l.drop 2) = _
            rw [HT.out, show M - k = (M - (k + 1)) + 1 from by omega]
            simp only [takeP, HQ.out, if_neg hsh, HP.out]
            cases takeP (M - (k + 1)) (r.drop (q * 6)) <;> simp
          go_wp2_with fail
          refine (number_cut (b :: r) w.heap.size (w.heap.size + 1 + 1) _ hx ht).mono ?_
          rintro e w3 ⟨rfl, hc3⟩
          have hr3 := hc3.keep _ _ (by omega) hr
          have ht3 := hc3.keep _ _ (by omega) ht
          have hsx3 := hc3.keep _ _ (by omega) hsx
          have hb3 := hb.trans (hc3.below _ (Nat.le_refl _))
          have hx3 : Bx w3 w.heap.size #[.string (S r)] := hc3.bx
          have ct3 := ht3.cell 0
          rw [HN1.out]
          have hown3 := hc3.own _ _ _ _ _ _ (by omega) hown
          have hs3 := hc3.size
          clear hc3 hx hr ht hsx hown hb
          go_wp2_with fail
          refine (take_cut r ((q : Int) * 6) w.heap.size w3 (by omega) hx3).mono ?_
          rintro e w4 ⟨rfl, hc4⟩
          have hr4 := hc4.keep _ _ (by omega) hr3
          have hsx4 := hc4.keep _ _ (by omega) hsx3
          have hb4 := hb3.trans (hc4.below _ (Nat.le_refl _))
          have hx4 := hc4.bx
          rw [E1.out] at hx4 ⊢
          rw [HP.out]
          have hown4 := hc4.own _ _ _ _ _ _ (by omega) hown3
          have ht4 := hc4.keep _ _ (by omega) ht3
          have hdl : (r.drop (q * 6)).length ≤ 1000000 := by rw [List.length_drop]; omega
          have hsz4 : w.heap.size + 4 ≤ w4.heap.size := by rw [hc4.size]; omega
          clear hc4 hr3 ht3 hsx3 hb3 hx3 hsz hs3 hown3
          have cs4 := hsx4.cell 1
          have hne : ∀ g, g < w.heap.size + 4 → some g ≠ (Value.slice A k c).ownBlock := fun g hg he => by
            have := (hown4.lt _ he.symm).1
            omega
          have HNE := hide hne
          clear hne
          go_wp2_with (at_builtin; refine wpList_append_own _ rfl (.tmp 39) (.tmp 41) 42 rfl (w.heap.size + 4) 9 i0 _ 1 16 Try.underlying42 hi hz0 hz1 hz2 rfl (by decide) _ _ _ rfl (hown4.alloc _) ⟨w4.heap.size, 0, none⟩ 1 1 [.string (S p)] rfl rfl ?c1 ?c2 ?c3 ?c4 ?c5 ?_)
          case c1 => exact news_at _ _ _ _ (by simp)
          case c2 => intro u hu; simp at hu; subst hu; rfl
          case c3 => unfold maxLen; omega
          case c4 => omega
          case c5 => simp; omega
          intro v' w5 hown5 hgrow _
          obtain ⟨A5, c5, rfl⟩ := own_shape hown5
          have hb5 := grown1 (B := w.heap.size) hb4 (own_mono hown4 (by omega)) (by omega) hgrow
          have hx5 := (hx4.alloc _).grown hgrow (unhide HNE _ (by omega))
          have hr5 := (hr4.alloc _).grown hgrow (unhide HNE _ (by omega))
          have ht5 := (ht4.alloc _).grown hgrow (unhide HNE _ (by omega))
          have hsx5 := (hsx4.alloc _).grown hgrow (unhide HNE _ (by omega))
          have hs5 : w.heap.size + 4 ≤ w5.heap.size := by have := hgrow.size; simp at this; omega
          have cs5 := hsx5.cell 1
          have fs5 := hsx5.frozen 1
          go_wp2_with fail
          go_roundw
          case rel =>
            refine ⟨k + 1, _, r.drop (q * 6), ps ++ [p], by omega, by go_num, rfl, hx5.far (by simp) _, hr5.far (by simp) _, ht5.far (by simp) _, hsx5.set_ 1 _, ?_, hb5.setCell (by simp) _, HT2, moreLong HL (by omega), hdl, by simp; omega⟩
            rw [List.map_append]
            exact ownsRow_setCell_below hown5 (by simp) _
          case measure => simp [intOf]; omega
    · obtain rfl : k = M := by omega
      have hr4 := hr
      have hsx4 := hsx
      have hb4 := hb
      have hx4 := hx
      by_cases hneg : pr < 0
      · clear hr hsx hb hx ht hown hsz
        obtain ⟨c5, w5, hcv, hb5, _, hown5⟩ := run_bytes (P := Try.prog) wr (r) 9 47 5 Try.underlying9 Try.underlying47 Try.underlying5 (by omega)
        have hr5 := hr4.to hb5
        have hsx5 := hsx4.to hb5
        have cx4 := hx4.cell 0
        have cs5 := hsx5.cell 2
        have fs5 := hsx5.frozen 2
        have cr0 := hr5.cell 0
        have fr0 := hr5.frozen 0
        have cr1 := hr5.cell 1
        have fr1 := hr5.frozen 1
        have cr2 := hr5.cell 2
        have fr2 := hr5.frozen 2
        have HNo := Lib.hid (scr_no (scO_no1 (by rw [HPR.out]; exact hneg)))
        have hrF := (((hr5.far (p := ⟨w.heap.size + 3, 2, none⟩) (by simp) (.slice (some ⟨wr.heap.size, 0, none⟩) r.length c5)).set_ 0 (.int .i64 0)).set_ 1 (.slice none 0 0)).set_ 2 (.slice none 0 0)
        have hbF := ((((bt hb4 hb5).setCell (show w.heap.size ≤ (⟨w.heap.size + 3, 2, none⟩ : Addr).block by simp) (.slice (some ⟨wr.heap.size, 0, none⟩) r.length c5)).setCell (show w.heap.size ≤ (⟨w.heap.size + 1, 0, none⟩ : Addr).block by simp) (.int .i64 0)).setCell (show w.heap.size ≤ (⟨w.heap.size + 1, 1, none⟩ : Addr).block by simp) (.slice none 0 0)).setCell (show w.heap.size ≤ (⟨w.heap.size + 1, 2, none⟩ : Addr).block by simp) (.slice none 0 0)
        clear hr4 hsx4 hb4 hx4 hb5 hown5 hr5 hsx5
        go_wp2
        rw [Exit.noGoto_ret]
        have cF0 := hrF.cell 0
        have cF1 := hrF.cell 1
        have cF2 := hrF.cell 2
        refine bodyPost_ret (v := .tuple #[.agg #[.int .i64 0, .slice none 0 0, .slice none 0 0], .int .i64 3]) (by simp [results, Try.results27, go_sem, *]) rfl ?_
        rw [HNo.out.1, HNo.out.2]
        exact ⟨none, 0, 0, none, 0, 0, rfl, Rd.none_, Rd.none_, fun h => absurd h (by decide), hbF⟩
      · have HT2 : Hid (takeP k (l.drop 2) = some (ps, r)) := by
          show takeP k (l.drop 2) = _
          rw [HT.out, Nat.sub_self]
          simp [takeP]
        have hpr0 : 0 ≤ pr := by omega
        obtain ⟨c5, w5, hcv, hb5, _, hown5⟩ := run_bytes (P := Try.prog) wr (r) 9 47 5 Try.underlying9 Try.underlying47 Try.underlying5 (by omega)
        have hr5 := hr4.to hb5
        have hsx5 := hsx4.to hb5
        have cx4 := hx4.cell 0
        have cs5 := hsx5.cell 2
        have fs5 := hsx5.frozen 2
        have cr0 := hr5.cell 0
        have fr0 := hr5.frozen 0
        have cr1 := hr5.cell 1
        have fr1 := hr5.frozen 1
        have cr2 := hr5.cell 2
        have fr2 := hr5.frozen 2
        have hown6 := ownsRow_setCell_below (own_below hown hb5 (Nat.le_refl _)) (a := ⟨w.heap.size + 3, 2, none⟩) (by simp) (.slice (some ⟨wr.heap.size, 0, none⟩) r.length c5)
        have hpk6 := hown5.setCell (p := ⟨w.heap.size + 3, 2, none⟩) (by simp [Value.ownBlock]; omega) (.slice (some ⟨wr.heap.size, 0, none⟩) r.length c5)
        have hr6 := hr5.far (p := ⟨w.heap.size + 3, 2, none⟩) (by simp) (.slice (some ⟨wr.heap.size, 0, none⟩) r.length c5)
        have hsx6 := hsx5.set_ 2 (.slice (some ⟨wr.heap.size, 0, none⟩) r.length c5)
        have hb6 := (bt hb4 hb5).setCell (show w.heap.size ≤ (⟨w.heap.size + 3, 2, none⟩ : Addr).block by simp) (.slice (some ⟨wr.heap.size, 0, none⟩) r.length c5)
        have c60 := hsx6.cell 0
        have c61 := hsx6.cell 1
        have c62 := hsx6.cell 2
        clear hr4 hsx4 hb4 hx4 hb5 hown5 hr5 hsx5 hr hsx hb hx ht hown cr0 cr1 cr2 fr0 fr1 fr2
        have hrA := Rd.of_own hown6
        have hrB := hpk6.rd
        go_wp2_with fail
        refine (scrMay_any pg ps r A (some ⟨wr.heap.size, 0, none⟩) k c r.length c5 _ hrA hrB HL.out (by omega) (by omega)).mono ?_
        rintro e w7 ⟨rfl, hb7⟩
        have hr7 := hr6.to hb7
        have hsx7 := hsx6.to hb7
        have hown7 := own_below hown6 hb7 (Nat.le_refl _)
        have hpk7 := hpk6.below hb7 (Nat.le_refl _)
        have hb77 := bt hb6 hb7
        have cr0 := hr7.cell 0
        have fr0 := hr7.frozen 0
        have cr1 := hr7.cell 1
        have fr1 := hr7.frozen 1
        have cr2 := hr7.cell 2
        have fr2 := hr7.frozen 2
        have c70 := hsx7.cell 0
        have c71 := hsx7.cell 1
        have c72 := hsx7.cell 2
        clear c60 c61 c62 hrA hrB hr6 hsx6 hown6 hpk6 hb6 hb7 cs5 fs5 hsx7 hmf
        by_cases hm : mayS pg ps r = true
        · have hy := scr_yes (scO_yes (by rw [HPR.out]; exact hpr0) (by rw [HR.out]; exact HT2.out) (by rw [HPG.out]; exact hm))
          rw [HPG.out] at hy
          have HY := Lib.hid hy
          have HM := Lib.hid hm
          clear hy hm
          have hrF := ((hr7.set_ 0 (.int .i64 pg)).set_ 1 (.slice A k c)).set_ 2 (.slice (some ⟨wr.heap.size, 0, none⟩) r.length c5)
          have hownF := ownsRow_setCell_below (ownsRow_setCell_below (ownsRow_setCell_below hown7 (show (⟨w.heap.size + 1, 0, none⟩ : Addr).block < w.heap.size + 4 by simp) (.int .i64 pg)) (show (⟨w.heap.size + 1, 1, none⟩ : Addr).block < w.heap.size + 4 by simp) (.slice A k c)) (show (⟨w.heap.size + 1, 2, none⟩ : Addr).block < w.heap.size + 4 by simp) (.slice (some ⟨wr.heap.size, 0, none⟩) r.length c5)
          have hpkF := ((hpk7.setCell (p := (⟨w.heap.size + 1, 0, none⟩ : Addr)) (by simp [Value.ownBlock]; omega) (.int .i64 pg)).setCell (p := (⟨w.heap.size + 1, 1, none⟩ : Addr)) (by simp [Value.ownBlock]; omega) (.slice A k c)).setCell (p := (⟨w.heap.size + 1, 2, none⟩ : Addr)) (by simp [Value.ownBlock]; omega) (.slice (some ⟨wr.heap.size, 0, none⟩) r.length c5)
          have hbF := ((hb77.setCell (show w.heap.size ≤ (⟨w.heap.size + 1, 0, none⟩ : Addr).block by simp) (.int .i64 pg)).setCell (show w.heap.size ≤ (⟨w.heap.size + 1, 1, none⟩ : Addr).block by simp) (.slice A k c)).setCell (show w.heap.size ≤ (⟨w.heap.size + 1, 2, none⟩ : Addr).block by simp) (.slice (some ⟨wr.heap.size, 0, none⟩) r.length c5)
          clear hr7 hown7 hpk7 hb77
          rw [HM.out]
          go_wp2
          rw [Exit.noGoto_ret]
          have cF0 := hrF.cell 0
          have cF1 := hrF.cell 1
          have cF2 := hrF.cell 2
          refine bodyPost_ret (v := .tuple #[.agg #[.int .i64 pg, .slice A k c, (.slice (some ⟨wr.heap.size, 0, none⟩) r.length c5)], .int .i64 0]) (by simp [results, Try.results27, go_sem, *]) rfl ?_
          rw [HY.out.1, HY.out.2]
          exact ⟨_, _, _, _, _, _, rfl, Rd.of_own hownF, hpkF.rd, fun _ => ⟨hpkF.mono (by omega), own_mono hownF (by omega)⟩, hbF⟩
        · have hm' : mayS pg ps r = false := by simpa using hm
          have HNo := Lib.hid (scr_no (scO_no3 (by rw [HR.out]; exact HT2.out) (by rw [HPG.out]; exact hm')))
          have HM := Lib.hid hm'
          clear hm hm' hown7 hpk7
          have hrF := ((hr7.set_ 0 (.int .i64 0)).set_ 1 (.slice none 0 0)).set_ 2 (.slice none 0 0)
          have hbF := ((hb77.setCell (show w.heap.size ≤ (⟨w.heap.size + 1, 0, none⟩ : Addr).block by simp) (.int .i64 0)).setCell (show w.heap.size ≤ (⟨w.heap.size + 1, 1, none⟩ : Addr).block by simp) (.slice none 0 0)).setCell (show w.heap.size ≤ (⟨w.heap.size + 1, 2, none⟩ : Addr).block by simp) (.slice none 0 0)
          clear hr7 hb77
          rw [HM.out]
          go_wp2
          rw [Exit.noGoto_ret]
          have cF0 := hrF.cell 0
          have cF1 := hrF.cell 1
          have cF2 := hrF.cell 2
          refine bodyPost_ret (v := .tuple #[.agg #[.int .i64 0, .slice none 0 0, .slice none 0 0], .int .i64 3]) (by simp [results, Try.results27, go_sem, *]) rfl ?_
          rw [HNo.out.1, HNo.out.2]
          exact ⟨none, 0, 0, none, 0, 0, rfl, Rd.none_, Rd.none_, fun h => absurd h (by decide), hbF⟩
end Go.Proofs.Ytnhnofiimidagaa
