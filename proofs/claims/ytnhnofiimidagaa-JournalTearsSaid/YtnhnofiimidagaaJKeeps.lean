/-
  The walk of the law JournalKeeps.
-/
import Derived.Test.YtnhnofiimidagaaJMade
import Derived.StillTailTactics
namespace Go.Proofs.Ytnhnofiimidagaa
open Go.RowKit

theorem endAt_mono (pg : Int) (ps : List (List UInt8)) (rs : List (List UInt8)) : ∀ d k, k + d ≤ rs.length → endAt pg ps rs k ≤ endAt pg ps rs (k + d)
  | 0, _, _ => Nat.le_refl _
  | d + 1, k, h => by
    have h1 := endAt_mono pg ps rs d k (by omega)
    have hp : rs[k + d]? = some rs[k + d] := List.getElem?_eq_getElem (by omega)
    have h2 := endAt_succ (pg := pg) (ps := ps) hp
    rw [show k + (d + 1) = k + d + 1 by omega]
    omega
/-- the last record that lies whole ahead of n -/
theorem last_end (pg : Int) (ps : List (List UInt8)) (rs : List (List UInt8)) (n : Nat) (h0 : endAt pg ps rs 0 ≤ n) : ∀ m, m ≤ rs.length → ∃ k, k ≤ m ∧ endAt pg ps rs k ≤ n ∧ (k = m ∨ n < endAt pg ps rs (k + 1))
  | 0, _ => ⟨0, Nat.le_refl _, h0, .inl rfl⟩
  | m + 1, hm => by
    obtain ⟨k, hk, h1, h2⟩ := last_end pg ps rs n h0 m (by omega)
    rcases h2 with rfl | h2
    · by_cases h : endAt pg ps rs (k + 1) ≤ n
      · exact ⟨k + 1, Nat.le_refl _, h, .inl rfl⟩
      · exact ⟨k, by omega, h1, .inr (by omega)⟩
    · exact ⟨k, by omega, h1, .inr h2⟩
theorem endsL_get {pg : Int} {ps : List (List UInt8)} {rs : List (List UInt8)} {k : Nat} (h : k ≤ rs.length) : (natsV (endsL pg ps rs))[k]? = some (.int .i64 (endAt pg ps rs k : Int)) := by
  simp [natsV, endsL, List.getElem?_range (show k < rs.length + 1 by omega)]
theorem toldL_get {rs : List (List UInt8)} {k : Nat} (h : k ≤ rs.length) : (natsV (toldL rs))[k]? = some (.int .i64 ((rs.take k).flatten.length : Int)) := by
  simp [natsV, toldL, List.getElem?_range (show k < rs.length + 1 by omega)]
theorem take_told (rs : List (List UInt8)) (k : Nat) : rs.flatten.take (rs.take k).flatten.length = (rs.take k).flatten := by
  have e : rs.flatten = (rs.take k).flatten ++ (rs.drop k).flatten := by rw [← List.flatten_append, List.take_append_drop]
  rw [e, List.take_left]
theorem told_le (rs : List (List UInt8)) (k : Nat) : (rs.take k).flatten.length ≤ rs.flatten.length := by
  have e : rs.flatten = (rs.take k).flatten ++ (rs.drop k).flatten := by rw [← List.flatten_append, List.take_append_drop]
  rw [e, List.length_append]
  omega

theorem wp_still_tail_drew {P : Program} {id : Nat} {Q : Exit → Act → World → Prop} {a : Act} {w : World} {l : List Oper} (n : Nat) (hm : P.follows .mixedOrders = true) (hB : Region.lexTailB .any l.toArray n = true)
    (h : wpStill P l.toArray w.drew (fun a' => wpList P l.toArray Q (l.drop n) a' w.drew) (l.take n) a) : (Code.region id l.toArray true).wp P Q a w := wp_region_still_tail n hm hB h

section
variable {pg : Int} {ps : List (List UInt8)} {pk cl : List UInt8} {A A2 : Option Addr} {n c m c2 : Nat} {w : World}

set_option maxRecDepth 100000 in
set_option maxHeartbeats 8000000 in
theorem keeps_great (hr : Rd w w.heap.size 1 A n (ps.map strV)) (en : Int) (hg : greatS ps pk = true ∨ greatS ps pk = false ∧ mayS pg ps pk = false) :
    Calls Try.prog 10 #[rscrV pg A n c pk, .slice A2 m c2, .int .u16 en] w fun e w' => e = .returned (.bool true) ∧ Below w.heap.size w w' := by
  have hb0 : Below w.heap.size w (w.alloc (.cells #[.int .i64 pg, .slice A n c, .string (S pk)] 44)) := (Below.refl _ _).alloc (Nat.le_refl _) _
  have hbx0 := Bx.new w #[.int .i64 pg, .slice A n c, .string (S pk)] 44 w.heap.size rfl
  have hr0 := hr.to hb0
  have ca0 := hbx0.cell 0
  have cb0 := hbx0.cell 1
  have cc0 := hbx0.cell 2
  have hgr : ∀ w : World, Rd w w.heap.size 1 A n (ps.map strV) → _ := fun w h => great27_any pg ps pk [] A n c w h
  simp only [rscrV] at *
  have HGR := hide hgr
  clear hgr hr
  rcases hg with hg | ⟨hg, hm⟩
  · have hg' : (greatS ps pk || decide (6000 < ([] : List UInt8).length)) = true := by rw [hg]; rfl
    have HG := Lib.hid hg'
    clear hg hg'
    go_enter Try.func10, Try.ntmps10
    go_wp2_with fail
    refine (unhide HGR _ hr0).mono ?_
    rintro e w1 ⟨rfl, hc⟩
    rw [HG.out]
    go_wp2_with fail
    refine (wakes27_any w1).mono ?_
    rintro e w2 ⟨rfl, hc2⟩
    go_wp2
    go_ret
    exact ⟨rfl, bt (bt hb0 hc) hc2⟩
  · have hg' : (greatS ps pk || decide (6000 < ([] : List UInt8).length)) = false := by rw [hg]; rfl
    obtain ⟨hp20, hk6, hp1⟩ := great_no hg
    have hrm := fun w h => rmayS_any pg ps pk A n c w h (fun x hx => by have := hp1 x hx; omega)
    simp only [rscrV] at hrm
    have HRM := hide hrm
    have HG := Lib.hid hg'
    have HM := Lib.hid hm
    clear hg hg' hp1 hrm hm
    go_enter Try.func10, Try.ntmps10
    go_wp2_with fail
    refine (unhide HGR _ hr0).mono ?_
    rintro e w1 ⟨rfl, hc⟩
    rw [HG.out]
    have hbx1 := hbx0.to hc
    have hr1 := hr0.to hc
    have hb1 := bt hb0 hc
    have ca1 := hbx1.cell 0
    have cb1 := hbx1.cell 1
    have cc1 := hbx1.cell 2
    clear hbx0 hr0 hb0 hc ca0 cb0 cc0
    go_wp2_with fail
    refine (unhide HRM _ hr1).mono ?_
    rintro e w2 ⟨rfl, hc⟩
    rw [HM.out]
    have hb2 := bt hb1 hc
    go_wp2_with fail
    refine (wakes27_any w2).mono ?_
    rintro e w3 ⟨rfl, hc2⟩
    go_wp2
    go_ret
    exact ⟨rfl, bt hb2 hc2⟩

set_option maxRecDepth 100000 in
set_option maxHeartbeats 8000000 in
theorem keeps_yes (hr : Rd w w.heap.size 1 A n (ps.map strV)) (hr2 : Rd w w.heap.size 1 A2 m (cl.map byteV)) (hm2 : m ≤ 140737488355328) (en : Int) (he0 : 0 ≤ en) (he1 : en ≤ 65535) (hg : greatS ps pk = false) (hmay : mayS pg ps pk = true) :
    Calls Try.prog 10 #[rscrV pg A n c pk, .slice A2 m c2, .int .u16 en] w fun e w' => e = .returned (.bool true) ∧ Below w.heap.size w w' := by
  have hln := hr.lenOne
  subst hln
  have hb0 : Below w.heap.size w (w.alloc (.cells #[.int .i64 pg, .slice A ps.length c, .string (S pk)] 44)) := (Below.refl _ _).alloc (Nat.le_refl _) _
  have hbx0 := Bx.new w #[.int .i64 pg, .slice A ps.length c, .string (S pk)] 44 w.heap.size rfl
  have hr0 := hr.to hb0
  have hq0 := hr2.to hb0
  have ca0 := hbx0.cell 0
  have cb0 := hbx0.cell 1
  have cc0 := hbx0.cell 2
  have hm0 := may_nopk hmay
  have hgr : ∀ w : World, Rd w w.heap.size 1 A ps.length (ps.map strV) → _ := fun w h => great27_any pg ps pk [] A ps.length c w h
  have hmd : ∀ w : World, Rd w w.heap.size 1 A ps.length (ps.map strV) → Rd w w.heap.size 1 A2 m (cl.map byteV) → _ := fun w h h' => made_any pg ps pk cl A A2 ps.length c m c2 w h h' hm2 hmay
  have hg' : (greatS ps pk || decide (6000 < ([] : List UInt8).length)) = false := by rw [hg]; rfl
  obtain ⟨hp20, hk6, hp1⟩ := great_no hg
  have hrm := fun w h => rmayS_any pg ps pk A ps.length c w h (fun x hx => by have := hp1 x hx; omega)
  simp only [rscrV] at *
  have HGR := hide hgr
  have HMD := hide hmd
  have HRM := hide hrm
  have HG := Lib.hid hg'
  have HM := Lib.hid hmay
  have HM0 := Lib.hid hm0
  clear hg hg' hp1 hrm hmay hm0 hgr hmd hr hr2
  go_enter Try.func10, Try.ntmps10
  go_wp2_with fail
  refine (unhide HGR _ hr0).mono ?_
  rintro e w1 ⟨rfl, hc⟩
  rw [HG.out]
  have hbx1 := hbx0.to hc
  have hr1 := hr0.to hc
  have hq1 := hq0.to hc
  have hb1 := bt hb0 hc
  have ca1 := hbx1.cell 0
  have cb1 := hbx1.cell 1
  have cc1 := hbx1.cell 2
  clear hbx0 hr0 hq0 hb0 hc ca0 cb0 cc0
  go_wp2_with fail
  refine (unhide HRM _ hr1).mono ?_
  rintro e w2 ⟨rfl, hc⟩
  rw [HM.out]
  have hbx2 := hbx1.to hc
  have hr2 := hr1.to hc
  have hq2 := hq1.to hc
  have hb2 := bt hb1 hc
  have ca2 := hbx2.cell 0
  have cb2 := hbx2.cell 1
  have cc2 := hbx2.cell 2
  clear hbx1 hr1 hq1 hb1 hc ca1 cb1 cc1
  go_wp2_with fail
  refine (unhide HMD _ hr2 hq2).mono ?_
  rintro e w3 ⟨rs, Ae, ce, At, ct, rfl, hok, hfl, hE, hT, hc⟩
  have hbx3 := hbx2.to hc
  have hr3 := hr2.to hc
  have hb3 := bt hb2 hc
  clear hbx2 hr2 hq2 hb2 hc ca2 cb2 cc2
  have hjl := jrn_le (pg := pg) (ps := ps) HM0.out hok.1 hok.2.2
  have hrd := readO_jrn (pg := pg) (ps := ps) HM0.out hok
  have hbg := fun n k => @readO_begin pg ps rs n k HM0.out hok
  have hshort := fun k0 => readO_short (pg := pg) (ps := ps) (rs := rs) (n := k0) HM0.out
  have hez := endAt_zero pg ps rs
  have hea := endAt_all pg ps rs
  have hmono := endAt_mono pg ps rs
  have hlast := last_end pg ps rs
  have hrl := flat_ge rs hok.1
  have hr4 := hok.2.2
  obtain ⟨J, hJ⟩ : ∃ J, jrn pg ps rs = J := ⟨_, rfl⟩
  rw [hJ] at hjl hrd hbg hshort hea ⊢
  rw [hfl] at hrd
  have hR := readY hrd
  have HR := hide hR
  have HBG := hide hbg
  have HSH := hide hshort
  have HEZ := Lib.hid hez
  have HEA := Lib.hid hea
  have HMO := hide hmono
  have HLA := hide hlast
  have HFL := Lib.hid hfl
  have HOK := hide hok
  clear hJ hrd hbg hshort hez hea hmono hlast hR hok hfl
  go_wp2_with fail
  refine (unhide HR w3 (by omega)).mono ?_
  rintro e w4 ⟨A3, c3, A4, c4, rfl, h4, h5, hc⟩
  rw [show decide (J.length < J.length) = false by simp]
  have hx5 : Below w4.heap.size w4 (w4.alloc (.cells #[.int .i64 pg, .slice A3 ps.length c3, .slice A4 pk.length c4, .int .i64 J.length, .bool false] 61)) := (Below.refl _ _).alloc (Nat.le_refl _) _
  have x5 := Bx.new w4 #[.int .i64 pg, .slice A3 ps.length c3, .slice A4 pk.length c4, .int .i64 J.length, .bool false] 61 w4.heap.size rfl
  have hbx5 := (hbx3.to hc).to hx5
  have hr5 := (hr3.to hc).to hx5
  have hE5 := (hE.to hc).to hx5
  have hT5 := (hT.to hc).to hx5
  have hb5 := bt (bt hb3 hc) hx5
  have h45 := h4.to hx5
  have h55 := h5.to hx5
  have sa0 := hbx5.cell 0
  have sa1 := hbx5.cell 1
  have sa2 := hbx5.cell 2
  have xa0 := x5.cell 0
  have xa1 := x5.cell 1
  have xa2 := x5.cell 2
  have xa3 := x5.cell 3
  have xa4 := x5.cell 4
  have hsm := same_any pg ps pk A3 A4 A ps.length c3 pk.length c4 c _ h45 h55 hr5 (by omega)
  simp only [scrV, rscrV] at hsm
  have HSM := hide hsm
  clear hsm hbx3 hr3 hE hT hb3 hc hx5 h4 h5 h45 h55 hr5 x5
  go_wp2_with fail
  refine (unhide HSM).mono ?_
  rintro e w6 ⟨rfl, hc⟩
  have hbx6 := hbx5.to hc
  have hE6 := hE5.to hc
  have hT6 := hT5.to hc
  have hb6 := bt hb5 hc
  obtain ⟨k0, hk0, hk1⟩ : ∃ k0 : Nat, en % ((J.length : Int) + 1) = (k0 : Int) ∧ k0 ≤ J.length := by
    have h1 := Int.emod_nonneg en (show (J.length : Int) + 1 ≠ 0 by omega)
    have h2 := Int.emod_lt_of_pos en (show (0 : Int) < (J.length : Int) + 1 by omega)
    exact ⟨(en % ((J.length : Int) + 1)).toNat, by omega, by omega⟩
  clear HSM hbx5 hE5 hT5 hb5 hc sa0 sa1 sa2 xa0 xa1 xa2 xa3 xa4
  by_cases hs : k0 < (bgB pg ps).length
  · have hN := readN (unhide HSH k0 hs)
    have HN := hide hN
    clear hN
    go_wp2_with fail
    refine (unhide HN w6 (by simp; omega)).mono ?_
    rintro e w7 ⟨A5, c5, A6, c6, rfl, hc⟩
    have hx8 : Below w7.heap.size w7 (w7.alloc (.cells #[.int .i64 0, .slice A5 0 c5, .slice A6 0 c6, .int .i64 0, .bool false] 61)) := (Below.refl _ _).alloc (Nat.le_refl _) _
    have hE8 := (hE6.to hc).to hx8
    have hb8 := bt (bt hb6 hc) hx8
    obtain ⟨b, o, rfl, hbl, hcE⟩ := hE8.2 (by omega)
    have g0 := hcE 0 _ (endsL_get (Nat.zero_le _))
    rw [HEZ.out, Nat.add_zero] at g0
    clear hE6 hT6 hb6 hbx6 hc hx8 hE8 hcE HN
    go_wp2_with fail
    refine (wakes27_any _).mono ?_
    rintro e w9 ⟨rfl, hc9⟩
    go_wp2
    go_ret
    exact ⟨rfl, bt hb8 hc9⟩
  · obtain ⟨K, hKr, hKe, hKn⟩ := unhide HLA k0 (by rw [HEZ.out]; omega) rs.length (Nat.le_refl _)
    have hRd := unhide HBG k0 K hKr hKe hk1 hKn
    obtain ⟨P, hP⟩ : ∃ P, (rs.take K).flatten = P := ⟨_, rfl⟩
    have hPl : P.length ≤ 4000 := by have := told_le rs K; rw [hP] at this; omega
    have htt : pk.take P.length = P := by have := take_told rs K; rw [HFL.out, hP] at this; exact this
    have hPp : P.length ≤ pk.length := by have := told_le rs K; rw [hP, HFL.out] at this; exact this
    obtain ⟨EK, hEK⟩ : ∃ EK, endAt pg ps rs K = EK := ⟨_, rfl⟩
    rw [hEK] at hKe hRd
    rw [hP] at hRd
    have hY := readY hRd
    rw [List.length_take, Nat.min_eq_left hk1] at hY
    have HY := hide hY
    have HP := Lib.hid hP
    have HEK := Lib.hid hEK
    have HKN := hide hKn
    clear hRd hY hP hEK hKn
    by_cases htn : EK < k0
    · rw [decide_eq_true htn] at HY
      go_wp2_with fail
      refine (unhide HY w6 (by omega)).mono ?_
      rintro e w7 ⟨A5, c5, A6, c6, rfl, _, h7, hc⟩
      have hx8 : Below w7.heap.size w7 (w7.alloc (.cells #[.int .i64 pg, .slice A5 ps.length c5, .slice A6 P.length c6, .int .i64 EK, .bool true] 61)) := (Below.refl _ _).alloc (Nat.le_refl _) _
      have y8 := Bx.new w7 #[.int .i64 pg, .slice A5 ps.length c5, .slice A6 P.length c6, .int .i64 EK, .bool true] 61 w7.heap.size rfl
      have hE8 := (hE6.to hc).to hx8
      have hT8 := (hT6.to hc).to hx8
      have hbx8 := (hbx6.to hc).to hx8
      have hb8 := bt (bt hb6 hc) hx8
      have h78 := h7.to hx8
      have hb9 := hb8.drew
      obtain ⟨b, o, rfl, hbl, hcE⟩ := hE8.2 (by omega)
      obtain ⟨b', o', rfl, hbl', hcT⟩ := hT8.2 (by omega)
      have g0 := hcE 0 _ (endsL_get (Nat.zero_le _))
      have gK := hcE K _ (endsL_get hKr)
      have tK := hcT K _ (toldL_get hKr)
      rw [HEZ.out, Nat.add_zero] at g0
      rw [HEK.out] at gK
      rw [HP.out] at tK
      have ya2 := y8.cell 2
      have ya3 := y8.cell 3
      have ya4 := y8.cell 4
      have sa2 := hbx8.cell 2
      have hcv := run_str (P := Try.prog) (w := (w7.alloc (.cells #[.int .i64 pg, .slice A5 ps.length c5, .slice A6 P.length c6, .int .i64 EK, .bool true] 61)).drew) (l := P) (h78 : Rd _ _ 1 A6 P.length (bytesV P)) _ _ _ c6 Try.underlying47 Try.underlying5 Try.underlying9
      have za2 : (w7.alloc (.cells #[.int .i64 pg, .slice A5 ps.length c5, .slice A6 P.length c6, .int .i64 EK, .bool true] 61)).drew.cell? _ = _ := ya2
      have za3 : (w7.alloc (.cells #[.int .i64 pg, .slice A5 ps.length c5, .slice A6 P.length c6, .int .i64 EK, .bool true] 61)).drew.cell? _ = _ := ya3
      have za4 : (w7.alloc (.cells #[.int .i64 pg, .slice A5 ps.length c5, .slice A6 P.length c6, .int .i64 EK, .bool true] 61)).drew.cell? _ = _ := ya4
      have zs2 : (w7.alloc (.cells #[.int .i64 pg, .slice A5 ps.length c5, .slice A6 P.length c6, .int .i64 EK, .bool true] 61)).drew.cell? _ = _ := sa2
      have zK : (w7.alloc (.cells #[.int .i64 pg, .slice A5 ps.length c5, .slice A6 P.length c6, .int .i64 EK, .bool true] 61)).drew.cell? _ = _ := gK
      have ztK : (w7.alloc (.cells #[.int .i64 pg, .slice A5 ps.length c5, .slice A6 P.length c6, .int .i64 EK, .bool true] 61)).drew.cell? _ = _ := tK
      have HCE := hide hcE
      clear hE6 hT6 hb6 hbx6 hc hx8 hE8 hT8 hcE hcT HY y8 hbx8 h7 h78 hb8
      go_wp2
      go_loop [16] (fun k => ∃ q : Nat, q ≤ K ∧ k = .int .i64 q) (fun k => K - (intOf k).toNat)
      case atStart => exact ⟨0, Nat.zero_le _, rfl⟩
      case round =>
        obtain ⟨q, hq, rfl⟩ := hrel
        by_cases hqK : q < K
        · have gq := unhide HCE (q + 1) _ (endsL_get (by omega))
          have hle : endAt pg ps rs (q + 1) ≤ k0 := by
            have := unhide HMO (K - (q + 1)) (q + 1) (by omega)
            rw [show q + 1 + (K - (q + 1)) = K by omega, HEK.out] at this
            omega
          obtain ⟨E1, hE1⟩ : ∃ E1, endAt pg ps rs (q + 1) = E1 := ⟨_, rfl⟩
          rw [hE1] at gq hle
          have HE1 := Lib.hid hE1
          clear hE1
          go_wp2
          go_round
          case rel => exact ⟨q + 1, by omega, by go_num⟩
          case measure => simp [intOf]; omega
        · obtain rfl : q = K := by omega
          by_cases hKl : q = rs.length
          · have hKl2 : ¬ q < rs.length := by omega
            have ib1 : (q : Int) < (rs.length : Int) + 1 := by omega
            have ib2 : q < rs.length + 1 := by omega
            have ib3 : ((q : Int)).toNat = q := by omega
            have HKL := Lib.hid hKl
            clear hKl
            go_wp2
            refine wp_still_tail_drew 37 (by kernel_rfl) (by kernel_rfl) ?_
            simp only [List.take_succ_cons, List.take_zero, List.drop_succ_cons, List.drop_zero]
            repeat still_step
            refine wpStill_nil ?_
            go_wp2_with fail
            refine (wakes27_any _).mono ?_
            rintro e w9 ⟨rfl, hc9⟩
            go_wp2
            go_ret
            exact ⟨rfl, bt hb9 hc9⟩
          · have hKl2 : q < rs.length := by omega
            have ib1 : (q : Int) < (rs.length : Int) + 1 := by omega
            have ib2 : q < rs.length + 1 := by omega
            have ib3 : ((q : Int)).toNat = q := by omega
            have gq := unhide HCE (q + 1) _ (endsL_get (by omega))
            have hgt : k0 < endAt pg ps rs (q + 1) := by
              rcases unhide HKN with h | h
              · exact absurd h hKl
              · exact h
            obtain ⟨E1, hE1⟩ : ∃ E1, endAt pg ps rs (q + 1) = E1 := ⟨_, rfl⟩
            rw [hE1] at gq hgt
            have HE1 := Lib.hid hE1
            clear hE1
            go_wp2
            refine wp_still_tail_drew 37 (by kernel_rfl) (by kernel_rfl) ?_
            simp only [List.take_succ_cons, List.take_zero, List.drop_succ_cons, List.drop_zero]
            repeat still_step
            refine wpStill_nil ?_
            go_wp2_with fail
            refine (wakes27_any _).mono ?_
            rintro e w9 ⟨rfl, hc9⟩
            go_wp2
            go_ret
            exact ⟨rfl, bt hb9 hc9⟩
    · rw [decide_eq_false htn] at HY
      go_wp2_with fail
      refine (unhide HY w6 (by omega)).mono ?_
      rintro e w7 ⟨A5, c5, A6, c6, rfl, _, h7, hc⟩
      have hx8 : Below w7.heap.size w7 (w7.alloc (.cells #[.int .i64 pg, .slice A5 ps.length c5, .slice A6 P.length c6, .int .i64 EK, .bool false] 61)) := (Below.refl _ _).alloc (Nat.le_refl _) _
      have y8 := Bx.new w7 #[.int .i64 pg, .slice A5 ps.length c5, .slice A6 P.length c6, .int .i64 EK, .bool false] 61 w7.heap.size rfl
      have hE8 := (hE6.to hc).to hx8
      have hT8 := (hT6.to hc).to hx8
      have hbx8 := (hbx6.to hc).to hx8
      have hb8 := bt (bt hb6 hc) hx8
      have h78 := h7.to hx8
      have hb9 := hb8.drew
      obtain ⟨b, o, rfl, hbl, hcE⟩ := hE8.2 (by omega)
      obtain ⟨b', o', rfl, hbl', hcT⟩ := hT8.2 (by omega)
      have g0 := hcE 0 _ (endsL_get (Nat.zero_le _))
      have gK := hcE K _ (endsL_get hKr)
      have tK := hcT K _ (toldL_get hKr)
      rw [HEZ.out, Nat.add_zero] at g0
      rw [HEK.out] at gK
      rw [HP.out] at tK
      have ya2 := y8.cell 2
      have ya3 := y8.cell 3
      have ya4 := y8.cell 4
      have sa2 := hbx8.cell 2
      have hcv := run_str (P := Try.prog) (w := (w7.alloc (.cells #[.int .i64 pg, .slice A5 ps.length c5, .slice A6 P.length c6, .int .i64 EK, .bool false] 61)).drew) (l := P) (h78 : Rd _ _ 1 A6 P.length (bytesV P)) _ _ _ c6 Try.underlying47 Try.underlying5 Try.underlying9
      have za2 : (w7.alloc (.cells #[.int .i64 pg, .slice A5 ps.length c5, .slice A6 P.length c6, .int .i64 EK, .bool false] 61)).drew.cell? _ = _ := ya2
      have za3 : (w7.alloc (.cells #[.int .i64 pg, .slice A5 ps.length c5, .slice A6 P.length c6, .int .i64 EK, .bool false] 61)).drew.cell? _ = _ := ya3
      have za4 : (w7.alloc (.cells #[.int .i64 pg, .slice A5 ps.length c5, .slice A6 P.length c6, .int .i64 EK, .bool false] 61)).drew.cell? _ = _ := ya4
      have zs2 : (w7.alloc (.cells #[.int .i64 pg, .slice A5 ps.length c5, .slice A6 P.length c6, .int .i64 EK, .bool false] 61)).drew.cell? _ = _ := sa2
      have zK : (w7.alloc (.cells #[.int .i64 pg, .slice A5 ps.length c5, .slice A6 P.length c6, .int .i64 EK, .bool false] 61)).drew.cell? _ = _ := gK
      have ztK : (w7.alloc (.cells #[.int .i64 pg, .slice A5 ps.length c5, .slice A6 P.length c6, .int .i64 EK, .bool false] 61)).drew.cell? _ = _ := tK
      have HCE := hide hcE
      clear hE6 hT6 hb6 hbx6 hc hx8 hE8 hT8 hcE hcT HY y8 hbx8 h7 h78 hb8
      go_wp2
      go_loop [16] (fun k => ∃ q : Nat, q ≤ K ∧ k = .int .i64 q) (fun k => K - (intOf k).toNat)
      case atStart => exact ⟨0, Nat.zero_le _, rfl⟩
      case round =>
        obtain ⟨q, hq, rfl⟩ := hrel
        by_cases hqK : q < K
        · have gq := unhide HCE (q + 1) _ (endsL_get (by omega))
          have hle : endAt pg ps rs (q + 1) ≤ k0 := by
            have := unhide HMO (K - (q + 1)) (q + 1) (by omega)
            rw [show q + 1 + (K - (q + 1)) = K by omega, HEK.out] at this
            omega
          obtain ⟨E1, hE1⟩ : ∃ E1, endAt pg ps rs (q + 1) = E1 := ⟨_, rfl⟩
          rw [hE1] at gq hle
          have HE1 := Lib.hid hE1
          clear hE1
          go_wp2
          go_round
          case rel => exact ⟨q + 1, by omega, by go_num⟩
          case measure => simp [intOf]; omega
        · obtain rfl : q = K := by omega
          by_cases hKl : q = rs.length
          · have hKl2 : ¬ q < rs.length := by omega
            have ib1 : (q : Int) < (rs.length : Int) + 1 := by omega
            have ib2 : q < rs.length + 1 := by omega
            have ib3 : ((q : Int)).toNat = q := by omega
            have HKL := Lib.hid hKl
            clear hKl
            go_wp2
            refine wp_still_tail_drew 37 (by kernel_rfl) (by kernel_rfl) ?_
            simp only [List.take_succ_cons, List.take_zero, List.drop_succ_cons, List.drop_zero]
            repeat still_step
            refine wpStill_nil ?_
            go_wp2_with fail
            refine (wakes27_any _).mono ?_
            rintro e w9 ⟨rfl, hc9⟩
            go_wp2
            go_ret
            exact ⟨rfl, bt hb9 hc9⟩
          · have hKl2 : q < rs.length := by omega
            have ib1 : (q : Int) < (rs.length : Int) + 1 := by omega
            have ib2 : q < rs.length + 1 := by omega
            have ib3 : ((q : Int)).toNat = q := by omega
            have gq := unhide HCE (q + 1) _ (endsL_get (by omega))
            have hgt : k0 < endAt pg ps rs (q + 1) := by
              rcases unhide HKN with h | h
              · exact absurd h hKl
              · exact h
            obtain ⟨E1, hE1⟩ : ∃ E1, endAt pg ps rs (q + 1) = E1 := ⟨_, rfl⟩
            rw [hE1] at gq hgt
            have HE1 := Lib.hid hE1
            clear hE1
            go_wp2
            refine wp_still_tail_drew 37 (by kernel_rfl) (by kernel_rfl) ?_
            simp only [List.take_succ_cons, List.take_zero, List.drop_succ_cons, List.drop_zero]
            repeat still_step
            refine wpStill_nil ?_
            go_wp2_with fail
            refine (wakes27_any _).mono ?_
            rintro e w9 ⟨rfl, hc9⟩
            go_wp2
            go_ret
            exact ⟨rfl, bt hb9 hc9⟩
end
end Go.Proofs.Ytnhnofiimidagaa
