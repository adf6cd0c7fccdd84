/-
  The walk of the law JournalTears.
-/
import Derived.Test.YtnhnofiimidagaaJKeeps
import Derived.Laws.BitsAllLaws
namespace Go.Proofs.Ytnhnofiimidagaa
open Go.RowKit

theorem xor_ne {x ch : UInt8} (h : ch ≠ 0) : x ^^^ ch ≠ x := fun he => h (by
  have := congrArg (x ^^^ ·) he
  simpa [← UInt8.xor_assoc] using this)
/-- a row of bytes, one of them another one -/
theorem OwnB.rd_set {w : World} {base : Nat} {e : TypeId} {g n c i : Nat} {l : List UInt8} (h : OwnB w base e (.slice (some ⟨g, 0, none⟩) n c) n (l.map byteV)) (x : UInt8) (hi : i < n) :
    Rd (w.setCell ⟨g, i, none⟩ (byteV x)) (w.setCell ⟨g, i, none⟩ (byteV x)).heap.size 1 (some ⟨g, 0, none⟩) n ((l.set i x).map byteV) := by
  obtain ⟨g', cap, cur, fr, hv, _, hg, hn, _, hs, ht, hl, _⟩ := h
  injection hv with hA hB hC
  injection hA with hA
  injection hA with hA
  subst hA
  rw [List.length_map] at hl
  have hlt := (Array.getElem?_eq_some_iff.1 hg).1
  refine ⟨by simp [hl], fun _ => ⟨g, 0, rfl, by simpa using hlt, fun j u hu => ?_⟩⟩
  rw [Nat.zero_add]
  have hjl : j < n := by
    have := (List.getElem?_eq_some_iff.1 hu).1
    simpa [hl] using this
  have hcell : ∀ k, k < n → w.cell? ⟨g, k, none⟩ = (l.map byteV)[k]? := fun k hk => by
    rw [cell_of_row w g k cur e fr hg, ← ht, List.getElem?_take, if_pos hk]
    simp
  rw [List.getElem?_map] at hu
  by_cases hji : j = i
  · subst hji
    rw [List.getElem?_set, if_pos rfl, if_pos (by omega)] at hu
    have h1 : (w.setCell ⟨g, j, none⟩ (byteV x)).cell? ⟨g, j, none⟩ = some (byteV x) := by
      refine World.cell?_setCell_same (u := byteV (l[j]'(by omega))) w ⟨g, j, none⟩ (byteV x) ?_
      rw [hcell j hi, List.getElem?_map, List.getElem?_eq_getElem (by omega)]
      rfl
    rw [h1]
    exact hu
  · rw [List.getElem?_set, if_neg (by omega)] at hu
    rw [World.cell?_setCell_other w ⟨g, i, none⟩ ⟨g, j, none⟩ (byteV x) (by intro he; injection he with _ he; exact hji he.symm), hcell j hjl, List.getElem?_map]
    exact hu

theorem keepcc {w w' : World} {p : Addr} {v : Value} (hb : Below w.heap.size w w') (h : w.cell? p = some v) : w'.cell? p = some v := (hb.cell (World.block_lt_of_cell? _ _ h)).trans h

section
variable {pg : Int} {ps : List (List UInt8)} {pk cl : List UInt8} {A A2 : Option Addr} {n c m c2 : Nat} {w : World}

set_option maxRecDepth 100000 in
set_option maxHeartbeats 8000000 in
theorem tears_great (hr : Rd w w.heap.size 1 A n (ps.map strV)) (en ch : Int) (hg : greatS ps pk = true ∨ greatS ps pk = false ∧ mayS pg ps pk = false) :
    Calls Try.prog 11 #[rscrV pg A n c pk, .slice A2 m c2, .int .u16 en, .int .u8 ch] w fun e w' => e = .returned (.bool true) ∧ Below w.heap.size w w' := by
  have hb0 : Below w.heap.size w (w.alloc (.cells #[.int .i64 pg, .slice A n c, .string (S pk)] 44)) := (Below.refl _ _).alloc (Nat.le_refl _) _
  have hbx0 := Bx.new w #[.int .i64 pg, .slice A n c, .string (S pk)] 44 w.heap.size rfl
  have hr0 := hr.to hb0
  have ca0 := hbx0.cell 0
  have cb0 := hbx0.cell 1
  have cc0 := hbx0.cell 2
  have hgr : ∀ w : World, Rd w w.heap.size 1 A n (ps.map strV) → _ := fun w h => great27_any pg ps pk [] A n c w h
  simp only [rscrV] at *
  have HGR := hide hgr
  clear hgr hr
  rcases hg with hg | ⟨hg, hm⟩
  · have hg' : (greatS ps pk || decide (6000 < ([] : List UInt8).length)) = true := by rw [hg]; rfl
    have HG := Lib.hid hg'
    clear hg hg'
    go_enter Try.func11, Try.ntmps11
    go_wp2_with fail
    refine (unhide HGR _ hr0).mono ?_
    rintro e w1 ⟨rfl, hc⟩
    rw [HG.out]
    go_wp2_with fail
    refine (wakes27_any w1).mono ?_
    rintro e w2 ⟨rfl, hc2⟩
    go_wp2
    go_ret
    exact ⟨rfl, bt (bt hb0 hc) hc2⟩
  · have hg' : (greatS ps pk || decide (6000 < ([] : List UInt8).length)) = false := by rw [hg]; rfl
    obtain ⟨hp20, hk6, hp1⟩ := great_no hg
    have hrm := fun w h => rmayS_any pg ps pk A n c w h (fun x hx => by have := hp1 x hx; omega)
    simp only [rscrV] at hrm
    have HRM := hide hrm
    have HG := Lib.hid hg'
    have HM := Lib.hid hm
    clear hg hg' hp1 hrm hm
    go_enter Try.func11, Try.ntmps11
    go_wp2_with fail
    refine (unhide HGR _ hr0).mono ?_
    rintro e w1 ⟨rfl, hc⟩
    rw [HG.out]
    have hbx1 := hbx0.to hc
    have hr1 := hr0.to hc
    have hb1 := bt hb0 hc
    have ca1 := hbx1.cell 0
    have cb1 := hbx1.cell 1
    have cc1 := hbx1.cell 2
    clear hbx0 hr0 hb0 hc ca0 cb0 cc0
    go_wp2_with fail
    refine (unhide HRM _ hr1).mono ?_
    rintro e w2 ⟨rfl, hc⟩
    rw [HM.out]
    have hb2 := bt hb1 hc
    go_wp2_with fail
    refine (wakes27_any w2).mono ?_
    rintro e w3 ⟨rfl, hc2⟩
    go_wp2
    go_ret
    exact ⟨rfl, bt hb2 hc2⟩

set_option maxRecDepth 100000 in
set_option maxHeartbeats 8000000 in
theorem tears_yes (hr : Rd w w.heap.size 1 A n (ps.map strV)) (hr2 : Rd w w.heap.size 1 A2 m (cl.map byteV)) (hm2 : m ≤ 140737488355328) (en : Int) (z : UInt8) (he0 : 0 ≤ en) (he1 : en ≤ 65535) (hg : greatS ps pk = false) (hmay : mayS pg ps pk = true) :
    Calls Try.prog 11 #[rscrV pg A n c pk, .slice A2 m c2, .int .u16 en, .int .u8 (z.toNat : Int)] w fun e w' => e = .returned (.bool true) ∧ Below w.heap.size w w' := by
  have hln := hr.lenOne
  subst hln
  have hb0 : Below w.heap.size w (w.alloc (.cells #[.int .i64 pg, .slice A ps.length c, .string (S pk)] 44)) := (Below.refl _ _).alloc (Nat.le_refl _) _
  have hbx0 := Bx.new w #[.int .i64 pg, .slice A ps.length c, .string (S pk)] 44 w.heap.size rfl
  have hr0 := hr.to hb0
  have hq0 := hr2.to hb0
  have ca0 := hbx0.cell 0
  have cb0 := hbx0.cell 1
  have cc0 := hbx0.cell 2
  have hm0 := may_nopk hmay
  have hgr : ∀ w : World, Rd w w.heap.size 1 A ps.length (ps.map strV) → _ := fun w h => great27_any pg ps pk [] A ps.length c w h
  have hmd : ∀ w : World, Rd w w.heap.size 1 A ps.length (ps.map strV) → Rd w w.heap.size 1 A2 m (cl.map byteV) → _ := fun w h h' => made_any pg ps pk cl A A2 ps.length c m c2 w h h' hm2 hmay
  have hg' : (greatS ps pk || decide (6000 < ([] : List UInt8).length)) = false := by rw [hg]; rfl
  obtain ⟨hp20, hk6, hp1⟩ := great_no hg
  have hrm := fun w h => rmayS_any pg ps pk A ps.length c w h (fun x hx => by have := hp1 x hx; omega)
  simp only [rscrV] at *
  have HGR := hide hgr
  have HMD := hide hmd
  have HRM := hide hrm
  have HG := Lib.hid hg'
  have HM := Lib.hid hmay
  have HM0 := Lib.hid hm0
  clear hg hg' hp1 hrm hmay hm0 hgr hmd hr hr2
  go_enter Try.func11, Try.ntmps11
  go_wp2_with fail
  refine (unhide HGR _ hr0).mono ?_
  rintro e w1 ⟨rfl, hc⟩
  rw [HG.out]
  have hbx1 := hbx0.to hc
  have hr1 := hr0.to hc
  have hq1 := hq0.to hc
  have hb1 := bt hb0 hc
  have ca1 := hbx1.cell 0
  have cb1 := hbx1.cell 1
  have cc1 := hbx1.cell 2
  clear hbx0 hr0 hq0 hb0 hc ca0 cb0 cc0
  go_wp2_with fail
  refine (unhide HRM _ hr1).mono ?_
  rintro e w2 ⟨rfl, hc⟩
  rw [HM.out]
  have hbx2 := hbx1.to hc
  have hr2 := hr1.to hc
  have hq2 := hq1.to hc
  have hb2 := bt hb1 hc
  have ca2 := hbx2.cell 0
  have cb2 := hbx2.cell 1
  have cc2 := hbx2.cell 2
  clear hbx1 hr1 hq1 hb1 hc ca1 cb1 cc1
  go_wp2_with fail
  refine (unhide HMD _ hr2 hq2).mono ?_
  rintro e w3 ⟨rs, Ae, ce, At, ct, rfl, hok, hfl, hE, hT, hc⟩
  have hbx3 := hbx2.to hc
  have hr3 := hr2.to hc
  have hb3 := bt hb2 hc
  clear hbx2 hr2 hq2 hb2 hc ca2 cb2 cc2
  have hjl := jrn_le (pg := pg) (ps := ps) HM0.out hok.1 hok.2.2
  have htorn := fun k i x y => @readO_torn pg ps rs k i x y HM0.out hok
  have hez := endAt_zero pg ps rs
  have hea := endAt_all pg ps rs
  have hmono := endAt_mono pg ps rs
  have hlast := last_end pg ps rs
  have hrl := flat_ge rs hok.1
  have hr4 := hok.2.2
  have hsuc := fun k p h => @endAt_succ pg ps rs k p h
  obtain ⟨J, hJ⟩ : ∃ J, jrn pg ps rs = J := ⟨_, rfl⟩
  rw [hJ] at hjl htorn hea ⊢
  have HTO := hide htorn
  have HEZ := Lib.hid hez
  have HEA := Lib.hid hea
  have HMO := hide hmono
  have HLA := hide hlast
  have HFL := Lib.hid hfl
  have HSU := hide hsuc
  clear hJ htorn hez hea hmono hlast hok hfl hsuc
  by_cases hrs : rs.length = 0
  · have hrs1 : ((rs.length : Int) + 1) < 2 := by omega
    have hrs2 : rs.length + 1 < 2 := by omega
    have HRS := Lib.hid hrs
    clear hrs
    go_wp2_with fail
    refine (wakes27_any _).mono ?_
    rintro e w4 ⟨rfl, hc⟩
    go_wp2
    go_ret
    exact ⟨rfl, bt hb3 hc⟩
  by_cases hz0 : z = 0
  · have hrs1 : ¬ ((rs.length : Int) + 1) < 2 := by omega
    have hrs2 : ¬ rs.length + 1 < 2 := by omega
    go_wp2_with fail
    refine (wakes27_any _).mono ?_
    rintro e w4 ⟨rfl, hc⟩
    go_wp2
    go_ret
    exact ⟨rfl, bt hb3 hc⟩
  have hrs1 : ¬ ((rs.length : Int) + 1) < 2 := by omega
  have hrs2 : ¬ rs.length + 1 < 2 := by omega
  have hch : ¬ ((z.toNat : Int) = 0) := fun h => hz0 (UInt8.toNat_inj.1 (by simpa using h))
  have hch2 : ¬ z.toNat = 0 := by omega
  have hdch : decide ((z.toNat : Int) = 0) = false := by simpa using hch
  have hbch : ((z.toNat : Int) == 0) = false := by simpa using hch
  obtain ⟨E0, hE0⟩ : ∃ E0, (bgB pg ps).length = E0 := ⟨_, rfl⟩
  rw [hE0] at HEZ
  have HE0 := Lib.hid hE0
  obtain ⟨b, o, rfl, hbl, hcE⟩ := hE.2 (by omega)
  obtain ⟨b', o', rfl, hbl', hcT⟩ := hT.2 (by omega)
  have g0 := hcE 0 _ (endsL_get (Nat.zero_le _))
  rw [HEZ.out, Nat.add_zero] at g0
  have hlt0 : E0 < J.length := by
    have h1 := unhide HMO (rs.length - 1) 1 (by omega)
    rw [show 1 + (rs.length - 1) = rs.length by omega, HEA.out] at h1
    have hp : rs[0]? = some rs[0] := List.getElem?_eq_getElem (by omega)
    have h2 := unhide HSU 0 _ hp
    rw [HEZ.out, Nat.zero_add] at h2
    omega
  obtain ⟨d, hd, hd1⟩ : ∃ d : Nat, en % ((J.length : Int) - E0) = (d : Int) ∧ E0 + d < J.length := by
    have h1 := Int.emod_nonneg en (show (J.length : Int) - E0 ≠ 0 by omega)
    have h2 := Int.emod_lt_of_pos en (show (0 : Int) < (J.length : Int) - E0 by omega)
    exact ⟨(en % ((J.length : Int) - E0)).toNat, by omega, by omega⟩
  clear hE0 hrs
  go_wp2_with fail
  go_quiet (fail)
  have hE4 : Rd (w3.drewN nq) _ 1 (some ⟨b, o, none⟩) (rs.length + 1) (natsV (endsL pg ps rs)) := hE
  have hT4 : Rd (w3.drewN nq) _ 1 (some ⟨b', o', none⟩) (rs.length + 1) (natsV (toldL rs)) := hT
  have hbx4 : Bx (w3.drewN nq) w.heap.size #[.int .i64 pg, .slice A ps.length c, .string (S pk)] := hbx3
  have hb4 := below_drewN hb3 nq
  obtain ⟨i, hi⟩ : ∃ i, E0 + d = i := ⟨_, rfl⟩
  have hiI : (E0 : Int) + d = (i : Int) := by omega
  rw [hiI]
  have hiJ : i < J.length := by omega
  have hiE0 : E0 ≤ i := by omega
  obtain ⟨y, hy⟩ : ∃ y, J[i]? = some y := ⟨_, List.getElem?_eq_getElem hiJ⟩
  obtain ⟨c9, w5, hrun, hb5, hsz5, hown5⟩ := run_bytes (P := Try.prog) (w3.drewN nq) J _ _ _ Try.underlying9 Try.underlying47 Try.underlying5 (by omega)
  obtain ⟨K, hKr, hKe, hKn⟩ := unhide HLA i (by rw [HEZ.out]; omega) rs.length (Nat.le_refl _)
  have hKl : K < rs.length ∧ i < endAt pg ps rs (K + 1) := by
    rcases hKn with h | h
    · rw [h, HEA.out] at hKe
      omega
    · refine ⟨?_, h⟩
      rcases Nat.lt_or_ge K rs.length with h' | h'
      · exact h'
      · have : K = rs.length := by omega
        rw [this, HEA.out] at hKe
        omega
  obtain ⟨hKr2, hiE1⟩ := hKl
  obtain ⟨EK, hEK⟩ : ∃ EK, endAt pg ps rs K = EK := ⟨_, rfl⟩
  rw [hEK] at hKe
  have HEK := Lib.hid hEK
  have HY := Lib.hid hy
  obtain ⟨v, hv⟩ : ∃ v, y ^^^ z = v := ⟨_, rfl⟩
  have hxy : v ≠ y := by rw [← hv]; exact xor_ne hz0
  have hc5 : w5.cell? ⟨w3.heap.size, i, none⟩ = some (.int .u8 y.toNat) ∧ w5.frozen? ⟨w3.heap.size, i, none⟩ = false := by
    obtain ⟨g, cap, cur, fr, hvv, _, hg, hn, _, hs, ht, hl, hf⟩ := hown5
    injection hvv with hA
    injection hA with hA
    injection hA with hA
    have hgw : g = w3.heap.size := hA.symm
    subst hgw
    constructor
    · rw [cell_of_row w5 _ i cur _ fr hg]
      have h1 : (cur.toList.take J.length)[i]? = some (byteV y) := by rw [ht, List.getElem?_map, hy]; rfl
      rw [List.getElem?_take, if_pos hiJ] at h1
      simpa [byteV] using h1
    · simp only [World.frozen?, hg]
      rcases hf with rfl | hf
      · simp
      · simp; omega
  obtain ⟨hc5, hf5⟩ := hc5
  have hxor := u8_xor_nat y.toNat z.toNat (by have := y.toNat_lt; omega) (by have := z.toNat_lt; omega)
  rw [← UInt8.toNat_xor, hv] at hxor
  have hrd6 := hown5.rd_set v hiJ
  have hB6 : Below (w3.drewN nq).heap.size (w3.drewN nq) (w5.setCell ⟨w3.heap.size, i, none⟩ (.int .u8 (v.toNat : Int))) := hb5.setCell (by simp) _
  have hb6 := bt hb4 hB6
  have hbx6 := hbx4.to hB6
  have hbx5 := hbx4.to hb5
  have hE6 := hE4.to hb5
  have hT6 := hT4.to hb5
  obtain ⟨b1, o1, hA1, hbl1, hcE6⟩ := hE6.2 (by omega)
  injection hA1 with hA1
  injection hA1 with hA1 hA2
  subst hA1 hA2
  obtain ⟨b2, o2, hA3, hbl2, hcT6⟩ := hT6.2 (by omega)
  injection hA3 with hA3
  injection hA3 with hA3 hA4
  subst hA3 hA4
  have gK := hcE6 K _ (endsL_get hKr)
  have tK := hcT6 K _ (toldL_get hKr)
  rw [hEK] at gK
  have hbn1 : ¬ b = w3.heap.size := by omega
  have hbn2 : ¬ w3.heap.size = b := by omega
  have hbn3 : ¬ b' = w3.heap.size := by omega
  have hbn4 : ¬ w3.heap.size = b' := by omega
  have hwl := hbx4.lt
  have hwl2 : w.heap.size < w3.heap.size := hwl
  have hbn5 : ¬ w.heap.size = w3.heap.size := by omega
  have hbn6 : ¬ w3.heap.size = w.heap.size := by omega
  have sa5 := hbx5.cell 2
  have hcv : (convert 47 9 (.slice (some ⟨w3.heap.size, 0, none⟩) J.length c9)).run Try.prog (w5.setCell ⟨w3.heap.size, i, none⟩ (.int .u8 (v.toNat : Int))) = .ok (.string (S (J.set i v))) (w5.setCell ⟨w3.heap.size, i, none⟩ (.int .u8 (v.toNat : Int))) :=
    run_str (P := Try.prog) (hrd6 : Rd _ _ 1 _ J.length (bytesV (J.set i v))) _ _ _ c9 Try.underlying47 Try.underlying5 Try.underlying9
  have HCE := hide hcE6
  have sa6 := hbx6.cell 2
  have hwz : (w3.drewN nq).heap.size = w3.heap.size := rfl
  rw [hwz] at hrun
  clear hv hE4 hT4 hbx4 hb4 hi hiI hKn hEK hy hrd6 hown5 hb5 hsz5 hE6 hT6 hcE6 hcT6 hE hT hbx5 hwl hbx3 hr3 hb3 hcE hcT g0 hd1 hd hB6 hlt0
  go_wp2
  go_loop [15] (fun k => ∃ q : Nat, q ≤ K ∧ k = .int .i64 q) (fun k => K - (intOf k).toNat)
  case atStart => exact ⟨0, Nat.zero_le _, rfl⟩
  case round =>
    obtain ⟨q, hq, rfl⟩ := hrel
    by_cases hqK : q < K
    · have gq := unhide HCE (q + 1) _ (endsL_get (by omega))
      have hle : endAt pg ps rs (q + 1) ≤ i := by
        have := unhide HMO (K - (q + 1)) (q + 1) (by omega)
        rw [show q + 1 + (K - (q + 1)) = K by omega, HEK.out] at this
        omega
      obtain ⟨E1, hE1⟩ : ∃ E1, endAt pg ps rs (q + 1) = E1 := ⟨_, rfl⟩
      rw [hE1] at gq hle
      have HE1 := Lib.hid hE1
      have hq2 : (q : Int) + 2 < (rs.length : Int) + 1 := by omega
      have hq3 : q + 2 < rs.length + 1 := by omega
      have hq4 : q + 1 < rs.length := by omega
      clear hE1
      go_wp2
      go_round
      case rel => exact ⟨q + 1, by omega, by go_num⟩
      case measure => simp [intOf]; omega
    · obtain rfl : q = K := by omega
      have ib1 : (q : Int) < (rs.length : Int) + 1 := by omega
      have ib2 : q < rs.length + 1 := by omega
      have ib3 : ((q : Int)).toNat = q := by omega
      by_cases hql : q + 1 < rs.length
      · have gq := unhide HCE (q + 1) _ (endsL_get (by omega))
        obtain ⟨E1, hE1⟩ : ∃ E1, endAt pg ps rs (q + 1) = E1 := ⟨_, rfl⟩
        have hgt : i < E1 := by rw [← hE1]; exact hiE1
        rw [hE1] at gq
        have HE1 := Lib.hid hE1
        clear hE1
        have hq2 : (q : Int) + 2 < (rs.length : Int) + 1 := by omega
        have hq3 : q + 2 < rs.length + 1 := by omega
        by_cases hiE : i = EK
        · have hiI : ((i : Int) == (EK : Int)) = true := by simp; omega
          have hiN : (i == EK) = true := by simp; omega
          have hiD : decide ((i : Int) = EK) = true := by simp; omega
          have HIE := Lib.hid hiE
          clear hiE
          go_wp2_with fail
          refine (wakes27_any _).mono ?_
          rintro e w9 ⟨rfl, hc9⟩
          go_wp2
          go_ret
          exact ⟨rfl, bt hb6 hc9⟩
        · have hiI : ((i : Int) == (EK : Int)) = false := by simp; omega
          have hiN : (i == EK) = false := by simp; omega
          have hiD : decide ((i : Int) = EK) = false := by simp; omega
          have hRd := unhide HTO q i _ y (by omega) (by rw [HEK.out]; omega) hiE1 HY.out hxy
          obtain ⟨P, hP⟩ : ∃ P, (rs.take q).flatten = P := ⟨_, rfl⟩
          rw [hP, HEK.out] at hRd
          have hPl : P.length ≤ 4000 := by have := told_le rs q; rw [hP] at this; omega
          have htt : pk.take P.length = P := by have := take_told rs q; rw [HFL.out, hP] at this; exact this
          have hPp : P.length ≤ pk.length := by have := told_le rs q; rw [hP, HFL.out] at this; exact this
          have hYY := readY hRd
          rw [List.length_set, decide_eq_true (by omega : EK < J.length)] at hYY
          have HYY := hide hYY
          rw [hP] at tK
          have HP := Lib.hid hP
          clear hRd hYY hP
          go_wp2_with fail
          refine (unhide HYY _ (by omega)).mono ?_
          rintro e w7 ⟨A5, c5, A6, c6, rfl, _, h7, hc⟩
          have hx8 : Below w7.heap.size w7 (w7.alloc (.cells #[.int .i64 pg, .slice A5 ps.length c5, .slice A6 P.length c6, .int .i64 EK, .bool true] 61)) := (Below.refl _ _).alloc (Nat.le_refl _) _
          have y8 := Bx.new w7 #[.int .i64 pg, .slice A5 ps.length c5, .slice A6 P.length c6, .int .i64 EK, .bool true] 61 w7.heap.size rfl
          have hbx8 := (hbx6.to hc).to hx8
          have hb8 := bt (bt hb6 hc) hx8
          have h78 := h7.to hx8
          have hb9 := hb8.drew
          have gK8 := keepcc (bt hc hx8) ((World.cell?_setCell_other w5 ⟨w3.heap.size, i, none⟩ _ (.int .u8 (v.toNat : Int)) (by intro he; injection he with he; exact hbn2 he)).trans gK)
          have tK8 := keepcc (bt hc hx8) ((World.cell?_setCell_other w5 ⟨w3.heap.size, i, none⟩ _ (.int .u8 (v.toNat : Int)) (by intro he; injection he with he; exact hbn4 he)).trans tK)
          have ya2 := y8.cell 2
          have ya3 := y8.cell 3
          have ya4 := y8.cell 4
          have sa2 := hbx8.cell 2
          have hcv2 := run_str (P := Try.prog) (w := (w7.alloc (.cells #[.int .i64 pg, .slice A5 ps.length c5, .slice A6 P.length c6, .int .i64 EK, .bool true] 61)).drew) (l := P) (h78 : Rd _ _ 1 A6 P.length (bytesV P)) _ _ _ c6 Try.underlying47 Try.underlying5 Try.underlying9
          have za2 : (w7.alloc (.cells #[.int .i64 pg, .slice A5 ps.length c5, .slice A6 P.length c6, .int .i64 EK, .bool true] 61)).drew.cell? _ = _ := ya2
          have za3 : (w7.alloc (.cells #[.int .i64 pg, .slice A5 ps.length c5, .slice A6 P.length c6, .int .i64 EK, .bool true] 61)).drew.cell? _ = _ := ya3
          have zs2 : (w7.alloc (.cells #[.int .i64 pg, .slice A5 ps.length c5, .slice A6 P.length c6, .int .i64 EK, .bool true] 61)).drew.cell? _ = _ := sa2
          have zK : (w7.alloc (.cells #[.int .i64 pg, .slice A5 ps.length c5, .slice A6 P.length c6, .int .i64 EK, .bool true] 61)).drew.cell? _ = _ := gK8
          have ztK : (w7.alloc (.cells #[.int .i64 pg, .slice A5 ps.length c5, .slice A6 P.length c6, .int .i64 EK, .bool true] 61)).drew.cell? _ = _ := tK8
          clear hc hx8 y8 hbx8 hb8 h7 h78 HYY hcv
          go_wp2
          refine wp_still_tail_drew 22 (by kernel_rfl) (by kernel_rfl) ?_
          simp only [List.take_succ_cons, List.take_zero, List.drop_succ_cons, List.drop_zero]
          repeat still_step
          refine wpStill_nil ?_
          go_wp2_with fail
          refine (wakes27_any _).mono ?_
          rintro e w9 ⟨rfl, hc9⟩
          go_wp2
          go_ret
          exact ⟨rfl, bt hb9 hc9⟩
      · have hq2 : ¬ (q : Int) + 2 < (rs.length : Int) + 1 := by omega
        have hq3 : ¬ q + 2 < rs.length + 1 := by omega
        by_cases hiE : i = EK
        · have hiI : ((i : Int) == (EK : Int)) = true := by simp; omega
          have hiN : (i == EK) = true := by simp; omega
          have hiD : decide ((i : Int) = EK) = true := by simp; omega
          have HIE := Lib.hid hiE
          clear hiE
          go_wp2_with fail
          refine (wakes27_any _).mono ?_
          rintro e w9 ⟨rfl, hc9⟩
          go_wp2
          go_ret
          exact ⟨rfl, bt hb6 hc9⟩
        · have hiI : ((i : Int) == (EK : Int)) = false := by simp; omega
          have hiN : (i == EK) = false := by simp; omega
          have hiD : decide ((i : Int) = EK) = false := by simp; omega
          have hRd := unhide HTO q i _ y (by omega) (by rw [HEK.out]; omega) hiE1 HY.out hxy
          obtain ⟨P, hP⟩ : ∃ P, (rs.take q).flatten = P := ⟨_, rfl⟩
          rw [hP, HEK.out] at hRd
          have hPl : P.length ≤ 4000 := by have := told_le rs q; rw [hP] at this; omega
          have htt : pk.take P.length = P := by have := take_told rs q; rw [HFL.out, hP] at this; exact this
          have hPp : P.length ≤ pk.length := by have := told_le rs q; rw [hP, HFL.out] at this; exact this
          have hYY := readY hRd
          rw [List.length_set, decide_eq_true (by omega : EK < J.length)] at hYY
          have HYY := hide hYY
          rw [hP] at tK
          have HP := Lib.hid hP
          clear hRd hYY hP
          go_wp2_with fail
          refine (unhide HYY _ (by omega)).mono ?_
          rintro e w7 ⟨A5, c5, A6, c6, rfl, _, h7, hc⟩
          have hx8 : Below w7.heap.size w7 (w7.alloc (.cells #[.int .i64 pg, .slice A5 ps.length c5, .slice A6 P.length c6, .int .i64 EK, .bool true] 61)) := (Below.refl _ _).alloc (Nat.le_refl _) _
          have y8 := Bx.new w7 #[.int .i64 pg, .slice A5 ps.length c5, .slice A6 P.length c6, .int .i64 EK, .bool true] 61 w7.heap.size rfl
          have hbx8 := (hbx6.to hc).to hx8
          have hb8 := bt (bt hb6 hc) hx8
          have h78 := h7.to hx8
          have hb9 := hb8.drew
          have gK8 := keepcc (bt hc hx8) ((World.cell?_setCell_other w5 ⟨w3.heap.size, i, none⟩ _ (.int .u8 (v.toNat : Int)) (by intro he; injection he with he; exact hbn2 he)).trans gK)
          have tK8 := keepcc (bt hc hx8) ((World.cell?_setCell_other w5 ⟨w3.heap.size, i, none⟩ _ (.int .u8 (v.toNat : Int)) (by intro he; injection he with he; exact hbn4 he)).trans tK)
          have ya2 := y8.cell 2
          have ya3 := y8.cell 3
          have ya4 := y8.cell 4
          have sa2 := hbx8.cell 2
          have hcv2 := run_str (P := Try.prog) (w := (w7.alloc (.cells #[.int .i64 pg, .slice A5 ps.length c5, .slice A6 P.length c6, .int .i64 EK, .bool true] 61)).drew) (l := P) (h78 : Rd _ _ 1 A6 P.length (bytesV P)) _ _ _ c6 Try.underlying47 Try.underlying5 Try.underlying9
          have za2 : (w7.alloc (.cells #[.int .i64 pg, .slice A5 ps.length c5, .slice A6 P.length c6, .int .i64 EK, .bool true] 61)).drew.cell? _ = _ := ya2
          have za3 : (w7.alloc (.cells #[.int .i64 pg, .slice A5 ps.length c5, .slice A6 P.length c6, .int .i64 EK, .bool true] 61)).drew.cell? _ = _ := ya3
          have zs2 : (w7.alloc (.cells #[.int .i64 pg, .slice A5 ps.length c5, .slice A6 P.length c6, .int .i64 EK, .bool true] 61)).drew.cell? _ = _ := sa2
          have zK : (w7.alloc (.cells #[.int .i64 pg, .slice A5 ps.length c5, .slice A6 P.length c6, .int .i64 EK, .bool true] 61)).drew.cell? _ = _ := gK8
          have ztK : (w7.alloc (.cells #[.int .i64 pg, .slice A5 ps.length c5, .slice A6 P.length c6, .int .i64 EK, .bool true] 61)).drew.cell? _ = _ := tK8
          clear hc hx8 y8 hbx8 hb8 h7 h78 HYY hcv
          go_wp2
          refine wp_still_tail_drew 22 (by kernel_rfl) (by kernel_rfl) ?_
          simp only [List.take_succ_cons, List.take_zero, List.drop_succ_cons, List.drop_zero]
          repeat still_step
          refine wpStill_nil ?_
          go_wp2_with fail
          refine (wakes27_any _).mono ?_
          rintro e w9 ⟨rfl, hc9⟩
          go_wp2
          go_ret
          exact ⟨rfl, bt hb9 hc9⟩
end
end Go.Proofs.Ytnhnofiimidagaa
