/-
  The walks of the two laws of layer 18.
-/
import Derived.Test.YtnhnofiimidagaaScrWakes
namespace Go.Proofs.Ytnhnofiimidagaa
open Go.RowKit

theorem great_no {ps : List (List UInt8)} {pk : List UInt8} (h : greatS ps pk = false) : ps.length ≤ 20 ∧ pk.length ≤ 6000 ∧ ∀ p ∈ ps, p.length ≤ 1000 := by
  unfold greatS at h
  rw [Bool.or_eq_false_iff] at h
  obtain ⟨h1, h2⟩ := h
  have h1 := of_decide_eq_false h1
  refine ⟨by omega, by omega, fun p hp => ?_⟩
  rw [List.any_eq_false] at h2
  have := h2 p hp
  simp at this
  exact this

set_option maxRecDepth 100000 in
set_option maxHeartbeats 4000000 in
theorem stells_any (pg : Int) (ps : List (List UInt8)) (pk bl : List UInt8) (A : Option Addr) (n c : Nat) (w : World) (hr : Rd w w.heap.size 1 A n (ps.map strV)) :
    Calls Try.prog 5 #[rscrV pg A n c pk, .string (S bl)] w fun e w' => e = .returned (.bool true) ∧ Below w.heap.size w w' := by
  have hln := hr.lenOne
  have hb0 : Below w.heap.size w (w.alloc (.cells #[.int .i64 pg, .slice A n c, .string (S pk)] 44)) := (Below.refl _ _).alloc (Nat.le_refl _) _
  have hbx0 := Bx.new w #[.int .i64 pg, .slice A n c, .string (S pk)] 44 w.heap.size rfl
  have hr0 := hr.to hb0
  have ca0 := hbx0.cell 0
  have cb0 := hbx0.cell 1
  have cc0 := hbx0.cell 2
  have hgr : ∀ w : World, Rd w w.heap.size 1 A n (ps.map strV) → _ := fun w h => great_any pg ps pk A n c w h
  simp only [rscrV] at *
  have HGR := hide hgr
  clear hgr hr
  by_cases hg : greatS ps pk = true
  · have HG := Lib.hid hg
    clear hg
    go_enter Try.func5, Try.ntmps5
    go_wp2_with fail
    refine (unhide HGR _ hr0).mono ?_
    rintro e w1 ⟨rfl, hc⟩
    rw [HG.out]
    have hbx1 := hbx0.to hc
    have hr1 := hr0.to hc
    have hb1 := bt hb0 hc
    have ca1 := hbx1.cell 0
    have cb1 := hbx1.cell 1
    have cc1 := hbx1.cell 2
    clear hbx0 hr0 hb0 hc ca0 cb0 cc0
    go_wp2_with fail
    refine (wakes18_any w1).mono ?_
    rintro e w2 ⟨rfl, hc⟩
    go_wp2
    go_ret
    exact ⟨rfl, bt hb1 hc⟩
  have hg' : greatS ps pk = false := by simpa using hg
  obtain ⟨hp20, hk6, hp1⟩ := great_no hg'
  have HG := Lib.hid hg'
  have hle : ∀ x ∈ ps, x.length ≤ 1000000 := fun x hx => by have := hp1 x hx; omega
  have HLE := hide hle
  clear hg hg' hle hp1
  by_cases hbl : 8000 < bl.length
  · go_enter Try.func5, Try.ntmps5
    go_wp2_with fail
    refine (unhide HGR _ hr0).mono ?_
    rintro e w1 ⟨rfl, hc⟩
    rw [HG.out]
    have hbx1 := hbx0.to hc
    have hr1 := hr0.to hc
    have hb1 := bt hb0 hc
    have ca1 := hbx1.cell 0
    have cb1 := hbx1.cell 1
    have cc1 := hbx1.cell 2
    clear hbx0 hr0 hb0 hc ca0 cb0 cc0
    go_wp2_with fail
    refine (wakes18_any w1).mono ?_
    rintro e w2 ⟨rfl, hc⟩
    go_wp2
    go_ret
    exact ⟨rfl, bt hb1 hc⟩
  by_cases hmay : mayS pg ps pk = true
  obtain ⟨⟨g1, g2⟩, ⟨g3, g4⟩, g5, hps, _⟩ := mayS_iff hmay
  rw [hln] at g3 g4
  have hpl : ∀ p ∈ ps, p.length ≤ 384 := fun p hp => decOk_len (hps p hp)
  have HM := Lib.hid hmay
  have HPL := hide hpl
  have he1 : scS pg ps pk = scB pg ps pk := by unfold scS; rw [hmay]; rfl
  have he2 : scE pg ps pk = 0 := by unfold scE; rw [hmay]; rfl
  have HE1 := Lib.hid he1
  have HE2 := Lib.hid he2
  clear hmay hps hpl he1 he2
  go_enter Try.func5, Try.ntmps5
  go_wp2_with fail
  refine (unhide HGR _ hr0).mono ?_
  rintro e w1 ⟨rfl, hc⟩
  rw [HG.out]
  have hbx1 := hbx0.to hc
  have hr1 := hr0.to hc
  have hb1 := bt hb0 hc
  have ca1 := hbx1.cell 0
  have cb1 := hbx1.cell 1
  have cc1 := hbx1.cell 2
  clear hbx0 hr0 hb0 hc ca0 cb0 cc0
  go_wp2_with fail
  refine (sof_any pg pk A n c w1 (by omega)).mono ?_
  rintro e w2 ⟨Ao1, co1, rfl, hoo1, hc⟩
  have ho1 := hoo1.rd
  clear hoo1
  have hbx2 := hbx1.to hc
  have hr2 := hr1.to hc
  have hb2 := bt hb1 hc
  have ca2 := hbx2.cell 0
  have cb2 := hbx2.cell 1
  have cc2 := hbx2.cell 2
  clear hbx1 hr1 hb1 hc ca1 cb1 cc1
  go_wp2_with fail
  refine (scrEnc_any pg ps pk A Ao1 n c pk.length co1 w2 hr2 ho1 HLE.out (by omega) (by omega)).mono ?_
  rintro e w3 ⟨rfl, hc⟩
  rw [HE1.out, HE2.out]
  clear ho1
  have hbx3 := hbx2.to hc
  have hr3 := hr2.to hc
  have hb3 := bt hb2 hc
  have ca3 := hbx3.cell 0
  have cb3 := hbx3.cell 1
  have cc3 := hbx3.cell 2
  clear hbx2 hr2 hb2 hc ca2 cb2 cc2
  go_wp2_with fail
  refine (rmayS_any pg ps pk A n c w3 hr3 HLE.out).mono ?_
  rintro e w4 ⟨rfl, hc⟩
  rw [HM.out]
  have hbx4 := hbx3.to hc
  have hr4 := hr3.to hc
  have hb4 := bt hb3 hc
  have ca4 := hbx4.cell 0
  have cb4 := hbx4.cell 1
  have cc4 := hbx4.cell 2
  clear hbx3 hr3 hb3 hc ca3 cb3 cc3
  go_wp2_with fail
  refine (sof_any pg pk A n c w4 (by omega)).mono ?_
  rintro e w5 ⟨Ao4, co4, rfl, hoo4, hc⟩
  have ho4 := hoo4.rd
  clear hoo4
  have hbx5 := hbx4.to hc
  have hr5 := hr4.to hc
  have hb5 := bt hb4 hc
  have ca5 := hbx5.cell 0
  have cb5 := hbx5.cell 1
  have cc5 := hbx5.cell 2
  clear hbx4 hr4 hb4 hc ca4 cb4 cc4
  go_wp2_with fail
  refine (scrMay_any pg ps pk A Ao4 n c pk.length co4 w5 hr5 ho4 HLE.out (by omega) (by omega)).mono ?_
  rintro e w6 ⟨rfl, hc⟩
  rw [HM.out]
  clear ho4
  have hbx6 := hbx5.to hc
  have hr6 := hr5.to hc
  have hb6 := bt hb5 hc
  have ca6 := hbx6.cell 0
  have cb6 := hbx6.cell 1
  have cc6 := hbx6.cell 2
  clear hbx5 hr5 hb5 hc ca5 cb5 cc5
  go_wp2_with fail
  refine (rbytesS_any pg ps pk A n c w6 hr6 HPL.out ⟨g1, g2⟩ ⟨g3, g4⟩ g5).mono ?_
  rintro e w7 ⟨rfl, hc⟩
  have hbx7 := hbx6.to hc
  have hr7 := hr6.to hc
  have hb7 := bt hb6 hc
  have ca7 := hbx7.cell 0
  have cb7 := hbx7.cell 1
  have cc7 := hbx7.cell 2
  clear hbx6 hr6 hb6 hc ca6 cb6 cc6
  go_wp2_with fail
  rotate_left
  have hm' : mayS pg ps pk = false := by simpa using hmay
  have he1 : scS pg ps pk = [] := by unfold scS; rw [hm']; rfl
  have he2 : scE pg ps pk = 3 := by unfold scE; rw [hm']; rfl
  have HM := Lib.hid hm'
  have HE1 := Lib.hid he1
  have HE2 := Lib.hid he2
  clear hmay hm' he1 he2
  go_enter Try.func5, Try.ntmps5
  go_wp2_with fail
  refine (unhide HGR _ hr0).mono ?_
  rintro e w2 ⟨rfl, hc⟩
  rw [HG.out]
  have hbx2 := hbx0.to hc
  have hr2 := hr0.to hc
  have hb2 := bt hb0 hc
  have ca2 := hbx2.cell 0
  have cb2 := hbx2.cell 1
  have cc2 := hbx2.cell 2
  clear hbx0 hr0 hb0 hc ca0 cb0 cc0
  go_wp2_with fail
  refine (sof_any pg pk A n c w2 (by omega)).mono ?_
  rintro e w3 ⟨Ao2, co2, rfl, hoo2, hc⟩
  have ho2 := hoo2.rd
  clear hoo2
  have hbx3 := hbx2.to hc
  have hr3 := hr2.to hc
  have hb3 := bt hb2 hc
  have ca3 := hbx3.cell 0
  have cb3 := hbx3.cell 1
  have cc3 := hbx3.cell 2
  clear hbx2 hr2 hb2 hc ca2 cb2 cc2
  go_wp2_with fail
  refine (scrEnc_any pg ps pk A Ao2 n c pk.length co2 w3 hr3 ho2 HLE.out (by omega) (by omega)).mono ?_
  rintro e w4 ⟨rfl, hc⟩
  rw [HE1.out, HE2.out]
  clear ho2
  have hbx4 := hbx3.to hc
  have hr4 := hr3.to hc
  have hb4 := bt hb3 hc
  have ca4 := hbx4.cell 0
  have cb4 := hbx4.cell 1
  have cc4 := hbx4.cell 2
  clear hbx3 hr3 hb3 hc ca3 cb3 cc3
  go_wp2_with fail
  refine (rmayS_any pg ps pk A n c w4 hr4 HLE.out).mono ?_
  rintro e w5 ⟨rfl, hc⟩
  rw [HM.out]
  have hbx5 := hbx4.to hc
  have hr5 := hr4.to hc
  have hb5 := bt hb4 hc
  have ca5 := hbx5.cell 0
  have cb5 := hbx5.cell 1
  have cc5 := hbx5.cell 2
  clear hbx4 hr4 hb4 hc ca4 cb4 cc4
  go_wp2_with fail
  refine (sof_any pg pk A n c w5 (by omega)).mono ?_
  rintro e w6 ⟨Ao5, co5, rfl, hoo5, hc⟩
  have ho5 := hoo5.rd
  clear hoo5
  have hbx6 := hbx5.to hc
  have hr6 := hr5.to hc
  have hb6 := bt hb5 hc
  have ca6 := hbx6.cell 0
  have cb6 := hbx6.cell 1
  have cc6 := hbx6.cell 2
  clear hbx5 hr5 hb5 hc ca5 cb5 cc5
  go_wp2_with fail
  refine (scrMay_any pg ps pk A Ao5 n c pk.length co5 w6 hr6 ho5 HLE.out (by omega) (by omega)).mono ?_
  rintro e w7 ⟨rfl, hc⟩
  rw [HM.out]
  clear ho5
  have hbx7 := hbx6.to hc
  have hr7 := hr6.to hc
  have hb7 := bt hb6 hc
  have ca7 := hbx7.cell 0
  have cb7 := hbx7.cell 1
  have cc7 := hbx7.cell 2
  clear hbx6 hr6 hb6 hc ca6 cb6 cc6
  go_wp2_with fail
  all_goals
    clear hr7 hbx7 ca7 cb7 cc7 HGR HLE
    cases hd : scO bl with
    | none =>
      refine (scrDec_no hd w7 (by omega)).mono ?_
      rintro e w8 ⟨A8, c8, A9, c9, rfl, hc8⟩
      have hb8 := bt hb7 hc8
      have hcy : Below w8.heap.size w8 (w8.alloc (.cells #[.int .i64 0, .slice A8 0 c8, .slice A9 0 c9] 49)) := (Below.refl _ _).alloc (Nat.le_refl _) _
      have hy8 := Bx.new w8 #[.int .i64 0, .slice A8 0 c8, .slice A9 0 c9] 49 w8.heap.size rfl
      have hb9 := bt hb8 hcy
      clear hb7 hc8 hb8 hcy
      go_wp2_with fail
      refine (rscDec_no hd _ (by omega)).mono ?_
      rintro e w10 ⟨A10, c10, rfl, hc10⟩
      have hy10 := hy8.to hc10
      have hb10 := bt hb9 hc10
      have hcz : Below w10.heap.size w10 (w10.alloc (.cells #[.int .i64 0, .slice A10 0 c10, .string (S [])] 44)) := (Below.refl _ _).alloc (Nat.le_refl _) _
      have hy11 := hy10.to hcz
      have hb11 := bt hb10 hcz
      have d0 := hy11.cell 0
      have d1 := hy11.cell 1
      clear hy8 hb9 hc10 hy10 hb10 hcz hy11
      go_wp2_with fail
      refine (wakes18_any _).mono ?_
      rintro e w12 ⟨rfl, hc12⟩
      go_wp2
      go_ret
      exact ⟨rfl, bt hb11 hc12⟩
    | some q =>
      obtain ⟨pg', ps', pk'⟩ := q
      have h8 : ps'.length ≤ 8 := (mayS_iff (scB_scO hd).1).2.1.2
      refine (scrDec_yes hd w7 (by omega)).mono ?_
      rintro e w8 ⟨A8, c8, A9, c9, rfl, hp8, hk8, hc8⟩
      have hb8 := bt hb7 hc8
      have hcy : Below w8.heap.size w8 (w8.alloc (.cells #[.int .i64 pg', .slice A8 ps'.length c8, .slice A9 pk'.length c9] 49)) := (Below.refl _ _).alloc (Nat.le_refl _) _
      have hy8 := Bx.new w8 #[.int .i64 pg', .slice A8 ps'.length c8, .slice A9 pk'.length c9] 49 w8.heap.size rfl
      have hb9 := bt hb8 hcy
      have hp9 := hp8.to hcy
      have hk9 := hk8.to hcy
      clear hb7 hc8 hb8 hcy hp8 hk8
      go_wp2_with fail
      refine (rscDec_yes hd _ (by omega)).mono ?_
      rintro e w10 ⟨A10, c10, rfl, hz10, hc10⟩
      have hy10 := hy8.to hc10
      have hp10 := hp9.to hc10
      have hk10 := hk9.to hc10
      have hb10 := bt hb9 hc10
      have hcz : Below w10.heap.size w10 (w10.alloc (.cells #[.int .i64 pg', .slice A10 ps'.length c10, .string (S pk')] 44)) := (Below.refl _ _).alloc (Nat.le_refl _) _
      have hzb := Bx.new w10 #[.int .i64 pg', .slice A10 ps'.length c10, .string (S pk')] 44 w10.heap.size rfl
      have hy11 := hy10.to hcz
      have hp11 := hp10.to hcz
      have hk11 := hk10.to hcz
      have hz11 := hz10.to hcz
      have hb11 := bt hb10 hcz
      have d0 := hy11.cell 0
      have d1 := hy11.cell 1
      have d2 := hy11.cell 2
      have f0 := hzb.cell 0
      have f1 := hzb.cell 1
      have f2 := hzb.cell 2
      have hsm := fun w hr hr2 hr3 => same_any pg' ps' pk' A8 A9 A10 ps'.length c8 pk'.length c9 c10 w hr hr2 hr3 (by omega)
      simp only [scrV, rscrV] at hsm
      have HSM := hide hsm
      clear hy8 hb9 hc10 hy10 hb10 hcz hy11 hp9 hk9 hp10 hk10 hz10 hzb hsm
      go_wp2_with fail
      refine (unhide HSM _ hp11 hk11 hz11).mono ?_
      rintro e w12 ⟨rfl, hc12⟩
      have hb12 := bt hb11 hc12
      clear hb11 hc12 hp11 hk11 hz11
      go_wp2_with fail
      refine (wakes18_any _).mono ?_
      rintro e w13 ⟨rfl, hc13⟩
      go_wp2
      go_ret
      exact ⟨rfl, bt hb12 hc13⟩
end Go.Proofs.Ytnhnofiimidagaa
