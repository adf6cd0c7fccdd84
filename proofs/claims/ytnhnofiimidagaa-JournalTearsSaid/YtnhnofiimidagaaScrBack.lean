/-
  The walk of bailiwicklaw18.ScriptBack.
-/
import Derived.Test.YtnhnofiimidagaaScrTells
namespace Go.Proofs.Ytnhnofiimidagaa
open Go.RowKit

theorem scP_len : ∀ ps : List (List UInt8), (∀ p ∈ ps, p.length ≤ 384) → (scP ps).length ≤ ps.length * 385
  | [], _ => by simp [scP]
  | p :: ps, h => by
    have h1 := scP_len ps (fun x hx => h x (List.mem_cons_of_mem _ hx))
    have h2 := h p (List.mem_cons_self ..)
    have e : scP (p :: ps) = by8 ((p.length : Int) / 6) :: (p ++ scP ps) := by simp [scP]
    rw [e, List.length_cons, List.length_append, List.length_cons]
    omega

set_option maxRecDepth 100000 in
set_option maxHeartbeats 4000000 in
theorem sback_any (pg : Int) (ps : List (List UInt8)) (pk bl : List UInt8) (A : Option Addr) (n c : Nat) (w : World) (hr : Rd w w.heap.size 1 A n (ps.map strV)) :
    Calls Try.prog 6 #[rscrV pg A n c pk, .string (S bl)] w fun e w' => e = .returned (.bool true) ∧ Below w.heap.size w w' := by
  have hln := hr.lenOne
  subst hln
  have hb0 : Below w.heap.size w (w.alloc (.cells #[.int .i64 pg, .slice A ps.length c, .string (S pk)] 44)) := (Below.refl _ _).alloc (Nat.le_refl _) _
  have hbx0 := Bx.new w #[.int .i64 pg, .slice A ps.length c, .string (S pk)] 44 w.heap.size rfl
  have hr0 := hr.to hb0
  have ca0 := hbx0.cell 0
  have cb0 := hbx0.cell 1
  have cc0 := hbx0.cell 2
  have hgr : ∀ w : World, Rd w w.heap.size 1 A ps.length (ps.map strV) → _ := fun w h => great_any pg ps pk A ps.length c w h
  simp only [rscrV] at *
  have HGR := hide hgr
  clear hgr hr
  by_cases hg : greatS ps pk = true
  · have HG := Lib.hid hg
    clear hg
    go_enter Try.func6, Try.ntmps6
    go_wp2_with fail
    refine (unhide HGR _ hr0).mono ?_
    rintro e w1 ⟨rfl, hc⟩
    rw [HG.out]
    have hbx1 := hbx0.to hc
    have hr1 := hr0.to hc
    have hb1 := bt hb0 hc
    have ca1 := hbx1.cell 0
    have cb1 := hbx1.cell 1
    have cc1 := hbx1.cell 2
    clear hbx0 hr0 hb0 hc ca0 cb0 cc0
    go_wp2_with fail
    refine (wakes18_any w1).mono ?_
    rintro e w2 ⟨rfl, hc⟩
    go_wp2
    go_ret
    exact ⟨rfl, bt hb1 hc⟩
  have hg' : greatS ps pk = false := by simpa using hg
  obtain ⟨hp20, hk6, hp1⟩ := great_no hg'
  have HG := Lib.hid hg'
  have hle : ∀ x ∈ ps, x.length ≤ 1000000 := fun x hx => by have := hp1 x hx; omega
  have HLE := hide hle
  clear hg hg' hle hp1
  by_cases hbl : 8000 < bl.length
  · go_enter Try.func6, Try.ntmps6
    go_wp2_with fail
    refine (unhide HGR _ hr0).mono ?_
    rintro e w1 ⟨rfl, hc⟩
    rw [HG.out]
    have hbx1 := hbx0.to hc
    have hr1 := hr0.to hc
    have hb1 := bt hb0 hc
    have ca1 := hbx1.cell 0
    have cb1 := hbx1.cell 1
    have cc1 := hbx1.cell 2
    clear hbx0 hr0 hb0 hc ca0 cb0 cc0
    go_wp2_with fail
    refine (wakes18_any w1).mono ?_
    rintro e w2 ⟨rfl, hc⟩
    go_wp2
    go_ret
    exact ⟨rfl, bt hb1 hc⟩
  by_cases hmay : mayS pg ps pk = true
  obtain ⟨⟨g1, g2⟩, ⟨g3, g4⟩, g5, hps, _⟩ := mayS_iff hmay
  have hpl : ∀ p ∈ ps, p.length ≤ 384 := fun p hp => decOk_len (hps p hp)
  have hsl := scP_len ps hpl
  have hbl0 : (scB pg ps pk).length ≤ 1000000 := by simp only [scB, List.length_cons, List.length_append]; omega
  have hso := scO_scB hmay
  have HSO := Lib.hid hso
  have HM := Lib.hid hmay
  have he1 : scS pg ps pk = scB pg ps pk := by unfold scS; rw [hmay]; rfl
  have he2 : scE pg ps pk = 0 := by unfold scE; rw [hmay]; rfl
  have HE1 := Lib.hid he1
  have HE2 := Lib.hid he2
  clear hmay hps hpl he1 he2 hso hsl
  go_enter Try.func6, Try.ntmps6
  go_wp2_with fail
  refine (unhide HGR _ hr0).mono ?_
  rintro e w1 ⟨rfl, hc⟩
  rw [HG.out]
  have hbx1 := hbx0.to hc
  have hr1 := hr0.to hc
  have hb1 := bt hb0 hc
  have ca1 := hbx1.cell 0
  have cb1 := hbx1.cell 1
  have cc1 := hbx1.cell 2
  clear hbx0 hr0 hb0 hc ca0 cb0 cc0
  go_wp2_with fail
  refine (sof_any pg pk A ps.length c w1 (by omega)).mono ?_
  rintro e w2 ⟨Ao1, co1, rfl, hoo1, hc⟩
  have ho1 := hoo1.rd
  clear hoo1
  have hbx2 := hbx1.to hc
  have hr2 := hr1.to hc
  have hb2 := bt hb1 hc
  have ca2 := hbx2.cell 0
  have cb2 := hbx2.cell 1
  have cc2 := hbx2.cell 2
  clear hbx1 hr1 hb1 hc ca1 cb1 cc1
  go_wp2_with fail
  refine (scrEnc_any pg ps pk A Ao1 ps.length c pk.length co1 w2 hr2 ho1 HLE.out (by omega) (by omega)).mono ?_
  rintro e w3 ⟨rfl, hc⟩
  rw [HE1.out, HE2.out]
  clear ho1
  have hbx3 := hbx2.to hc
  have hr3 := hr2.to hc
  have hb3 := bt hb2 hc
  have ca3 := hbx3.cell 0
  have cb3 := hbx3.cell 1
  have cc3 := hbx3.cell 2
  clear hbx2 hr2 hb2 hc ca2 cb2 cc2
  go_wp2_with fail
  refine (sof_any pg pk A ps.length c w3 (by omega)).mono ?_
  rintro e w4 ⟨Ao3, co3, rfl, hoo3, hc⟩
  have ho3 := hoo3.rd
  clear hoo3
  have hbx4 := hbx3.to hc
  have hr4 := hr3.to hc
  have hb4 := bt hb3 hc
  have ca4 := hbx4.cell 0
  have cb4 := hbx4.cell 1
  have cc4 := hbx4.cell 2
  clear hbx3 hr3 hb3 hc ca3 cb3 cc3
  go_wp2_with fail
  refine (scrMay_any pg ps pk A Ao3 ps.length c pk.length co3 w4 hr4 ho3 HLE.out (by omega) (by omega)).mono ?_
  rintro e w5 ⟨rfl, hc⟩
  rw [HM.out]
  clear ho3
  have hbx5 := hbx4.to hc
  have hr5 := hr4.to hc
  have hb5 := bt hb4 hc
  have ca5 := hbx5.cell 0
  have cb5 := hbx5.cell 1
  have cc5 := hbx5.cell 2
  clear hbx4 hr4 hb4 hc ca4 cb4 cc4
  go_wp2_with fail
  refine (scrDec_yes HSO.out w5 hbl0).mono ?_
  rintro e w6 ⟨A8, c8, A9, c9, rfl, hp6, hk6', hc⟩
  have hbx6 := hbx5.to hc
  have hr6 := hr5.to hc
  have hb6 := bt hb5 hc
  have hcy : Below w6.heap.size w6 (w6.alloc (.cells #[.int .i64 pg, .slice A8 ps.length c8, .slice A9 pk.length c9] 49)) := (Below.refl _ _).alloc (Nat.le_refl _) _
  have hyb := Bx.new w6 #[.int .i64 pg, .slice A8 ps.length c8, .slice A9 pk.length c9] 49 w6.heap.size rfl
  have hbx6' := hbx6.to hcy
  have hr6' := hr6.to hcy
  have hp6' := hp6.to hcy
  have hk6'' := hk6'.to hcy
  have hb6' := bt hb6 hcy
  have ya := hyb.cell 0
  have yb := hyb.cell 1
  have yc := hyb.cell 2
  have xa := hbx6'.cell 0
  have xb := hbx6'.cell 1
  have xc := hbx6'.cell 2
  have hsm := fun w hr hr2 hr3 => same_any pg ps pk A8 A9 A ps.length c8 pk.length c9 c w hr hr2 hr3 (by omega)
  simp only [scrV, rscrV] at hsm
  have HSM := hide hsm
  clear hbx5 hr5 hb5 hc ca5 cb5 cc5 hbx6 hr6 hp6 hk6' hb6 hcy hyb hsm hbx6'
  go_wp2_with fail
  refine (unhide HSM _ hp6' hk6'' hr6').mono ?_
  rintro e w7 ⟨rfl, hc⟩
  have hb7 := bt hb6' hc
  clear hb6' hc hp6' hk6'' hr6' ya yb yc xa xb xc HSM
  go_wp2_with fail
  rotate_left
  have hm' : mayS pg ps pk = false := by simpa using hmay
  have he1 : scS pg ps pk = [] := by unfold scS; rw [hm']; rfl
  have he2 : scE pg ps pk = 3 := by unfold scE; rw [hm']; rfl
  have HM := Lib.hid hm'
  have HE1 := Lib.hid he1
  have HE2 := Lib.hid he2
  clear hmay hm' he1 he2
  go_enter Try.func6, Try.ntmps6
  go_wp2_with fail
  refine (unhide HGR _ hr0).mono ?_
  rintro e w3 ⟨rfl, hc⟩
  rw [HG.out]
  have hbx3 := hbx0.to hc
  have hr3 := hr0.to hc
  have hb3 := bt hb0 hc
  have ca3 := hbx3.cell 0
  have cb3 := hbx3.cell 1
  have cc3 := hbx3.cell 2
  clear hbx0 hr0 hb0 hc ca0 cb0 cc0
  go_wp2_with fail
  refine (sof_any pg pk A ps.length c w3 (by omega)).mono ?_
  rintro e w4 ⟨Ao3, co3, rfl, hoo3, hc⟩
  have ho3 := hoo3.rd
  clear hoo3
  have hbx4 := hbx3.to hc
  have hr4 := hr3.to hc
  have hb4 := bt hb3 hc
  have ca4 := hbx4.cell 0
  have cb4 := hbx4.cell 1
  have cc4 := hbx4.cell 2
  clear hbx3 hr3 hb3 hc ca3 cb3 cc3
  go_wp2_with fail
  refine (scrEnc_any pg ps pk A Ao3 ps.length c pk.length co3 w4 hr4 ho3 HLE.out (by omega) (by omega)).mono ?_
  rintro e w5 ⟨rfl, hc⟩
  rw [HE1.out, HE2.out]
  clear ho3
  have hbx5 := hbx4.to hc
  have hr5 := hr4.to hc
  have hb5 := bt hb4 hc
  have ca5 := hbx5.cell 0
  have cb5 := hbx5.cell 1
  have cc5 := hbx5.cell 2
  clear hbx4 hr4 hb4 hc ca4 cb4 cc4
  go_wp2_with fail
  refine (sof_any pg pk A ps.length c w5 (by omega)).mono ?_
  rintro e w6 ⟨Ao5, co5, rfl, hoo5, hc⟩
  have ho5 := hoo5.rd
  clear hoo5
  have hbx6 := hbx5.to hc
  have hr6 := hr5.to hc
  have hb6 := bt hb5 hc
  have ca6 := hbx6.cell 0
  have cb6 := hbx6.cell 1
  have cc6 := hbx6.cell 2
  clear hbx5 hr5 hb5 hc ca5 cb5 cc5
  go_wp2_with fail
  refine (scrMay_any pg ps pk A Ao5 ps.length c pk.length co5 w6 hr6 ho5 HLE.out (by omega) (by omega)).mono ?_
  rintro e w7 ⟨rfl, hc⟩
  rw [HM.out]
  clear ho5
  have hbx7 := hbx6.to hc
  have hr7 := hr6.to hc
  have hb7 := bt hb6 hc
  have ca7 := hbx7.cell 0
  have cb7 := hbx7.cell 1
  have cc7 := hbx7.cell 2
  clear hbx6 hr6 hb6 hc ca6 cb6 cc6
  clear hbx7 hr7 ca7 cb7 cc7
  go_wp2_with fail
  all_goals
    clear HGR HLE
    cases hd : scO bl with
    | none =>
      refine (scrDec_no hd w7 (by omega)).mono ?_
      rintro e w8 ⟨A8, c8, A9, c9, rfl, hc8⟩
      have hb8 := bt hb7 hc8
      have hcy : Below w8.heap.size w8 (w8.alloc (.cells #[.int .i64 0, .slice A8 0 c8, .slice A9 0 c9] 49)) := (Below.refl _ _).alloc (Nat.le_refl _) _
      have hb9 := bt hb8 hcy
      clear hb7 hc8 hb8 hcy
      go_wp2_with fail
      refine (wakes18_any _).mono ?_
      rintro e w12 ⟨rfl, hc12⟩
      go_wp2
      go_ret
      exact ⟨rfl, bt hb9 hc12⟩
    | some q =>
      obtain ⟨pg', ps', pk'⟩ := q
      obtain ⟨hm8, hB8⟩ := scB_scO hd
      obtain ⟨_, ⟨_, h8⟩, hk4, hps8, _⟩ := mayS_iff hm8
      have hle8 : ∀ x ∈ ps', x.length ≤ 1000000 := fun x hx => by have := decOk_len (hps8 x hx); omega
      have he1' : scS pg' ps' pk' = bl := by unfold scS; rw [hm8]; exact hB8
      have he2' : scE pg' ps' pk' = 0 := by unfold scE; rw [hm8]; rfl
      have HE1' := Lib.hid he1'
      have HE2' := Lib.hid he2'
      have HLE' := hide hle8
      refine (scrDec_yes hd w7 (by omega)).mono ?_
      rintro e w8 ⟨A8, c8, A9, c9, rfl, hp8, hk8, hc8⟩
      have hb8 := bt hb7 hc8
      have hcy : Below w8.heap.size w8 (w8.alloc (.cells #[.int .i64 pg', .slice A8 ps'.length c8, .slice A9 pk'.length c9] 49)) := (Below.refl _ _).alloc (Nat.le_refl _) _
      have hy8 := Bx.new w8 #[.int .i64 pg', .slice A8 ps'.length c8, .slice A9 pk'.length c9] 49 w8.heap.size rfl
      have hb9 := bt hb8 hcy
      have hp9 := hp8.to hcy
      have hk9 := hk8.to hcy
      have d0 := hy8.cell 0
      have d1 := hy8.cell 1
      have d2 := hy8.cell 2
      have hen := fun w hr hr2 => scrEnc_any pg' ps' pk' A8 A9 ps'.length c8 pk'.length c9 w hr hr2 HLE'.out (by omega) (by omega)
      simp only [scrV] at hen
      have HEN := hide hen
      clear hb7 hc8 hb8 hcy hp8 hk8 hm8 hB8 hps8 hle8 he1' he2' hy8 hen
      go_wp2_with fail
      refine (unhide HEN _ hp9 hk9).mono ?_
      rintro e w10 ⟨rfl, hc10⟩
      rw [HE1'.out, HE2'.out]
      have hb10 := bt hb9 hc10
      clear hb9 hc10 hp9 hk9 d0 d1 d2 HEN
      go_wp2_with fail
      refine (wakes18_any _).mono ?_
      rintro e w13 ⟨rfl, hc13⟩
      go_wp2
      go_ret
      exact ⟨rfl, bt hb10 hc13⟩
end Go.Proofs.Ytnhnofiimidagaa
