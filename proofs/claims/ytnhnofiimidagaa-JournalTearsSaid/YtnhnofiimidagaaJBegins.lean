/-
  The walks of bailiwicklaw27.great and of the laws JournalBegins, JournalReads.
-/
import Derived.Test.YtnhnofiimidagaaJSame
import Derived.Test.YtnhnofiimidagaaScrTells
namespace Go.Proofs.Ytnhnofiimidagaa
open Go.RowKit

set_option maxRecDepth 100000 in
set_option maxHeartbeats 4000000 in
theorem great27_any (pg : Int) (ps : List (List UInt8)) (pk bl : List UInt8) (A : Option Addr) (n c : Nat) (w : World) (hr : Rd w w.heap.size 1 A n (ps.map strV)) :
    Calls Try.prog 30 #[rscrV pg A n c pk, .string (S bl)] w fun e w' => e = .returned (.bool (greatS ps pk || decide (6000 < bl.length))) ∧ Below w.heap.size w w' := by
  have hb0 : Below w.heap.size w (w.alloc (.cells #[.int .i64 pg, .slice A n c, .string (S pk)] 44)) := (Below.refl _ _).alloc (Nat.le_refl _) _
  have hbx0 := Bx.new w #[.int .i64 pg, .slice A n c, .string (S pk)] 44 w.heap.size rfl
  have hr0 := hr.to hb0
  have ca0 := hbx0.cell 0
  have cb0 := hbx0.cell 1
  have cc0 := hbx0.cell 2
  have hgr : ∀ w : World, Rd w w.heap.size 1 A n (ps.map strV) → _ := fun w h => great_any pg ps pk A n c w h
  simp only [rscrV] at *
  have HGR := hide hgr
  clear hgr hr
  by_cases hg : greatS ps pk = true
  · rw [hg, Bool.true_or]
    have HG := Lib.hid hg
    clear hg
    go_enter Try.func30, Try.ntmps30
    go_wp2_with fail
    refine (unhide HGR _ hr0).mono ?_
    rintro e w1 ⟨rfl, hc⟩
    rw [HG.out]
    go_wp2
    go_ret
    exact ⟨rfl, bt hb0 hc⟩
  have hg' : greatS ps pk = false := by simpa using hg
  rw [hg', Bool.false_or]
  have HG := Lib.hid hg'
  clear hg hg'
  by_cases hbl : 6000 < bl.length
  · rw [decide_eq_true hbl]
    have hdd : decide ((6000 : Int) < bl.length) = true := by simp; omega
    go_enter Try.func30, Try.ntmps30
    go_wp2_with fail
    refine (unhide HGR _ hr0).mono ?_
    rintro e w1 ⟨rfl, hc⟩
    rw [HG.out]
    go_wp2
    go_ret
    exact ⟨rfl, bt hb0 hc⟩
  · rw [decide_eq_false hbl]
    have hdd : decide ((6000 : Int) < bl.length) = false := by simp; omega
    go_enter Try.func30, Try.ntmps30
    go_wp2_with fail
    refine (unhide HGR _ hr0).mono ?_
    rintro e w1 ⟨rfl, hc⟩
    rw [HG.out]
    go_wp2
    go_ret
    exact ⟨rfl, bt hb0 hc⟩

set_option maxRecDepth 100000 in
set_option maxHeartbeats 4000000 in
theorem jbegins_any (pg : Int) (ps : List (List UInt8)) (pk bl : List UInt8) (A : Option Addr) (n c : Nat) (w : World) (hr : Rd w w.heap.size 1 A n (ps.map strV)) :
    Calls Try.prog 7 #[rscrV pg A n c pk, .string (S bl)] w fun e w' => e = .returned (.bool true) ∧ Below w.heap.size w w' := by
  have hln := hr.lenOne
  have hb0 : Below w.heap.size w (w.alloc (.cells #[.int .i64 pg, .slice A n c, .string (S pk)] 44)) := (Below.refl _ _).alloc (Nat.le_refl _) _
  have hbx0 := Bx.new w #[.int .i64 pg, .slice A n c, .string (S pk)] 44 w.heap.size rfl
  have hr0 := hr.to hb0
  have ca0 := hbx0.cell 0
  have cb0 := hbx0.cell 1
  have cc0 := hbx0.cell 2
  have hgr : ∀ w : World, Rd w w.heap.size 1 A n (ps.map strV) → _ := fun w h => great27_any pg ps pk bl A n c w h
  simp only [rscrV] at *
  have HGR := hide hgr
  clear hgr hr
  by_cases hg : (greatS ps pk || decide (6000 < bl.length)) = true
  · have HG := Lib.hid hg
    clear hg
    go_enter Try.func7, Try.ntmps7
    go_wp2_with fail
    refine (unhide HGR _ hr0).mono ?_
    rintro e w1 ⟨rfl, hc⟩
    rw [HG.out]
    go_wp2_with fail
    refine (wakes27_any w1).mono ?_
    rintro e w2 ⟨rfl, hc2⟩
    go_wp2
    go_ret
    exact ⟨rfl, bt (bt hb0 hc) hc2⟩
  have hg' : (greatS ps pk || decide (6000 < bl.length)) = false := by simpa using hg
  have hg2 := (Bool.or_eq_false_iff.1 hg').1
  have hbl : bl.length ≤ 6000 := by have := of_decide_eq_false (Bool.or_eq_false_iff.1 hg').2; omega
  obtain ⟨hp20, hk6, hp1⟩ := great_no hg2
  have HG := Lib.hid hg'
  have hle : ∀ x ∈ ps, x.length ≤ 1000000 := fun x hx => by have := hp1 x hx; omega
  have HLE := hide hle
  have hrm := fun w h => rmayS_any pg ps [] A n c w h hle
  have hrb := fun w h hm => rbegin_any pg ps [] A n c w h hm
  simp only [rscrV] at hrm hrb
  have HRM := hide hrm
  have HRB := hide hrb
  clear hg hg' hg2 hle hp1 hrm hrb
  by_cases hmay : mayS pg ps [] = true
  all_goals
    first
    | (have he1 : bgS pg ps = bgB pg ps := by unfold bgS; rw [hmay]; rfl)
    | (have hmay : mayS pg ps [] = false := by simpa using hmay
       have he1 : bgS pg ps = [] := by unfold bgS; rw [hmay]; rfl)
    first
    | (have he2 : scE pg ps [] = 0 := by unfold scE; rw [hmay]; rfl)
    | (have he2 : scE pg ps [] = 3 := by unfold scE; rw [hmay]; rfl)
    have HM := Lib.hid hmay
    have HE1 := Lib.hid he1
    have HE2 := Lib.hid he2
    clear hmay he1 he2
    go_enter Try.func7, Try.ntmps7
    go_wp2_with fail
    refine (unhide HGR _ hr0).mono ?_
    rintro e w1 ⟨rfl, hc⟩
    rw [HG.out]
    have hbx1 := hbx0.to hc
    have hr1 := hr0.to hc
    have hb1 := bt hb0 hc
    have ca1 := hbx1.cell 0
    have cb1 := hbx1.cell 1
    have cc1 := hbx1.cell 2
    clear hbx0 hr0 hb0 hc ca0 cb0 cc0
    go_wp2_with fail
    refine (sof_any pg pk A n c w1 (by omega)).mono ?_
    rintro e w2 ⟨Ao1, co1, rfl, hoo1, hc⟩
    have hbx2 := hbx1.to hc
    have hr2 := hr1.to hc
    have hb2 := bt hb1 hc
    clear hoo1 hbx1 hr1 hb1 hc ca1 cb1 cc1
    go_wp2_with fail
    refine (begin_any pg ps A Ao1 n c pk.length co1 w2 hr2 HLE.out (by omega)).mono ?_
    rintro e w3 ⟨rfl, hc⟩
    rw [HE1.out, HE2.out]
    have hbx3 := hbx2.to hc
    have hr3 := hr2.to hc
    have hb3 := bt hb2 hc
    have ca3 := hbx3.cell 0
    have cb3 := hbx3.cell 1
    have cc3 := hbx3.cell 2
    have hy1 : Below w3.heap.size w3 (w3.alloc (.cells #[.int .i64 pg, .slice A n c, .string (ByteArray.mk #[])] 44)) := (Below.refl _ _).alloc (Nat.le_refl _) _
    have hyz := (Bx.new w3 #[.int .i64 pg, .slice A n c, .string (ByteArray.mk #[])] 44 w3.heap.size rfl)
    have hyx := (Bx.new w3 #[.int .i64 pg, .slice A n c, .string (S pk)] 44 w3.heap.size rfl)
    have y2 := hyx.frozen 2
    have hb4 := bt hb3 hy1
    have hr4 := hr3.to hy1
    clear hbx2 hr2 hb2 hc hbx3 hr3 hb3 hy1 hyx
    go_wp2_with fail
    refine (sum_any bl _ (by omega)).mono ?_
    rintro e w4 ⟨rfl, rfl⟩
    go_wp2_with fail
    refine (rsum_any bl _ (by omega)).mono ?_
    rintro e w4 ⟨rfl, rfl⟩
    have z0 := hyz.cell 0
    have z1 := hyz.cell 1
    have z2 := hyz.cell 2
    go_wp2_with fail
    refine (unhide HRM _ hr4).mono ?_
    rintro e w5 ⟨rfl, hc⟩
    rw [HM.out]
    have hyw := hyz.to hc
    have hr5 := hr4.to hc
    have hb5 := bt hb4 hc
    have u0 := hyw.cell 0
    have u1 := hyw.cell 1
    have u2 := hyw.cell 2
    clear hyz hr4 hb4 hc z0 z1 z2 hyw
    go_wp2_with fail
    first
    | (refine (unhide HRB _ hr5 HM.out).mono ?_
       rintro e w6 ⟨rfl, hc⟩
       have hb6 := bt hb5 hc
       go_wp2_with fail)
    | (obtain ⟨w6, hw6⟩ : ∃ w6, w5 = w6 := ⟨_, rfl⟩
       have hb6 : Below w.heap.size w w6 := hw6 ▸ hb5
       rw [hw6])
    refine (wakes27_any w6).mono ?_
    rintro e w7 ⟨rfl, hc7⟩
    go_wp2
    go_ret
    exact ⟨rfl, bt hb6 hc7⟩

set_option maxRecDepth 100000 in
set_option maxHeartbeats 4000000 in
theorem jreads_any (j : List UInt8) (w : World) :
    Calls Try.prog 8 #[.string (S j)] w fun e w' => e = .returned (.bool true) ∧ Below w.heap.size w w' := by
  by_cases hl : 6000 < j.length
  · go_enter Try.func8, Try.ntmps8
    go_wp2_with fail
    refine (wakes27_any w).mono ?_
    rintro e w1 ⟨rfl, hc⟩
    go_wp2
    go_ret
    exact ⟨rfl, hc⟩
  have hj : j.length ≤ 1000000 := by omega
  cases h : readO j with
  | none =>
    have hR := fun w => readN h w hj
    have hS := fun A A2 c c2 w => same27_no h A A2 c c2 w hj
    have HR := hide hR
    have HS := hide hS
    clear hR hS h
    go_enter Try.func8, Try.ntmps8
    go_wp2_with fail
    refine (unhide HR w).mono ?_
    rintro e w1 ⟨A, c, A2, c2, rfl, hb1⟩
    have hb2 : Below w1.heap.size w1 (w1.alloc (.cells #[.int .i64 0, .slice A 0 c, .slice A2 0 c2, .int .i64 0, .bool false] 61)) := (Below.refl _ _).alloc (Nat.le_refl _) _
    have hb3 := bt hb1 hb2
    have hx := Bx.new w1 #[.int .i64 0, .slice A 0 c, .slice A2 0 c2, .int .i64 0, .bool false] 61 w1.heap.size rfl
    have x0 := hx.cell 0
    have x1 := hx.cell 1
    have x2 := hx.cell 2
    have x3 := hx.cell 3
    have x4 := hx.cell 4
    clear hb1 hb2
    go_wp2_with fail
    refine (unhide HS A A2 c c2 _).mono ?_
    rintro e w2 ⟨rfl, hc⟩
    go_wp2_with fail
    refine (wakes27_any w2).mono ?_
    rintro e w3 ⟨rfl, hc2⟩
    go_wp2
    go_ret
    exact ⟨rfl, bt (bt hb3 hc) hc2⟩
  | some q =>
    obtain ⟨⟨pg, ps, pk⟩, b⟩ := q
    have hn2 : ps.length ≤ 140737488355328 := readO_ps h
    have hR := fun w => readY h w hj
    have hS := fun A A2 c c2 w => same27_yes h A A2 ps.length pk.length c c2 w hj rfl hn2
    have HR := hide hR
    have HS := hide hS
    clear hR hS h
    go_enter Try.func8, Try.ntmps8
    go_wp2_with fail
    refine (unhide HR w).mono ?_
    rintro e w1 ⟨A, c, A2, c2, rfl, h1, h2, hb1⟩
    obtain ⟨t, ht⟩ : ∃ t, decide (b < j.length) = t := ⟨_, rfl⟩
    rw [ht] at HS ⊢
    have HT := Lib.hid ht
    have hb2 : Below w1.heap.size w1 (w1.alloc (.cells #[.int .i64 pg, .slice A ps.length c, .slice A2 pk.length c2, .int .i64 b, .bool t] 61)) := (Below.refl _ _).alloc (Nat.le_refl _) _
    have hb3 := bt hb1 hb2
    have hx := Bx.new w1 #[.int .i64 pg, .slice A ps.length c, .slice A2 pk.length c2, .int .i64 b, .bool t] 61 w1.heap.size rfl
    have r1 := h1.to hb2
    have r2 := h2.to hb2
    have x0 := hx.cell 0
    have x1 := hx.cell 1
    have x2 := hx.cell 2
    have x3 := hx.cell 3
    have x4 := hx.cell 4
    clear hb1 hb2 h1 h2 ht
    go_wp2_with fail
    refine (unhide HS A A2 c c2 _ r1 r2).mono ?_
    rintro e w2 ⟨rfl, hc⟩
    go_wp2_with fail
    refine (wakes27_any w2).mono ?_
    rintro e w3 ⟨rfl, hc2⟩
    go_wp2
    go_ret
    exact ⟨rfl, bt (bt hb3 hc) hc2⟩
end Go.Proofs.Ytnhnofiimidagaa
