/-
  The walk of bailiwicklaw24.FlowRulers.
-/
import Derived.Test.YtmiagijgecgfoaaFRulP
namespace Go.Proofs.Ytmiagijgecgfoaa
open Go.RowKit

section
variable {l : List Ins} {A : Option Addr} {n c : Nat} {w : World}

set_option maxRecDepth 100000 in
set_option maxHeartbeats 8000000 in
theorem rulers_any (A2 : Option Addr) (n2 c2 : Nat) (L : List Res) (hok : ∀ x ∈ l, x.ok) (hn : n ≤ 140737488355328) (hr : Rd w w.heap.size 5 A n (l.flatMap Ins.cu)) (hr2 : Rd w w.heap.size 3 A2 n2 (L.flatMap Res.cs)) (hL : ∀ x ∈ L, x.ok) :
    Calls Try.prog 9 #[.slice A n c, .slice A2 n2 c2] w fun e w' => e = .returned (.bool true) ∧ Below w.heap.size w w' := by
  cases hm : mayP l with
  | false =>
    have HB := hide (begins_no (c := c) hok hm hn hr)
    clear hm hr hr2 hL hok
    go_enter Try.func9, Try.ntmps9
    go_wp2_with fail
    refine (unhide HB).mono ?_
    rintro e w1 ⟨⟨A', nn, c', rfl⟩, hb1⟩
    simp only [tskV, tskC]
    go_wp2_with fail
    refine (wakes24_any _).mono ?_
    rintro e w2 ⟨rfl, hb2⟩
    go_wp2
    go_ret
    exact ⟨rfl, bt (hb1.alloc hb1.size _) hb2⟩
  | true =>
    have hp : Prog l := ⟨hok, hm⟩
    have hln := hr.lenU
    have hle := hp.le
    have hn64 : n ≤ 64 := by omega
    by_cases hg : n ≤ 24 ∧ n2 ≤ 60
    · obtain ⟨hn1, hn2⟩ := hg
      have hd1 : decide ((24 : Int) < n) = false := decide_eq_false (by omega)
      have hd1' : decide (24 < n) = false := decide_eq_false (by omega)
      have hd2 : decide ((60 : Int) < n2) = false := decide_eq_false (by omega)
      have hd2' : decide (60 < n2) = false := decide_eq_false (by omega)
      obtain ⟨rb, hrb⟩ := reached_ex l
      obtain ⟨U, hU⟩ := rounds_ex l
      have HB := hide (begins_yes (c := c) hp hr)
      have HRE := hide (fun W h => Reached_yes (w := W) (A := A) (n := n) (c := c) hp h hrb)
      have hru : ∀ (W : World), Rd W W.heap.size 5 A n (l.flatMap Ins.cu) → ∀ a b : Nat, Calls Try.prog 33 #[.slice A n c, .int .i64 (a : Int), .int .i64 (b : Int)] W fun e w' => e = .returned (.tuple #[.bool (rlB rb U n a b), .int .i64 0]) ∧ Below W.heap.size W w' :=
        fun W h a b => Rules_yes (w := W) (A := A) (n := n) (c := c) hp h hrb a b (hU a)
      have HRU := hide hru
      clear hru
      have HZ := hide (fun b (hb : b ≤ n) => rl_zero (n := n) hrb hU hb)
      have HSM := hide (fun a (ha : a ≤ n) => rl_same (rb := rb) (U := U) ha)
      have HLI := hide (fun a b c (ha : a ≤ n) (hb : b ≤ n) (hc : c ≤ n) => rl_line (n := n) hrb hU ha hb hc)
      have HMO := hide (fun S nx (h : MetI l S nx) a (ha : a ≤ n) (hx : nx ≤ n) => h.ok (rb := rb) (n := n) hU ha hx)
      obtain ⟨R, hR⟩ : ∃ R, rlB rb U n = R := ⟨_, rfl⟩
      rw [hR] at HRU HZ HSM HLI HMO
      have HP := hide hp
      have HLN := Lib.hid hln
      have HR := hide hr
      have HR2 := hide hr2
      clear hm hr hr2 hok hp hln hle hrb hU hR
      go_enter Try.func9, Try.ntmps9
      go_wp2_with fail
      refine (unhide HB).mono ?_
      rintro e w1 ⟨A', c', rfl, hra, hb1⟩
      have hrl := (unhide HR).to hb1
      have hrr := (unhide HR2).to hb1
      simp only [tskV, tskC]
      go_upto_region 4 with fail
      refine nameW ?_
      intro W1 hW1
      have hb2 : Below w1.heap.size w1 W1 := by rw [hW1]; exact (Below.refl _ _).alloc (Nat.le_refl _) _
      have hx1 : Bx W1 w1.heap.size (tskC A' n c' 0 rg0) := by rw [hW1]; exact Bx.new _ _ _ _ rfl
      have HRA := hide (fun (W : World) (hb : Below w1.heap.size w1 W) => (hra.below hb).mono hb.size)
      have HRL := hide (fun (W : World) (hb : Below w1.heap.size w1 W) => (hrl.below hb).mono hb.size)
      have HRR := hide (fun (W : World) (hb : Below w1.heap.size w1 W) => (hrr.below hb).mono hb.size)
      clear hW1 HB HR HR2 hra hrl hrr
      go_wp2_with fail
      refine (unhide HRE _ (unhide HRL _ hb2)).mono ?_
      rintro e w2 ⟨Ar, cr, rfl, hown, hb3⟩
      have hx2 := hx1.to hb3
      have hrow := Rd.of_own hown
      have hb4 := bt hb2 hb3
      have HXT := hide (fun (W : World) (hb : Below w2.heap.size w2 W) => hx2.to hb)
      have HRW := hide (fun (W : World) (hb : Below w2.heap.size w2 W) => hrow.below hb)
      have HB4 := hide (fun (W : World) (hb : Below w2.heap.size w2 W) => bt hb4 hb)
      clear hown hx1 hx2 hb2 hb3 hb4 hrow HRE
      obtain ⟨W3, m3, x3, b3⟩ := made_rows n hn64 w2
      obtain ⟨g, hgg⟩ : ∃ g, w2.heap.size = g := ⟨_, rfl⟩
      rw [hgg] at m3 x3
      have HI0 := hide (RowsI.start (R := R) x3)
      have HB3 := hide b3
      have HST0 := hide (show (0 < n + 1 → (Array.replicate (n + 1) (Value.slice none 0 0))[0]? = some (.slice none 0 0)) by intro h; rw [Array.getElem?_replicate, if_pos h])
      have hgl : w1.heap.size < g := by
        have := (unhide HXT w2 (Below.refl _ _)).lt
        omega
      have HK := hide (fun (W : World) (hb : Below g w2 W) => (⟨unhide HXT W (hgg ▸ hb), unhide HRW W (hgg ▸ hb), unhide HB4 W (hgg ▸ hb)⟩ : Bx W w1.heap.size (tskC A' n c' 0 rg0) ∧ Rd W w2.heap.size 1 Ar (n + 1) (rowV rb (n + 1)) ∧ Below w1.heap.size w1 W))
      have HGL := hide hgl
      obtain ⟨i0, hi, hz0, hz1, hz2⟩ := info_parts Try.infoB
      clear x3 b3 HXT HRW HB4 hgl
      go_upto_region 10 with fail
      rw [hgg] at HB3
      clear m3 hgg
      go_loopw [11] (fun aa wr => ∃ (a hi : Nat) (cs : Array Value), a ≤ n + 1 ∧ aa = .int .i64 a ∧ RowsI g (n + 1) R a hi cs wr ∧ (a < n + 1 → cs[a]? = some (.slice none 0 0)) ∧ Below g w2 wr) (fun aa _ => n + 1 - (intOf aa).toNat)
      case atStart => exact ⟨0, g + 1, Array.replicate (n + 1) (.slice none 0 0), Nat.zero_le _, rfl, HI0.out, HST0.out, HB3.out⟩
      case round =>
        obtain ⟨a, hh, cs, ha, rfl, hI, hca, hbg⟩ := hrel
        clear HI0 HST0 HB3
        by_cases hlt : a < n + 1
        · have ka : (a : Int) < (n : Int) + 1 := by omega
          have HI := hide (hI.open_ (hca hlt))
          have HBG := hide hbg
          clear hI hca hbg
          go_upto_region 13 with fail
          go_loopw [12] (fun bb wr => ∃ (b : Nat) (cs : Array Value) (v : Value), b ≤ n + 1 ∧ bb = .int .i64 b ∧ RowP g (n + 1) R a b hh cs v wr ∧ Below g w2 wr) (fun bb _ => n + 1 - (intOf bb).toNat)
          case atStart => exact ⟨0, cs, .slice none 0 0, Nat.zero_le _, rfl, HI.out, HBG.out⟩
          case round =>
            obtain ⟨b, cs, v, hb, rfl, hP, hbg⟩ := hrel
            clear HI HBG
            by_cases hlb : b < n + 1
            · have kb : (b : Int) < (n : Int) + 1 := by omega
              obtain ⟨q1, q2, q3⟩ := (unhide HK) wr hbg
              have hC := (unhide HRU) wr (unhide HRL wr q3) a b
              have hz := (unhide HZ) b (by omega)
              have hsm := (unhide HSM) a (by omega)
              have hrs := rowV_succ (R a) b
              obtain ⟨x, hx⟩ : ∃ x, R a b = x := ⟨_, rfl⟩
              rw [hx] at hC hrs
              have HC := hide hC
              have HRS := Lib.hid hrs
              clear hC q1 q2 q3 hrs
              go_wp2_with fail
              refine (unhide HC).mono ?_
              rintro e w4 ⟨rfl, hb4⟩
              have hP4 := hP.to hb4
              have hbg4 := hbg.trans (hb4.mono (by have := hP.rows.hg; have := hP.rows.hh; omega))
              have hbs : hh ≤ w4.heap.size := hP4.rows.hh
              obtain ⟨_, q2, _⟩ := (unhide HK) w4 hbg4
              obtain ⟨br, orr, rfl, _, hcr⟩ := q2.2 (by omega)
              have r0 := hcr b _ (rowV_get rb hlb)
              obtain ⟨Av, cv, rfl⟩ := own_shape hP4.own
              have g0 : (_ : Option Value) = some (.slice Av b cv) := (hP4.rows.bx.cell a).trans hP4.at_
              have HP4 := hide hP4
              have HBG4 := hide hbg4
              clear hP hbg hb4 HC q2 hcr hP4 hbg4
              by_cases ha0 : a = 0
              · rw [← ha0, hx] at hz
                subst hz
                have kz : ((a : Int) == 0) = true := by simp [ha0]
                have kz2 : decide ((a : Int) = 0) = true := decide_eq_true (by omega)
                clear hx hsm ha0
                go_wp2_with (at_builtin; refine wpList_append_own _ rfl _ _ 60 rfl hh 4 i0 _ 1 1 Try.underlying60 hi hz0 hz1 hz2 rfl (by decide) _ _ _ rfl ((unhide HP4).own.alloc _) ⟨w4.heap.size, 0, none⟩ 1 1 [.bool (rb b)] rfl rfl ?c1 ?c2 ?c3 ?c4 ?c5 ?_)
                case c1 => exact news_at _ _ _ _ rfl
                case c2 => intro u hu; simp at hu; rcases hu with rfl; rfl
                case c3 => unfold maxLen; omega
                case c4 => omega
                case c5 => simp; omega
                intro v' w5 hown' hgrow _
                rw [← HRS.out] at hown'
                obtain ⟨A5, c5, rfl⟩ := own_shape hown'
                have hb5 := (unhide HP4).rows.bx.below (grown1 (Below.refl hh w4) (unhide HP4).own hbs hgrow) (unhide HP4).rows.hg
                have f0 : (_ : Option Value) = some (.slice Av b cv) := (hb5.cell a).trans (unhide HP4).at_
                have ff := hb5.frozen a
                have HP5 := hide ((unhide HP4).put hlt hown' hgrow)
                have HB5 := hide (below_put (unhide HP4) (unhide HBG4) hgrow : Below g w2 (w5.setCell ⟨g, a, none⟩ (.slice A5 (b + 1) c5)))
                clear hown' hgrow hb5 HRS HP4 HBG4 g0 r0
                go_wp2
                go_roundw
                case rel => exact ⟨b + 1, cs.setIfInBounds a (.slice A5 (b + 1) c5), .slice A5 (b + 1) c5, by omega, by go_num, HP5.out, HB5.out⟩
                case measure => simp [intOf]; omega
              · by_cases hab : a = b
                · subst hab
                  rw [hx] at hsm
                  subst hsm
                  have kz : ((a : Int) == 0) = false := by simpa using ha0
                  clear hx hz
                  go_wp2_with (at_builtin; refine wpList_append_own _ rfl _ _ 60 rfl hh 4 i0 _ 1 1 Try.underlying60 hi hz0 hz1 hz2 rfl (by decide) _ _ _ rfl ((unhide HP4).own.alloc _) ⟨w4.heap.size, 0, none⟩ 1 1 [.bool (rb a)] rfl rfl ?c1 ?c2 ?c3 ?c4 ?c5 ?_)
                  case c1 => exact news_at _ _ _ _ rfl
                  case c2 => intro u hu; simp at hu; rcases hu with rfl; rfl
                  case c3 => unfold maxLen; omega
                  case c4 => omega
                  case c5 => simp; omega
                  intro v' w5 hown' hgrow _
                  rw [← HRS.out] at hown'
                  obtain ⟨A5, c5, rfl⟩ := own_shape hown'
                  have hb5 := (unhide HP4).rows.bx.below (grown1 (Below.refl hh w4) (unhide HP4).own hbs hgrow) (unhide HP4).rows.hg
                  have f0 : (_ : Option Value) = some (.slice Av a cv) := (hb5.cell a).trans (unhide HP4).at_
                  have ff := hb5.frozen a
                  have HP5 := hide ((unhide HP4).put hlt hown' hgrow)
                  have HB5 := hide (below_put (unhide HP4) (unhide HBG4) hgrow : Below g w2 (w5.setCell ⟨g, a, none⟩ (.slice A5 (a + 1) c5)))
                  clear hown' hgrow hb5 HRS HP4 HBG4 g0 r0
                  go_wp2
                  go_roundw
                  case rel => exact ⟨a + 1, cs.setIfInBounds a (.slice A5 (a + 1) c5), .slice A5 (a + 1) c5, by omega, by go_num, HP5.out, HB5.out⟩
                  case measure => simp [intOf]; omega
                · have kz : ((a : Int) == 0) = false := by simpa using ha0
                  have e1 : ((a : Int) == (b : Int)) = false := by simpa using (fun h => hab (by omega) : ¬ (a : Int) = b)
                  have e2 : decide ((a : Int) = (b : Int)) = false := decide_eq_false (by omega)
                  have e3 : decide (a = b) = false := decide_eq_false hab
                  have e4 : (a == b) = false := by simpa using hab
                  clear hx hz hsm
                  go_wp2_with (at_builtin; refine wpList_append_own _ rfl _ _ 60 rfl hh 4 i0 _ 1 1 Try.underlying60 hi hz0 hz1 hz2 rfl (by decide) _ _ _ rfl ((unhide HP4).own.alloc _) ⟨w4.heap.size, 0, none⟩ 1 1 [.bool x] rfl rfl ?c1 ?c2 ?c3 ?c4 ?c5 ?_)
                  case c1 => exact news_at _ _ _ _ rfl
                  case c2 => intro u hu; simp at hu; rcases hu with rfl; rfl
                  case c3 => unfold maxLen; omega
                  case c4 => omega
                  case c5 => simp; omega
                  intro v' w5 hown' hgrow _
                  rw [← HRS.out] at hown'
                  obtain ⟨A5, c5, rfl⟩ := own_shape hown'
                  have hb5 := (unhide HP4).rows.bx.below (grown1 (Below.refl hh w4) (unhide HP4).own hbs hgrow) (unhide HP4).rows.hg
                  have f0 : (_ : Option Value) = some (.slice Av b cv) := (hb5.cell a).trans (unhide HP4).at_
                  have ff := hb5.frozen a
                  have HP5 := hide ((unhide HP4).put hlt hown' hgrow)
                  have HB5 := hide (below_put (unhide HP4) (unhide HBG4) hgrow : Below g w2 (w5.setCell ⟨g, a, none⟩ (.slice A5 (b + 1) c5)))
                  clear hown' hgrow hb5 HRS HP4 HBG4 g0 r0
                  go_wp2
                  go_roundw
                  case rel => exact ⟨b + 1, cs.setIfInBounds a (.slice A5 (b + 1) c5), .slice A5 (b + 1) c5, by omega, by go_num, HP5.out, HB5.out⟩
                  case measure => simp [intOf]; omega
            · have hbn : b = n + 1 := by omega
              subst hbn
              have kb : ¬ ((n : Int) + 1) < (n : Int) + 1 := by omega
              obtain ⟨hI2, hcs2⟩ := hP.next
              have HI2 := hide hI2
              have HCS2 := hide hcs2
              have HBG := hide hbg
              clear hP hbg hI2 hcs2
              go_wp2
              go_roundw
              case rel => exact ⟨a + 1, wr.heap.size, cs, by omega, by go_num, HI2.out, HCS2.out, HBG.out⟩
              case measure => simp [intOf]; omega
        · have han : a = n + 1 := by omega
          subst han
          have ka : ¬ ((n : Int) + 1) < (n : Int) + 1 := by omega
          obtain ⟨wp, hwp⟩ : ∃ x, x = wr := ⟨_, rfl⟩
          subst hwp
          have HROW := hide (fun i (h : i < n + 1) => hI.row h (by omega))
          have HI := hide hI
          have HBG := hide hbg
          clear hI hca hbg hlt
          go_upto_region 20 with fail
          go_loopw [15] (fun aa wr => ∃ ia : Nat, ia ≤ n + 1 ∧ aa = .int .i64 ia ∧ wp = wr) (fun aa _ => n + 1 - (intOf aa).toNat)
          case atStart => exact ⟨0, Nat.zero_le _, rfl, rfl⟩
          case round =>
            obtain ⟨ia, hia, rfl, hw⟩ := hrel
            subst hw
            by_cases hla : ia < n + 1
            · have kia : (ia : Int) < (n : Int) + 1 := by omega
              go_upto_region 23 with fail
              go_loopw [16] (fun aa wr => ∃ ib : Nat, ib ≤ n + 1 ∧ aa = .int .i64 ib ∧ wp = wr) (fun aa _ => n + 1 - (intOf aa).toNat)
              case atStart => exact ⟨0, Nat.zero_le _, rfl, rfl⟩
              case round =>
                obtain ⟨ib, hib, rfl, hw⟩ := hrel
                subst hw
                by_cases hlb : ib < n + 1
                · have kib : (ib : Int) < (n : Int) + 1 := by omega
                  obtain ⟨ba, oa, ca, ga, hra⟩ := (unhide HROW) ia hla
                  obtain ⟨bb, ob, cb, gb, hrb⟩ := (unhide HROW) ib hlb
                  have r3 := hra ib hlb
                  have r4 := hrb ia hla
                  have HRA2 := hide hra
                  have HRB2 := hide hrb
                  clear hra hrb
                  go_upto_region 26 with fail
                  go_loopw [17] (fun aa wr => ∃ ic : Nat, ic ≤ n + 1 ∧ aa = .int .i64 ic ∧ wp = wr) (fun aa _ => n + 1 - (intOf aa).toNat)
                  case atStart => exact ⟨0, Nat.zero_le _, rfl, rfl⟩
                  case round =>
                    obtain ⟨ic, hic, rfl, hw⟩ := hrel
                    subst hw
                    by_cases hlc : ic < n + 1
                    · have kic : (ic : Int) < (n : Int) + 1 := by omega
                      have r1 := (unhide HRA2) ic hlc
                      have r2 := (unhide HRB2) ic hlc
                      have hli := (unhide HLI) ia ib ic (by omega) (by omega) (by omega)
                      cases h1 : R ia ic
                      · rw [h1] at r1
                        clear h1 hli
                        go_wp2
                        go_roundw
                        case rel => exact ⟨ic + 1, by omega, by go_num, trivial⟩
                        case measure => simp [intOf]; omega
                      · cases h2 : R ib ic
                        · rw [h1] at r1
                          rw [h2] at r2
                          clear h1 h2 hli
                          go_wp2
                          go_roundw
                          case rel => exact ⟨ic + 1, by omega, by go_num, trivial⟩
                          case measure => simp [intOf]; omega
                        · cases h3 : R ia ib
                          · have h4 := hli h1 h2 h3
                            rw [h1] at r1
                            rw [h2] at r2
                            rw [h3] at r3
                            rw [h4] at r4
                            clear h1 h2 h3 h4 hli
                            go_wp2
                            go_roundw
                            case rel => exact ⟨ic + 1, by omega, by go_num, trivial⟩
                            case measure => simp [intOf]; omega
                          · rw [h1] at r1
                            rw [h2] at r2
                            rw [h3] at r3
                            clear h1 h2 h3 hli
                            go_wp2
                            go_roundw
                            case rel => exact ⟨ic + 1, by omega, by go_num, trivial⟩
                            case measure => simp [intOf]; omega
                    · have kic : ¬ (ic : Int) < (n : Int) + 1 := by omega
                      go_wp2
                      go_roundw
                      case rel => exact ⟨ib + 1, by omega, by go_num, trivial⟩
                      case measure => simp [intOf]; omega
                · have kib : ¬ (ib : Int) < (n : Int) + 1 := by omega
                  go_wp2
                  go_roundw
                  case rel => exact ⟨ia + 1, by omega, by go_num, trivial⟩
                  case measure => simp [intOf]; omega
            · have kia : ¬ (ia : Int) < (n : Int) + 1 := by omega
              obtain ⟨W4, m4, s4, b4, _⟩ := IsSet.make' (P := Try.prog) 91 (Below.refl wp.heap.size wp)
              obtain ⟨W5, m5, s5, b5, _, _⟩ := s4.put' (P := Try.prog) Try.underlying91 Try.underlying3 b4 (Nat.le_refl _) 0
              have m5' : (Instr.mapUpdate 91 (.map (some wp.heap.size)) (.int .i64 0) (.bool true)).run Try.prog W4 = .ok () W5 := m5
              have hgp : g ≤ wp.heap.size := by have := HI.out.hg; have := HI.out.hh; omega
              obtain ⟨q1, q2, q3⟩ := (unhide HK) W5 (HBG.out.trans (b5.mono hgp))
              have hRM : RunM w1 w1.heap.size g hh wp.heap.size A' n c' R cs (addS (fun _ => false) 0) 0 rg0 W5 := ⟨q1, HI.out.to b5, s5, HGL.out, HI.out.hh, q3⟩
              obtain ⟨bm, hbm⟩ : ∃ bm, wp.heap.size = bm := ⟨_, rfl⟩
              rw [hbm] at m4 m5' hRM
              have HRM := hide hRM
              clear m5 s4 s5 b4 b5 hgp q1 q2 q3 hbm hRM HROW HI HBG
              go_upto_region 32 with fail
              clear m4 m5'
              go_loopw [19] (fun ii wr => ∃ (k nx : Nat) (r : Nat → Int) (S : Nat → Bool), k ≤ 200 ∧ ii = .int .i64 k ∧ nx ≤ n ∧ MetI l S nx ∧ RunM w1 w1.heap.size g hh bm A' n c' R cs S nx r wr) (fun ii _ => 200 - (intOf ii).toNat)
              case atStart => exact ⟨0, 0, rg0, addS (fun _ => false) 0, by omega, rfl, Nat.zero_le _, MetI.start, HRM.out⟩
              case round =>
                clear HRM
                obtain ⟨k, nx, r, S, hk, rfl, hnn0, hMet, hI⟩ := hrel
                have hx := hI.t
                by_cases hk3 : k < 200
                · have hkd : decide ((k : Int) < 200) = true := decide_eq_true (by omega)
                  have hkd' : (k : Int) < 200 := by omega
                  have hH := halts_any (A' := A') (n' := n) (c' := c') (nx := nx) (r := r) (A := A) (n := n) (c := c) (w := wr) (unhide HRL wr hI.b)
                  obtain ⟨hb, hhb⟩ : ∃ q, haltB l nx = q := ⟨_, rfl⟩
                  rw [hhb] at hH
                  simp only [tskV, tskC] at hH
                  have HH := hide hH
                  have HHB := Lib.hid hhb
                  have HI := hide hI
                  have HMET := hide hMet
                  clear hH hhb hI hMet
                  have a0 : (_ : Option Value) = some (.slice A' n c') := hx.cell 0
                  have a1 : (_ : Option Value) = some (.int .i64 nx) := hx.cell 1
                  have a2 : (_ : Option Value) = some (.int .u64 (r 0)) := hx.cell 2
                  have a3 : (_ : Option Value) = some (.int .u64 (r 1)) := hx.cell 3
                  have a4 : (_ : Option Value) = some (.int .u64 (r 2)) := hx.cell 4
                  have a5 : (_ : Option Value) = some (.int .u64 (r 3)) := hx.cell 5
                  have a6 : (_ : Option Value) = some (.int .u64 (r 4)) := hx.cell 6
                  have a7 : (_ : Option Value) = some (.int .u64 (r 5)) := hx.cell 7
                  have a8 : (_ : Option Value) = some (.int .u64 (r 6)) := hx.cell 8
                  have a9 : (_ : Option Value) = some (.int .u64 (r 7)) := hx.cell 9
                  go_wp2_with fail
                  refine (unhide HH).mono ?_
                  rintro e w4 ⟨rfl, hbq⟩
                  have hI4 := (unhide HI).to hbq
                  clear hx hbq HH HI a0 a1 a2 a3 a4 a5 a6 a7 a8 a9
                  cases hb
                  · have hnx := run_next HP.out r HHB.out
                    have hok := resAt_ok hL k
                    obtain ⟨x, hxx⟩ : ∃ q, resAt L k = q := ⟨_, rfl⟩
                    rw [hxx] at hok
                    have hRS := fun W h => result_any (w := W) (A2 := A2) (n2 := n2) (c2 := c2) (L := L) h k (by omega)
                    rw [hxx] at hRS
                    have hST := fun W h => steps_any (w := W) (A := A') (n := n) (c := c') (nx := nx) (r := r) HP.out h x hok
                    have hnn := nextL_le HP.out hnx
                    rw [HLN.out] at hnn
                    have hMet2 := (unhide HMET).step hnx
                    obtain ⟨ny, hny⟩ : ∃ q, pN l nx r = q := ⟨_, rfl⟩
                    obtain ⟨ry, hry⟩ : ∃ q, pR l nx r x = q := ⟨_, rfl⟩
                    rw [hny] at hST hnn hMet2
                    rw [hry] at hST
                    obtain ⟨xe, xv, xh⟩ := x
                    simp only [tskV, tskC, resV] at hRS hST
                    have HRS := hide hRS
                    have HST := hide hST
                    have HMET2 := hide hMet2
                    clear hRS hST hnx hMet2 hny hry hxx hok HHB HMET
                    have hx4 := hI4.t
                    have a0 : (_ : Option Value) = some (.slice A' n c') := hx4.cell 0
                    have a1 : (_ : Option Value) = some (.int .i64 nx) := hx4.cell 1
                    have a2 : (_ : Option Value) = some (.int .u64 (r 0)) := hx4.cell 2
                    have a3 : (_ : Option Value) = some (.int .u64 (r 1)) := hx4.cell 3
                    have a4 : (_ : Option Value) = some (.int .u64 (r 2)) := hx4.cell 4
                    have a5 : (_ : Option Value) = some (.int .u64 (r 3)) := hx4.cell 5
                    have a6 : (_ : Option Value) = some (.int .u64 (r 4)) := hx4.cell 6
                    have a7 : (_ : Option Value) = some (.int .u64 (r 5)) := hx4.cell 7
                    have a8 : (_ : Option Value) = some (.int .u64 (r 6)) := hx4.cell 8
                    have a9 : (_ : Option Value) = some (.int .u64 (r 7)) := hx4.cell 9
                    go_upto_region 34 with fail
                    clear a0 a1 a2 a3 a4 a5 a6 a7 a8 a9 hx4
                    have hHeld : RunM w1 w1.heap.size g hh bm A' n c' R cs S nx r w4.drew := hI4.to ((Below.refl _ _).drew)
                    clear hI4
                    refine wp_region_G 4 (fun W => RunM w1 w1.heap.size g hh bm A' n c' R cs S nx r W) (by kernel_rfl) ?_
                    simp only [List.size_toArray, List.length_cons, List.length_nil, Nat.zero_add, Nat.reduceAdd]
                    refine wpAnyG_take (i := 0) (v := .agg (tskC A' n c' nx r)) rfl (by kernel_rfl) (fun _ _ _ h => h) (yieldsIf_loadBx (by rfl) _ rfl rfl (fun _ h => h.t) Try.underlying28 rfl (sizeTsk _ _ _ _ _)) hHeld ?_
                    refine wpAnyG_take (i := 1) (v := ?_) rfl (by kernel_rfl) (fun _ _ _ h => h) (Or.inl ⟨by rfl, ?_⟩) hHeld ?_
                    rotate_left
                    · intro w' hSw
                      go_simp
                      try with_reducible rfl
                    refine wpAnyG_take (i := 2) (v := ?_) rfl (by kernel_rfl) (fun _ _ _ h => h) (Or.inl ⟨by rfl, ?_⟩) hHeld ?_
                    rotate_left
                    · intro w' hSw
                      go_simp
                      try with_reducible rfl
                    simp only [Act.put, List.setIfInBounds_toArray]
                    refine wpAnyG_one (i := 3) (by kernel_rfl) rfl (fun K hK => ?_)
                    go_simp
                    refine (unhide HRS _ (unhide HRR _ hHeld.b)).mono ?_
                    rintro e w6 ⟨rfl, hbq⟩
                    have hHeld := hHeld.to hbq
                    refine hK.out _ _ ⟨fun _ => hHeld, ?_⟩
                    clear hK K hbq HRS
                    refine wpAnyG_one (i := 4) (by kernel_rfl) rfl (fun K hK => ?_)
                    go_simp
                    refine (unhide HST _ (unhide HRA _ hHeld.b)).mono ?_
                    rintro e w7 ⟨rfl, hbq⟩
                    have hHeld := hHeld.to hbq
                    refine hK.out _ _ ⟨fun h => absurd h (by decide), ?_⟩
                    clear hK K hbq HST
                    obtain ⟨hx7, hrow7, hset7, hgg7, hmm7, hbr7⟩ := hHeld
                    have a0 : (_ : Option Value) = some (.slice A' n c') := hx7.cell 0
                    have af0 := hx7.frozen 0
                    have a1 : (_ : Option Value) = some (.int .i64 nx) := hx7.cell 1
                    have af1 := hx7.frozen 1
                    have a2 : (_ : Option Value) = some (.int .u64 (r 0)) := hx7.cell 2
                    have af2 := hx7.frozen 2
                    have a3 : (_ : Option Value) = some (.int .u64 (r 1)) := hx7.cell 3
                    have af3 := hx7.frozen 3
                    have a4 : (_ : Option Value) = some (.int .u64 (r 2)) := hx7.cell 4
                    have af4 := hx7.frozen 4
                    have a5 : (_ : Option Value) = some (.int .u64 (r 3)) := hx7.cell 5
                    have af5 := hx7.frozen 5
                    have a6 : (_ : Option Value) = some (.int .u64 (r 4)) := hx7.cell 6
                    have af6 := hx7.frozen 6
                    have a7 : (_ : Option Value) = some (.int .u64 (r 5)) := hx7.cell 7
                    have af7 := hx7.frozen 7
                    have a8 : (_ : Option Value) = some (.int .u64 (r 6)) := hx7.cell 8
                    have af8 := hx7.frozen 8
                    have a9 : (_ : Option Value) = some (.int .u64 (r 7)) := hx7.cell 9
                    have af9 := hx7.frozen 9
                    refine wpAnyG_one (i := 5) (by kernel_rfl) rfl (fun K hK => ?_)
                    go_simp
                    refine hK.out _ _ ⟨fun h => absurd h (by decide), ?_⟩
                    clear hK K
                    refine wpAnyG_done (by kernel_rfl) ?_ _
                    go_upto_region 35 with fail
                    refine nameW ?_
                    intro W8 hW8
                    have hxz := hx7.ten (.slice A' n c') (.int .i64 (ny:Int)) (.int .u64 (ry 0)) (.int .u64 (ry 1)) (.int .u64 (ry 2)) (.int .u64 (ry 3)) (.int .u64 (ry 4)) (.int .u64 (ry 5)) (.int .u64 (ry 6)) (.int .u64 (ry 7))
                    have hrz := hrow7.ten (gT := w1.heap.size) hgg7 (.slice A' n c') (.int .i64 (ny:Int)) (.int .u64 (ry 0)) (.int .u64 (ry 1)) (.int .u64 (ry 2)) (.int .u64 (ry 3)) (.int .u64 (ry 4)) (.int .u64 (ry 5)) (.int .u64 (ry 6)) (.int .u64 (ry 7))
                    have hsz := hset7.ten (gT := w1.heap.size) (by have := hrow7.hg; omega) (.slice A' n c') (.int .i64 (ny:Int)) (.int .u64 (ry 0)) (.int .u64 (ry 1)) (.int .u64 (ry 2)) (.int .u64 (ry 3)) (.int .u64 (ry 4)) (.int .u64 (ry 5)) (.int .u64 (ry 6)) (.int .u64 (ry 7))
                    have hbz := below_ten (w0 := w1) (g := w1.heap.size) hbr7 (Nat.le_refl _) (.slice A' n c') (.int .i64 (ny:Int)) (.int .u64 (ry 0)) (.int .u64 (ry 1)) (.int .u64 (ry 2)) (.int .u64 (ry 3)) (.int .u64 (ry 4)) (.int .u64 (ry 5)) (.int .u64 (ry 6)) (.int .u64 (ry 7))
                    rw [← hW8] at hxz hrz hsz hbz
                    have hI8 : RunM w1 w1.heap.size g hh bm A' n c' R cs S ny ry W8 := ⟨hxz, hrz, hsz, hgg7, hmm7, hbz⟩
                    clear hW8 hx7 hrow7 hset7 hbr7 hrz hsz hbz a0 a1 a2 a3 a4 a5 a6 a7 a8 a9 af0 af1 af2 af3 af4 af5 af6 af7 af8 af9
                    obtain ⟨W9, m9, hI9⟩ := hI8.put (P := Try.prog) Try.underlying91 Try.underlying3 ny
                    have a1 : (_ : Option Value) = some (.int .i64 ny) := hxz.cell 1
                    have z1 : ¬ (ny : Int) < 0 := by omega
                    have z2 : decide ((ny : Int) < 0) = false := decide_eq_false (by omega)
                    have z3 : ¬ (n : Int) + 1 ≤ (ny : Int) := by omega
                    have z4 : decide ((n : Int) + 1 ≤ (ny : Int)) = false := decide_eq_false (by omega)
                    have HI9 := hide hI9
                    clear hxz hI8 hI9
                    go_upto_region 39 with fail
                    clear m9 a1 z1 z2 z3 z4
                    go_loopw [20] (fun aa wr => ∃ ic : Nat, ic ≤ n + 1 ∧ aa = .int .i64 ic ∧ Below W9.heap.size W9 wr) (fun aa _ => n + 1 - (intOf aa).toNat)
                    case atStart => exact ⟨0, Nat.zero_le _, rfl, Below.refl _ _⟩
                    case round =>
                      obtain ⟨ic, hic, rfl, hbq⟩ := hrel
                      obtain ⟨wi, hwi⟩ : ∃ x, x = wr := ⟨_, rfl⟩
                      subst hwi
                      have hI := HI9.out.to hbq
                      by_cases hlc : ic < n + 1
                      · have kic : (ic : Int) < (n : Int) + 1 := by omega
                        obtain ⟨ba, oa, ca, ga, hra⟩ := hI.rows.row hlc (Nat.succ_pos _)
                        have r1 := hra ny (by omega)
                        have t1 : (_ : Option Value) = some (.int .i64 ny) := hI.t.cell 1
                        have k1 : ((ny : Int)).toNat = ny := by omega
                        have k2 : (ny : Int) < (n : Int) + 1 := by omega
                        have hlk := fun q => (hI.set_.to (below_drewN (Below.refl wi.heap.size wi) q)).look (P := Try.prog) Try.underlying91 Try.underlying3 (fun _ => rfl) ic
                        have HBQ := hide hbq
                        cases h1 : R ic ny
                        · rw [h1] at r1
                          clear h1 hlk hbq hI hra
                          go_wp2
                          go_quiet (fail)
                          go_wp2
                          go_roundw
                          case rel => exact ⟨ic + 1, by omega, by go_num, (unhide HBQ).trans ((below_drewN (Below.refl _ _) _ : Below wi.heap.size wi _).mono (unhide HBQ).size)⟩
                          case measure => simp [intOf]; omega
                        · have hS := (unhide HMO) _ ny (unhide HMET2) ic (by omega) hnn h1
                          rw [h1] at r1
                          rw [hS] at hlk
                          clear h1 hS hbq hI hra
                          go_wp2
                          go_quiet (fail)
                          go_wp2
                          go_roundw
                          case rel => exact ⟨ic + 1, by omega, by go_num, (unhide HBQ).trans ((below_drewN (Below.refl _ _) _ : Below wi.heap.size wi _).mono (unhide HBQ).size)⟩
                          case measure => simp [intOf]; omega
                      · have kic : ¬ (ic : Int) < (n : Int) + 1 := by omega
                        have HI := hide hI
                        clear hbq hI hlc
                        go_wp2
                        go_roundw
                        case rel => exact ⟨k + 1, ny, ry, addS S ny, by omega, by go_num, hnn, HMET2.out, HI.out⟩
                        case measure => simp [intOf]; omega
                  · have hb10 := bt hb1 hI4.b
                    clear hI4
                    go_wp2_with fail
                    refine (wakes24_any _).mono ?_
                    rintro e w9 ⟨rfl, hb9⟩
                    go_wp2
                    go_ret
                    exact ⟨rfl, bt hb10 hb9⟩
                · have hkd : decide ((k : Int) < 200) = false := decide_eq_false (by omega)
                  have hkd' : ¬ (k : Int) < 200 := by omega
                  have hb10 := bt hb1 hI.b
                  clear hI hx hk3
                  go_wp2_with fail
                  refine (wakes24_any _).mono ?_
                  rintro e w9 ⟨rfl, hb9⟩
                  go_wp2
                  go_ret
                  exact ⟨rfl, bt hb10 hb9⟩
    · have HB := hide (begins_yes (c := c) hp hr)
      clear hm hr hr2 hok hp hln hle
      go_enter Try.func9, Try.ntmps9
      go_wp2_with fail
      refine (unhide HB).mono ?_
      rintro e w1 ⟨A', c', rfl, hra, hb1⟩
      simp only [tskV, tskC]
      by_cases hg1 : n ≤ 24
      · have hd1 : decide ((24 : Int) < n) = false := decide_eq_false (by omega)
        have hd1' : decide (24 < n) = false := decide_eq_false (by omega)
        have hd2 : decide ((60 : Int) < n2) = true := decide_eq_true (by omega)
        have hd2' : decide (60 < n2) = true := decide_eq_true (by omega)
        clear hra HB hg hg1
        go_wp2_with fail
        refine (wakes24_any _).mono ?_
        rintro e w2 ⟨rfl, hb2⟩
        go_wp2
        go_ret
        exact ⟨rfl, bt (hb1.alloc hb1.size _) hb2⟩
      · have hd1 : decide ((24 : Int) < n) = true := decide_eq_true (by omega)
        have hd1' : decide (24 < n) = true := decide_eq_true (by omega)
        clear hra HB hg hg1
        go_wp2_with fail
        refine (wakes24_any _).mono ?_
        rintro e w2 ⟨rfl, hb2⟩
        go_wp2
        go_ret
        exact ⟨rfl, bt (hb1.alloc hb1.size _) hb2⟩
end
end Go.Proofs.Ytmiagijgecgfoaa
