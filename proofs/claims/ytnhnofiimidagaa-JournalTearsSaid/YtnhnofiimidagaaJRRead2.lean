/-
  The walk of bailiwickref27.Read, where there is a head.
-/
import Derived.Test.YtnhnofiimidagaaJRecs
import Derived.Test.YtnhnofiimidagaaJRDec
namespace Go.Proofs.Ytnhnofiimidagaa
open Go.RowKit

theorem keep1 {w0 w w' : World} {p : Addr} {x : Value} (h : w.cell? p = some x ∧ Below w0.heap.size w0 w) (hb : Below w.heap.size w w') : w'.cell? p = some x ∧ Below w0.heap.size w0 w' :=
  ⟨(hb.cell (World.block_lt_of_cell? _ _ h.1)).trans h.1, bt h.2 hb⟩
/-- what holds between rounds -/
structure RRI (j : List UInt8) (pg : Int) (A : Option Addr) (ps : List (List UInt8)) (c : Nat) (w : World) (sb : Nat) (R : List UInt8 × Nat) (acc : List UInt8) (a : Nat) (W : World) : Prop where
  reads : Reads j acc a R
  lo : 10 ≤ a
  hi : a ≤ j.length
  acc4 : acc.length ≤ 4000
  out : Bx W w.heap.size #[.int .i64 0, .slice none 0 0, .string (ByteArray.mk #[]), .int .i64 0, .bool false]
  box : Bx W sb #[.int .i64 pg, .slice A ps.length c, .string (S acc)]
  far : w.heap.size < sb
  progs : Rd W sb 1 A ps.length (ps.map strV)
  own : 0 < ps.length → ∀ b o, A = some ⟨b, o, none⟩ → w.heap.size < b
  below : Below w.heap.size w W
/-- and in the end -/
structure RRE (j : List UInt8) (pg : Int) (A : Option Addr) (ps : List (List UInt8)) (c : Nat) (w : World) (sb : Nat) (R : List UInt8 × Nat) (acc : List UInt8) (a : Nat) (W : World) : Prop where
  is : R = (acc, a)
  out : Bx W w.heap.size #[.int .i64 0, .slice none 0 0, .string (ByteArray.mk #[]), .int .i64 0, .bool false]
  box : Bx W sb #[.int .i64 pg, .slice A ps.length c, .string (S acc)]
  progs : Rd W W.heap.size 1 A ps.length (ps.map strV)
  own : 0 < ps.length → ∀ b o, A = some ⟨b, o, none⟩ → w.heap.size < b
  below : Below w.heap.size w W
section
variable {j : List UInt8} {pg : Int} {A : Option Addr} {ps : List (List UInt8)} {c : Nat} {w : World} {sb : Nat} {R : List UInt8 × Nat} {acc : List UInt8} {a : Nat} {W W' : World}
theorem RRI.to (h : RRI j pg A ps c w sb R acc a W) (hb : Below W.heap.size W W') : RRI j pg A ps c w sb R acc a W' :=
  ⟨h.reads, h.lo, h.hi, h.acc4, h.out.to hb, h.box.to hb, h.far, h.progs.below (hb.mono (Nat.le_of_lt h.box.lt)), h.own, bt h.below hb⟩
theorem RRI.none_ (h : RRI j pg A ps c w sb R acc a W) (hg : goodAt j a = none) : RRE j pg A ps c w sb R acc a W := ⟨h.reads.none_ hg, h.out, h.box, h.progs.mono (Nat.le_of_lt h.box.lt), h.own, h.below⟩
theorem RRI.no (h : RRI j pg A ps c w sb R acc a W) {q : List UInt8 × Nat} (hg : goodAt j a = some q) (hn : nextOk acc q.1 = false) : RRE j pg A ps c w sb R acc a W := ⟨h.reads.no hg hn, h.out, h.box, h.progs.mono (Nat.le_of_lt h.box.lt), h.own, h.below⟩
theorem RRI.step (h : RRI j pg A ps c w sb R acc a W) {q : List UInt8 × Nat} (hg : goodAt j a = some q) (hn : nextOk acc q.1 = true) :
    RRI j pg A ps c w sb R (acc ++ q.1) q.2 (W.setCell ⟨sb, 2, none⟩ (.string (S (acc ++ q.1)))) := by
  have hl := goodAt_lt hg
  have hlo := h.lo
  have hn' := hn
  unfold nextOk at hn'
  simp only [Bool.and_eq_true, decide_eq_true_eq] at hn'
  exact ⟨h.reads.step hg hn, by omega, by omega, by rw [List.length_append]; exact hn'.2, h.out.far (by have := h.far; simp; omega) _, h.box.set_ 2 _, h.far,
    h.progs.setCell_ge (Nat.le_refl _) _, h.own, h.below.setCell (by have := h.far; simp; omega) _⟩
/-- the world behind the last store -/
def finW (w : World) (pg : Int) (A : Option Addr) (n c : Nat) (acc : List UInt8) (a : Nat) (W : World) : World :=
  ((((W.setCell ⟨w.heap.size, 0, none⟩ (.int .i64 pg)).setCell ⟨w.heap.size, 1, none⟩ (.slice A n c)).setCell ⟨w.heap.size, 2, none⟩ (.string (S acc))).setCell ⟨w.heap.size, 3, none⟩ (.int .i64 a)).setCell ⟨w.heap.size, 4, none⟩ (.bool true)
theorem Rd.set_far {W : World} {B size n : Nat} {A : Option Addr} {xs : List Value} (h : Rd W B size A n xs) {p : Addr} (hp : 0 < n → ∀ b o, A = some ⟨b, o, none⟩ → p.block ≠ b) (u : Value) : Rd (W.setCell p u) B size A n xs :=
  ⟨h.1, fun hn => by
    obtain ⟨b, o, e, hlt, hc⟩ := h.2 hn
    refine ⟨b, o, e, hlt, fun j u' hu => (World.cell?_setCell_other W p ⟨b, o + j, none⟩ u (by intro he; subst he; exact hp hn b o e rfl)).trans (hc j u' hu)⟩⟩
theorem RRE.fin (h : RRE j pg A ps c w sb R acc a W) (hv : readV j = ((pg, ps, R.1), R.2) ∧ (readO j).isSome = true) :
    Bx (finW w pg A ps.length c acc a W) w.heap.size #[.int .i64 pg, .slice A ps.length c, .string (S acc), .int .i64 a, .bool true] ∧
      RRPost j w (.returned (.agg #[.int .i64 pg, .slice A ps.length c, .string (S acc), .int .i64 a, .bool true])) (finW w pg A ps.length c acc a W) := by
  have hR := h.is
  subst hR
  have hne : ∀ k, 0 < ps.length → ∀ b o, A = some ⟨b, o, none⟩ → (⟨w.heap.size, k, none⟩ : Addr).block ≠ b := fun k hn b o e => by have := h.own hn b o e; simp; omega
  refine ⟨((((h.out.set_ 0 _).set_ 1 _).set_ 2 _).set_ 3 _).set_ 4 _, A, ps.length, c, ?_, ?_, ((((h.below.setCell (by simp) _).setCell (by simp) _).setCell (by simp) _).setCell (by simp) _).setCell (by simp) _⟩
  · rw [hv.1, hv.2]
  · rw [hv.1]
    exact (((((h.progs.set_far (hne 0) _).set_far (hne 1) _).set_far (hne 2) _).set_far (hne 3) _).set_far (hne 4) _).mono (by simp [finW])
end

set_option maxRecDepth 100000 in
set_option maxHeartbeats 8000000 in
theorem rread_yes {j : List UInt8} {pg : Int} {ps : List (List UInt8)} {a0 : Nat} (h : headO j = some ((pg, ps, []), a0)) (w : World) (hj : j.length ≤ 1000000) : Calls Try.prog 39 #[.string (S j)] w (RRPost j w) := by
  obtain ⟨ha, hal, hs, heq⟩ := headO_parts h
  have hmg := headO_magic h
  simp only at heq
  have hm := (scB_scO hs).1
  have h10 : 10 ≤ j.length := by omega
  obtain ⟨x, y, N, hx4, hy5, hsum, hNl, hN⟩ := hd_facts h10
  rw [hN] at ha heq hs
  subst ha
  have hrv : readV j = ((pg, ps, (readL j j.length [] (10 + N)).1), (readL j j.length [] (10 + N)).2) ∧ (readO j).isSome = true := by
    unfold readV readO
    rw [h]
    exact ⟨rfl, rfl⟩
  have hst := Reads.start j (10 + N)
  obtain ⟨R, hR⟩ : ∃ R, readL j j.length [] (10 + N) = R := ⟨_, rfl⟩
  rw [hR] at hrv hst
  have HRV := hide hrv
  have HST := hide hst
  have hne1 : (!(j.take 4 == [66, 76, 87, 75])) = false := by rw [hmg]; rfl
  have hne3 : (!(bgB pg ps == j.take (10 + N))) = false := by rw [heq]; simp
  have hx8 := x.toNat_lt
  have hy8 := y.toNat_lt
  have hm1 : IntKind.i64.wrap (256 * (y.toNat : Int)) = 256 * (y.toNat : Int) := IntWalk.i64_in _ (by omega)
  have hm2 : IntKind.i64.wrap ((x.toNat : Int) + 256 * (y.toNat : Int)) = (N : Int) := (IntWalk.i64_in _ (by omega)).trans hsum
  obtain ⟨d, hd⟩ : ∃ d, (j.take (6 + N)).drop 6 = d := ⟨_, rfl⟩
  have hdl : d.length ≤ 1000000 := by rw [← hd, List.length_drop, List.length_take]; omega
  have hd10 : decide ((j.length : Int) < 10 + N) = false := by simp; omega
  have hlen : (10 : Int) ≤ j.length := by omega
  rw [hd] at hs
  have HS := Lib.hid hs
  have hbg := fun A n c w hr => rbegin_any pg ps [] A n c w hr hm
  simp only [rscrV] at hbg
  have HBG := hide hbg
  have hb0 : Below w.heap.size w (w.alloc (.cells #[.int .i64 0, .slice none 0 0, .string (ByteArray.mk #[]), .int .i64 0, .bool false] 68)) := (Below.refl _ _).alloc (Nat.le_refl _) _
  have hr0 := Bx.new w #[.int .i64 0, .slice none 0 0, .string (ByteArray.mk #[]), .int .i64 0, .bool false] 68 w.heap.size rfl
  clear h hmg heq hm hN hsum hrv hst hR hbg hs
  go_enter Try.func39, Try.ntmps39
  go_wp2
  go_quiet (fail)
  have hr1 : Bx ((w.alloc (.cells #[.int .i64 0, .slice none 0 0, .string (ByteArray.mk #[]), .int .i64 0, .bool false] 68)).drewN nq) w.heap.size #[.int .i64 0, .slice none 0 0, .string (ByteArray.mk #[]), .int .i64 0, .bool false] := hr0
  have hb1 := below_drewN hb0 nq
  clear hr0 hb0
  go_wp2_with fail
  refine (rscDecO_yes HS.out _ hdl).mono ?_
  rintro e w3 ⟨A8, c8, rfl, hp8, hb2⟩
  have hw0 : w.heap.size + 1 ≤ w3.heap.size := by have := hb2.size; simp at this; omega
  have hpO : w3.ownsRow (w.heap.size + 1) 9 1 (.slice A8 ps.length c8) ps.length (ps.map strV) := own_mono hp8 (by simp)
  have hr2 := hr1.to hb2
  have hb3 := bt hb1 hb2
  clear hr1 hb1 hb2
  go_wp2
  have hby : Below w3.heap.size w3 (w3.alloc (.cells #[.int .i64 pg, .slice A8 ps.length c8, .string (S [])] 44)) := (Below.refl _ _).alloc (Nat.le_refl _) _
  have hyx := Bx.new w3 #[.int .i64 pg, .slice A8 ps.length c8, .string (S [])] 44 w3.heap.size rfl
  obtain ⟨w4, hw4⟩ : ∃ w4, w3.alloc (.cells #[.int .i64 pg, .slice A8 ps.length c8, .string (S [])] 44) = w4 := ⟨_, rfl⟩
  rw [hw4] at hby hyx ⊢
  have HW4 := Lib.hid hw4
  have hr3 := hr2.to hby
  have hb4 := bt hb3 hby
  have hp9 := (Rd.of_own hp8).to hby
  have hpA : Rd w4 w3.heap.size 1 A8 ps.length (ps.map strV) := (Rd.of_own hp8).below hby
  have hown : 0 < ps.length → ∀ b o, A8 = some ⟨b, o, none⟩ → w.heap.size < b := fun _ b o he => by
    have := (hpO.lt b (by rw [he]; rfl)).1
    omega
  have hfar : w.heap.size < w3.heap.size := hr2.lt
  have y0 := hyx.cell 0
  have y1 := hyx.cell 1
  have y2 := hyx.cell 2
  have hS1 : Below w4.heap.size w4 w4.drew := (Below.refl _ _).drew
  have q1 : IntKind.i64.wrap (10 + (N : Int)) = 10 + (N : Int) := IntWalk.i64_in _ (by omega)
  have q2 : (0 : Int) ≤ 10 + (N : Int) := by omega
  have q3 : 10 + (N : Int) ≤ j.length := by omega
  have q4 : (10 + (N : Int)).toNat = 10 + N := by omega
  clear hw4 hby hr2 hb3 hp8
  go_region_held3 (fun w' => w'.cell? ⟨w3.heap.size, 0, none⟩ = some (.int .i64 pg) ∧ w'.cell? ⟨w3.heap.size, 1, none⟩ = some (.slice A8 ps.length c8) ∧ w'.cell? ⟨w3.heap.size, 2, none⟩ = some (.string (S [])) ∧ Below w4.heap.size w4 w') (go_keep)
    (first | (go_at_call 35; refine (unhide HBG A8 ps.length c8 _ (rd_held (by assumption) hp9)).mono ?_; rintro e w6 ⟨rfl, hb6⟩; obtain ⟨k1, k2, k3, k4⟩ := keep3 (by assumption) hb6))
  have hI0 : Hid (RRI j pg A8 ps c8 w w3.heap.size R [] (10 + N) w6) := ⟨HST.out, by omega, by omega, by simp, hr3.to k4, hyx.to k4, hfar, hpA.below (k4.mono (Nat.le_of_lt hyx.lt)), hown, bt hb4 k4⟩
  clear hr3 hyx hpA hb4 k1 k2 k3 k4 y0 y1 y2 hS1 hp9 HST HBG HS hne1 hne3 hm1 hm2 hx4 hy5 hd10 hdl hd hx8 hy8
  have q5 : (10 : Int) + N = ((10 + N : Nat) : Int) := by omega
  have Q5 := Lib.hid q5
  clear q5
  go_wp2
  go_loopw [6] (fun at_ wr => ∃ (acc : List UInt8) (a : Nat), at_ = .int .i64 a ∧ Hid (RRI j pg A8 ps c8 w w3.heap.size R acc a wr)) (fun at_ _ => j.length - (intOf at_).toNat)
  case atStart => exact ⟨[], 10 + N, by rw [Q5.out], hI0⟩
  case round =>
    obtain ⟨acc, a, rfl, HI⟩ := hrel
    have h4 := HI.out.lo
    have hle := HI.out.hi
    have ha4 := HI.out.acc4
    have ca := HI.out.box.cell 2
    clear hI0
    by_cases hlt : a < j.length
    · obtain ⟨x, hx⟩ : ∃ x, j[a]? = some x := ⟨_, List.getElem?_eq_getElem hlt⟩
      have hxa : ∀ h, j[a]'h = x := fun h => by rw [List.getElem?_eq_getElem h] at hx; exact Option.some.inj hx
      obtain ⟨M, hM⟩ : ∃ M : Nat, x.toNat = M := ⟨_, rfl⟩
      have hM8 : M < 256 := by have := x.toNat_lt; omega
      have hD : (j.getD a 0).toNat = M := by rw [List.getD_eq_getElem?_getD, hx]; exact hM
      have HD := Lib.hid hD
      have HX := Lib.hid hx
      have HMM := Lib.hid hM
      clear hx hD
      by_cases hbad : M < 1 ∨ 200 < M ∨ j.length < a + 5 + M
      · have hg : goodAt j a = none := by unfold goodAt; rw [if_pos hlt, HD.out, if_pos hbad]
        have HE : Hid (RRE j pg A8 ps c8 w w3.heap.size R acc a wr) := HI.out.none_ hg
        clear hg
        by_cases h1 : M < 1
        · clear hbad HI
          have d1 : decide ((M : Int) < 1) = true := by simp; omega
          have d1n : decide (M < 1) = true := by simp; omega
          have rc0 := HE.out.out.cell 0
          have rc1 := HE.out.out.cell 1
          have rc2 := HE.out.out.cell 2
          have rc3 := HE.out.out.cell 3
          have rc4 := HE.out.out.cell 4
          have rf0 := HE.out.out.frozen 0
          have rf1 := HE.out.out.frozen 1
          have rf2 := HE.out.out.frozen 2
          have rf3 := HE.out.out.frozen 3
          have rf4 := HE.out.out.frozen 4
          have sc0 := HE.out.box.cell 0
          have sc1 := HE.out.box.cell 1
          have sc2 := HE.out.box.cell 2
          have hfin := HE.out.fin HRV.out
          have HFIN := hide hfin
          clear hfin
          go_wp2
          have hrF := HFIN.out.1
          simp only [finW] at hrF
          have cc0 := hrF.cell 0
          have cc1 := hrF.cell 1
          have cc2 := hrF.cell 2
          have cc3 := hrF.cell 3
          have cc4 := hrF.cell 4
          refine bodyPost_ret (v := .agg #[.int .i64 pg, .slice A8 ps.length c8, .string (S acc), .int .i64 a, .bool true]) (by simp [results, Try.results39, go_sem, *]) rfl HFIN.out.2
        by_cases h2 : 200 < M
        · clear hbad HI
          have d1 : decide ((M : Int) < 1) = false := by simp; omega
          have d1n : decide (M < 1) = false := by simp; omega
          have d2 : decide ((200 : Int) < M) = true := by simp; omega
          have d2n : decide (200 < M) = true := by simp; omega
          have rc0 := HE.out.out.cell 0
          have rc1 := HE.out.out.cell 1
          have rc2 := HE.out.out.cell 2
          have rc3 := HE.out.out.cell 3
          have rc4 := HE.out.out.cell 4
          have rf0 := HE.out.out.frozen 0
          have rf1 := HE.out.out.frozen 1
          have rf2 := HE.out.out.frozen 2
          have rf3 := HE.out.out.frozen 3
          have rf4 := HE.out.out.frozen 4
          have sc0 := HE.out.box.cell 0
          have sc1 := HE.out.box.cell 1
          have sc2 := HE.out.box.cell 2
          have hfin := HE.out.fin HRV.out
          have HFIN := hide hfin
          clear hfin
          go_wp2
          have hrF := HFIN.out.1
          simp only [finW] at hrF
          have cc0 := hrF.cell 0
          have cc1 := hrF.cell 1
          have cc2 := hrF.cell 2
          have cc3 := hrF.cell 3
          have cc4 := hrF.cell 4
          refine bodyPost_ret (v := .agg #[.int .i64 pg, .slice A8 ps.length c8, .string (S acc), .int .i64 a, .bool true]) (by simp [results, Try.results39, go_sem, *]) rfl HFIN.out.2
        have h3 : j.length < a + 5 + M := by omega
        clear hbad HI
        have d1 : decide ((M : Int) < 1) = false := by simp; omega
        have d1n : decide (M < 1) = false := by simp; omega
        have d2 : decide ((200 : Int) < M) = false := by simp; omega
        have d2n : decide (200 < M) = false := by simp; omega
        have d3 : decide ((j.length : Int) < (a : Int) + 5 + M) = true := by simp; omega
        have rc0 := HE.out.out.cell 0
        have rc1 := HE.out.out.cell 1
        have rc2 := HE.out.out.cell 2
        have rc3 := HE.out.out.cell 3
        have rc4 := HE.out.out.cell 4
        have rf0 := HE.out.out.frozen 0
        have rf1 := HE.out.out.frozen 1
        have rf2 := HE.out.out.frozen 2
        have rf3 := HE.out.out.frozen 3
        have rf4 := HE.out.out.frozen 4
        have sc0 := HE.out.box.cell 0
        have sc1 := HE.out.box.cell 1
        have sc2 := HE.out.box.cell 2
        have hfin := HE.out.fin HRV.out
        have HFIN := hide hfin
        clear hfin
        go_wp2
        have hrF := HFIN.out.1
        simp only [finW] at hrF
        have cc0 := hrF.cell 0
        have cc1 := hrF.cell 1
        have cc2 := hrF.cell 2
        have cc3 := hrF.cell 3
        have cc4 := hrF.cell 4
        refine bodyPost_ret (v := .agg #[.int .i64 pg, .slice A8 ps.length c8, .string (S acc), .int .i64 a, .bool true]) (by simp [results, Try.results39, go_sem, *]) rfl HFIN.out.2
      have h1 : 1 ≤ M := by omega
      have h2 : M ≤ 200 := by omega
      have h3 : a + 5 + M ≤ j.length := by omega
      have t0 : ((a : Int) + 1).toNat = a + 1 := by omega
      have t2 : ((a : Int) + 1 + M).toNat = a + 1 + M := by omega
      have t3 : ((a : Int) + 5 + M).toNat = a + 5 + M := by omega
      have s1 : IntKind.i64.wrap ((a : Int) + 5) = (a : Int) + 5 := IntWalk.i64_in _ (by omega)
      have s2 : IntKind.i64.wrap ((a : Int) + 5 + M) = (a : Int) + 5 + M := IntWalk.i64_in _ (by omega)
      have g1 : (0 : Int) ≤ (a : Int) + 5 + M := by omega
      have g2 : (a : Int) ≤ (a : Int) + 5 + M := by omega
      have g3 : (a : Int) + 5 + M ≤ j.length := by omega
      have g4 : (a : Int) ≤ j.length := by omega
      have hsl := rec_seal HX.out HMM.out (by omega) (show a + 1 + M ≤ j.length by omega)
      have d1 : decide ((M : Int) < 1) = false := by simp; omega
      have d1n : decide (M < 1) = false := by simp; omega
      have d2 : decide ((200 : Int) < M) = false := by simp; omega
      have d2n : decide (200 < M) = false := by simp; omega
      have d3 : decide ((j.length : Int) < (a : Int) + 5 + M) = false := by simp; omega
      have hpl : ((j.take (a + 1 + M)).drop (a + 1)).length = M := by simp; omega
      have HPL := Lib.hid hpl
      have hS : wr.cell? ⟨w3.heap.size, 2, none⟩ = some (.string (S acc)) ∧ Below wr.heap.size wr wr := ⟨ca, Below.refl _ _⟩
      have hS1 : Below wr.heap.size wr wr.drew := (Below.refl _ _).drew
      by_cases hse : recB (j.take a) ((j.take (a + 1 + M)).drop (a + 1)) = (j.take (a + 5 + M)).drop a
      · have hg : goodAt j a = some ((j.take (a + 1 + M)).drop (a + 1), a + 5 + M) := by unfold goodAt; rw [if_pos hlt, HD.out, if_neg hbad, ← hsl, if_pos hse]
        have HG := Lib.hid hg
        have hne : (!(recB (j.take a) ((j.take (a + 1 + M)).drop (a + 1)) == (j.take (a + 5 + M)).drop a)) = false := by rw [hse]; simp
        clear hg hse hsl hbad hpl
        by_cases hpk : ((j.take (a + 1 + M)).drop (a + 1)).all pickOk = true
        · have HP := Lib.hid hpk
          clear hpk
          by_cases hov : 4000 < acc.length + M
          · have hn : nextOk acc ((j.take (a + 1 + M)).drop (a + 1)) = false := by unfold nextOk; rw [HPL.out]; simp; omega
            have HN := Lib.hid hn
            have do4 : decide ((4000 : Int) < (acc.length : Int) + M) = true := by simp; omega
            have s9 : IntKind.i64.wrap ((acc.length : Int) + M) = (acc.length : Int) + M := IntWalk.i64_in _ (by omega)
            clear hn hov
            go_wp2
            go_region_held3 (fun w' => w'.cell? ⟨w3.heap.size, 2, none⟩ = some (.string (S acc)) ∧ Below wr.heap.size wr w') (go_keep)
              (first | (go_at_call 40; refine (record_any (j.take a) ((j.take (a + 1 + M)).drop (a + 1)) _ (by simp; omega) (by simp; omega) (by rw [HPL.out]; omega)).mono ?_; rintro e w1 ⟨rfl, hb1⟩; obtain ⟨k1, k2⟩ := keep1 (by assumption) hb1) | (go_at_call 58; refine (picks_is HP.out _ (by rw [HPL.out]; omega)).mono ?_; rintro e w2 ⟨rfl, rfl⟩))
            have HE : Hid (RRE j pg A8 ps c8 w w3.heap.size R acc a w1) := (HI.out.to k2).no HG.out HN.out
            have rc0 := HE.out.out.cell 0
            have rc1 := HE.out.out.cell 1
            have rc2 := HE.out.out.cell 2
            have rc3 := HE.out.out.cell 3
            have rc4 := HE.out.out.cell 4
            have rf0 := HE.out.out.frozen 0
            have rf1 := HE.out.out.frozen 1
            have rf2 := HE.out.out.frozen 2
            have rf3 := HE.out.out.frozen 3
            have rf4 := HE.out.out.frozen 4
            have sc0 := HE.out.box.cell 0
            have sc1 := HE.out.box.cell 1
            have sc2 := HE.out.box.cell 2
            have hfin := HE.out.fin HRV.out
            have HFIN := hide hfin
            clear hfin
            go_wp2
            have hrF := HFIN.out.1
            simp only [finW] at hrF
            have cc0 := hrF.cell 0
            have cc1 := hrF.cell 1
            have cc2 := hrF.cell 2
            have cc3 := hrF.cell 3
            have cc4 := hrF.cell 4
            refine bodyPost_ret (v := .agg #[.int .i64 pg, .slice A8 ps.length c8, .string (S acc), .int .i64 a, .bool true]) (by simp [results, Try.results39, go_sem, *]) rfl HFIN.out.2
          · have hn : nextOk acc ((j.take (a + 1 + M)).drop (a + 1)) = true := by unfold nextOk; rw [HPL.out, HP.out]; simp; omega
            have HN := Lib.hid hn
            have do4 : decide ((4000 : Int) < (acc.length : Int) + M) = false := by simp; omega
            have s9 : IntKind.i64.wrap ((acc.length : Int) + M) = (acc.length : Int) + M := IntWalk.i64_in _ (by omega)
            clear hn hov
            go_wp2
            go_region_held3 (fun w' => w'.cell? ⟨w3.heap.size, 2, none⟩ = some (.string (S acc)) ∧ Below wr.heap.size wr w') (go_keep)
              (first | (go_at_call 40; refine (record_any (j.take a) ((j.take (a + 1 + M)).drop (a + 1)) _ (by simp; omega) (by simp; omega) (by rw [HPL.out]; omega)).mono ?_; rintro e w1 ⟨rfl, hb1⟩; obtain ⟨k1, k2⟩ := keep1 (by assumption) hb1) | (go_at_call 58; refine (picks_is HP.out _ (by rw [HPL.out]; omega)).mono ?_; rintro e w2 ⟨rfl, rfl⟩))
            have HJ : Hid (RRI j pg A8 ps c8 w w3.heap.size R _ _ (w1.setCell _ _)) := (HI.out.to k2).step HG.out HN.out
            have kf := (HI.out.to k2).box.frozen 2
            have e9 : (a : Int) + 5 + M = ((a + 5 + M : Nat) : Int) := by omega
            have E9 := Lib.hid e9
            clear e9 HI HG HN HPL HP do4 s9 hS hS1 hne ca
            go_wp2
            go_roundw
            case rel => exact ⟨_, a + 5 + M, by rw [E9.out], HJ⟩
            case measure => rw [E9.out]; simp [intOf]; omega
        · have hpk' : ((j.take (a + 1 + M)).drop (a + 1)).all pickOk = false := by simpa using hpk
          have hn : nextOk acc ((j.take (a + 1 + M)).drop (a + 1)) = false := by unfold nextOk; rw [hpk']; rfl
          have HP := Lib.hid hpk'
          have HN := Lib.hid hn
          clear hpk hpk' hn
          go_wp2
          first
          | (go_region_with ((first | (go_at_call 40; refine (record_any (j.take a) ((j.take (a + 1 + M)).drop (a + 1)) _ (by simp; omega) (by simp; omega) (by rw [HPL.out]; omega)).mono ?_; rintro e w1 ⟨rfl, hb1⟩) | (go_at_call 58; refine (picks_is HP.out _ (by rw [HPL.out]; omega)).mono ?_; rintro e w2 ⟨rfl, rfl⟩))))
          | fail
          all_goals
            have k2 := bt hS1 hb1
            have HE : Hid (RRE j pg A8 ps c8 w w3.heap.size R acc a w1) := (HI.out.to k2).no HG.out HN.out
            have rc0 := HE.out.out.cell 0
            have rc1 := HE.out.out.cell 1
            have rc2 := HE.out.out.cell 2
            have rc3 := HE.out.out.cell 3
            have rc4 := HE.out.out.cell 4
            have rf0 := HE.out.out.frozen 0
            have rf1 := HE.out.out.frozen 1
            have rf2 := HE.out.out.frozen 2
            have rf3 := HE.out.out.frozen 3
            have rf4 := HE.out.out.frozen 4
            have sc0 := HE.out.box.cell 0
            have sc1 := HE.out.box.cell 1
            have sc2 := HE.out.box.cell 2
            have hfin := HE.out.fin HRV.out
            have HFIN := hide hfin
            clear hfin
            go_wp2
            have hrF := HFIN.out.1
            simp only [finW] at hrF
            have cc0 := hrF.cell 0
            have cc1 := hrF.cell 1
            have cc2 := hrF.cell 2
            have cc3 := hrF.cell 3
            have cc4 := hrF.cell 4
            refine bodyPost_ret (v := .agg #[.int .i64 pg, .slice A8 ps.length c8, .string (S acc), .int .i64 a, .bool true]) (by simp [results, Try.results39, go_sem, *]) rfl HFIN.out.2
      · have hg : goodAt j a = none := by unfold goodAt; rw [if_pos hlt, HD.out, if_neg hbad, ← hsl, if_neg hse]
        have HG := Lib.hid hg
        have hne : (!(recB (j.take a) ((j.take (a + 1 + M)).drop (a + 1)) == (j.take (a + 5 + M)).drop a)) = true := by rw [Bool.not_eq_true', beq_eq_false_iff_ne]; exact hse
        clear hg hse hsl hbad hpl
        go_wp2
        first
        | (go_region_with ((first | (go_at_call 40; refine (record_any (j.take a) ((j.take (a + 1 + M)).drop (a + 1)) _ (by simp; omega) (by simp; omega) (by rw [HPL.out]; omega)).mono ?_; rintro e w1 ⟨rfl, hb1⟩) | (go_at_call 58; refine (picks_is HP.out _ (by rw [HPL.out]; omega)).mono ?_; rintro e w2 ⟨rfl, rfl⟩))))
        | fail
        all_goals
          have k2 := bt hS1 hb1
          have HE : Hid (RRE j pg A8 ps c8 w w3.heap.size R acc a w1) := (HI.out.to k2).none_ HG.out
          have rc0 := HE.out.out.cell 0
          have rc1 := HE.out.out.cell 1
          have rc2 := HE.out.out.cell 2
          have rc3 := HE.out.out.cell 3
          have rc4 := HE.out.out.cell 4
          have rf0 := HE.out.out.frozen 0
          have rf1 := HE.out.out.frozen 1
          have rf2 := HE.out.out.frozen 2
          have rf3 := HE.out.out.frozen 3
          have rf4 := HE.out.out.frozen 4
          have sc0 := HE.out.box.cell 0
          have sc1 := HE.out.box.cell 1
          have sc2 := HE.out.box.cell 2
          have hfin := HE.out.fin HRV.out
          have HFIN := hide hfin
          clear hfin
          go_wp2
          have hrF := HFIN.out.1
          simp only [finW] at hrF
          have cc0 := hrF.cell 0
          have cc1 := hrF.cell 1
          have cc2 := hrF.cell 2
          have cc3 := hrF.cell 3
          have cc4 := hrF.cell 4
          refine bodyPost_ret (v := .agg #[.int .i64 pg, .slice A8 ps.length c8, .string (S acc), .int .i64 a, .bool true]) (by simp [results, Try.results39, go_sem, *]) rfl HFIN.out.2
    · have HE : Hid (RRE j pg A8 ps c8 w w3.heap.size R acc a wr) := HI.out.none_ (goodAt_ge (by omega))
      clear HI
      have rc0 := HE.out.out.cell 0
      have rc1 := HE.out.out.cell 1
      have rc2 := HE.out.out.cell 2
      have rc3 := HE.out.out.cell 3
      have rc4 := HE.out.out.cell 4
      have rf0 := HE.out.out.frozen 0
      have rf1 := HE.out.out.frozen 1
      have rf2 := HE.out.out.frozen 2
      have rf3 := HE.out.out.frozen 3
      have rf4 := HE.out.out.frozen 4
      have sc0 := HE.out.box.cell 0
      have sc1 := HE.out.box.cell 1
      have sc2 := HE.out.box.cell 2
      have hfin := HE.out.fin HRV.out
      have HFIN := hide hfin
      clear hfin
      go_wp2
      have hrF := HFIN.out.1
      simp only [finW] at hrF
      have cc0 := hrF.cell 0
      have cc1 := hrF.cell 1
      have cc2 := hrF.cell 2
      have cc3 := hrF.cell 3
      have cc4 := hrF.cell 4
      refine bodyPost_ret (v := .agg #[.int .i64 pg, .slice A8 ps.length c8, .string (S acc), .int .i64 a, .bool true]) (by simp [results, Try.results39, go_sem, *]) rfl HFIN.out.2
end Go.Proofs.Ytnhnofiimidagaa
