/-
  The walk of journal.Add.
-/
import Derived.Test.YtnhnofiimidagaaJRead
namespace Go.Proofs.Ytnhnofiimidagaa
open Go.RowKit

/-- what Add hands back -/
def addE (j pk : List UInt8) : Int := if readE j = 3 ∨ readT j = true ∨ pk.length < 1 ∨ 200 < pk.length then 3 else if pk.all pickOk = true then if 4000 < (readV j).1.2.2.length + pk.length then 8 else 0 else 3
def addS (j pk : List UInt8) : List UInt8 := if addE j pk = 0 then j ++ recB j pk else []
theorem readE_or (j : List UInt8) : readE j = 0 ∨ readE j = 3 := by
  unfold readE
  split
  · exact .inl rfl
  · exact .inr rfl
theorem readL_le (j : List UInt8) : ∀ (f : Nat) (acc : List UInt8) (a : Nat), acc.length ≤ 4000 → (readL j f acc a).1.length ≤ 4000
  | 0, acc, a, h => h
  | f + 1, acc, a, h => by
    unfold readL
    cases hg : goodAt j a with
    | none => exact h
    | some q =>
      simp only
      split
      · rename_i hn
        unfold nextOk at hn
        simp only [Bool.and_eq_true, decide_eq_true_eq] at hn
        exact readL_le j f _ _ (by rw [List.length_append]; exact hn.2)
      · exact h
theorem readV_le (j : List UInt8) : (readV j).1.2.2.length ≤ 4000 := by
  unfold readV readO
  cases headO j with
  | none => simp
  | some q => exact readL_le j _ _ _ (by simp)
theorem read4 {j : List UInt8} (h : readE j = 0) : 10 ≤ j.length := by
  unfold readE readO at h
  cases hh : headO j with
  | none => rw [hh] at h; simp at h
  | some q =>
    unfold headO at hh
    split at hh
    · cases hh
    split at hh
    · cases hh
    omega
/-- the read picks -/
def ReadE (j : List UInt8) (w : World) (e : Ending) (w' : World) : Prop :=
  ∃ A n c A2 m c2, e = .returned (.tuple #[.agg #[.int .i64 (readV j).1.1, .slice A n c, .slice A2 m c2, .int .i64 (readV j).2, .bool (readT j)], .int .i64 (readE j)]) ∧
    Rd w' w'.heap.size 1 A n ((readV j).1.2.1.map strV) ∧ Rd w' w'.heap.size 1 A2 m ((readV j).1.2.2.map byteV) ∧ m = (readV j).1.2.2.length ∧ Below w.heap.size w w'
theorem readE_any (j : List UInt8) (w : World) (hj : j.length ≤ 1000000) : Calls Try.prog 36 #[.string (S j)] w (ReadE j w) := by
  refine (read_any j w hj).mono ?_
  rintro e w' ⟨A, n, c, A2, m, c2, rfl, h1, h2, hb⟩
  have := h2.lenOne
  exact ⟨A, n, c, A2, m, c2, rfl, h1, h2, this.symm, hb⟩

/-- what a region that reads the picks keeps -/
def KeepRd (A2 : Option Addr) (m : Nat) (xs : List Value) (w2 W : World) : Prop := Rd W W.heap.size 1 A2 m xs ∧ Below w2.heap.size w2 W
section
variable {A2 : Option Addr} {m : Nat} {xs : List Value} {w2 W W' : World}
theorem KeepRd.alloc (h : KeepRd A2 m xs w2 W) (o : Obj) : KeepRd A2 m xs w2 (W.alloc o) := ⟨h.1.to ((Below.refl _ _).alloc (Nat.le_refl _) _), h.2.alloc h.2.size _⟩
theorem KeepRd.drew (h : KeepRd A2 m xs w2 W) : KeepRd A2 m xs w2 W.drew := ⟨h.1, h.2.drew⟩
theorem KeepRd.below (h : KeepRd A2 m xs w2 W) (hb : Below W.heap.size W W') : KeepRd A2 m xs w2 W' := ⟨h.1.to hb, bt h.2 hb⟩
end

set_option maxRecDepth 100000 in
set_option maxHeartbeats 4000000 in
theorem add_any (j pk : List UInt8) (A2 : Option Addr) (m c2 : Nat) (w : World) (hr2 : Rd w w.heap.size 1 A2 m (pk.map byteV)) (hj : j.length ≤ 900000) (hm : m ≤ 100000) :
    Calls Try.prog 38 #[.string (S j), .slice A2 m c2] w fun e w' => e = .returned (.tuple #[.string (S (addS j pk)), .int .i64 (addE j pk)]) ∧ Below w.heap.size w w' := by
  have hln := hr2.lenOne
  have hread := readE_any j w (by omega)
  have HREAD := hide hread
  have bad : addE j pk = 3 → addS j pk = [] ∧ addE j pk = 3 := fun h => ⟨by unfold addS; rw [h]; rfl, h⟩
  clear hread
  rcases readE_or j with he | he
  · by_cases ht : readT j = true
    · obtain ⟨b1, b2⟩ := bad (by unfold addE; rw [if_pos (.inr (.inl ht))])
      have B1 := Lib.hid b1
      have B2 := Lib.hid b2
      have HE := Lib.hid he
      have HT := Lib.hid ht
      clear b1 b2 he ht bad hln
      go_enter Try.func38, Try.ntmps38
      go_wp2_with fail
      refine (unhide HREAD).mono ?_
      rintro e w1 ⟨A, n, c, A3, m3, c3, rfl, _, _, _, hb1⟩
      rw [HE.out, HT.out]
      clear HREAD
      go_wp2
      go_ret2
      exact ⟨by rw [B1.out, B2.out]; rfl, hb1.alloc hb1.size _⟩
    · have ht' : readT j = false := by simpa using ht
      by_cases h1 : m < 1
      · obtain ⟨b1, b2⟩ := bad (by unfold addE; rw [if_pos (.inr (.inr (.inl (by omega))))])
        have B1 := Lib.hid b1
        have B2 := Lib.hid b2
        have HE := Lib.hid he
        have HT := Lib.hid ht'
        clear b1 b2 he ht ht' bad hln
        go_enter Try.func38, Try.ntmps38
        go_wp2_with fail
        refine (unhide HREAD).mono ?_
        rintro e w1 ⟨A, n, c, A3, m3, c3, rfl, _, _, _, hb1⟩
        rw [HE.out, HT.out]
        clear HREAD
        go_wp2
        go_ret2
        exact ⟨by rw [B1.out, B2.out]; rfl, hb1.alloc hb1.size _⟩
      by_cases h2 : 200 < m
      · obtain ⟨b1, b2⟩ := bad (by unfold addE; rw [if_pos (.inr (.inr (.inr (by omega))))])
        have B1 := Lib.hid b1
        have B2 := Lib.hid b2
        have HE := Lib.hid he
        have HT := Lib.hid ht'
        clear b1 b2 he ht ht' bad hln
        go_enter Try.func38, Try.ntmps38
        go_wp2_with fail
        refine (unhide HREAD).mono ?_
        rintro e w1 ⟨A, n, c, A3, m3, c3, rfl, _, _, _, hb1⟩
        rw [HE.out, HT.out]
        clear HREAD
        go_wp2
        go_ret2
        exact ⟨by rw [B1.out, B2.out]; rfl, hb1.alloc hb1.size _⟩
      have hor : ¬ (readE j = 3 ∨ readT j = true ∨ pk.length < 1 ∨ 200 < pk.length) := by rw [he, ht', hln]; simp; omega
      have hmy := fun w hr => jmay_any pk A2 m c2 w hr (by omega)
      have HMY := hide hmy
      have h40 : pk.length ≤ 4000 := by omega
      clear hmy
      by_cases hall : pk.all pickOk = true
      · have hmv : (decide (pk.length ≤ 4000) && pk.all pickOk) = true := by rw [hall]; simpa using h40
        have HMV := Lib.hid hmv
        by_cases hl : 4000 < (readV j).1.2.2.length + pk.length
        · have b2 : addE j pk = 8 := by unfold addE; rw [if_neg hor, if_pos hall, if_pos hl]
          have b1 : addS j pk = [] := by unfold addS; rw [b2]; rfl
          have B1 := Lib.hid b1
          have B2 := Lib.hid b2
          have HE := Lib.hid he
          have HT := Lib.hid ht'
          have HL := Lib.hid hl
          have HLN := Lib.hid hln
          clear b1 b2 he ht ht' bad hln hl hor hmv hall
          go_enter Try.func38, Try.ntmps38
          go_wp2_with fail
          refine (unhide HREAD).mono ?_
          rintro e w1 ⟨A, n, c, A3, m3, c3, rfl, _, _, hm3, hb1⟩
          rw [HE.out, HT.out]
          have hr1 := (hr2.to hb1).to ((Below.refl _ _).alloc (Nat.le_refl _) (.cells #[.int .i64 (readV j).1.1, .slice A n c, .slice A3 m3 c3, .int .i64 (readV j).2, .bool false] 61))
          have hx1 := Bx.new w1 #[.int .i64 (readV j).1.1, .slice A n c, .slice A3 m3 c3, .int .i64 (readV j).2, .bool false] 61 w1.heap.size rfl
          have hb2 := hb1.alloc hb1.size (.cells #[.int .i64 (readV j).1.1, .slice A n c, .slice A3 m3 c3, .int .i64 (readV j).2, .bool false] 61)
          have hd : decide ((4000 : Int) < (m3 : Int) + m) = true := by have := HL.out; have := HLN.out; simp; omega
          have hm4 : m3 ≤ 4000 := by rw [hm3]; exact readV_le j
          have HM3 := Lib.hid hm3
          clear HREAD hm3
          go_wp2_with fail
          refine (unhide HMY _ hr1).mono ?_
          rintro e w2 ⟨rfl, hb3⟩
          rw [HMV.out]
          have hx2 := hx1.to hb3
          have xc2 := hx2.cell 2
          clear HMY hx1 hr1 hx2
          go_wp2
          go_ret2
          exact ⟨by rw [B1.out, B2.out]; rfl, hb2.trans (hb3.mono hb2.size)⟩
        · have b2 : addE j pk = 0 := by unfold addE; rw [if_neg hor, if_pos hall, if_neg hl]
          have b1 : addS j pk = j ++ recB j pk := by unfold addS; rw [if_pos b2]
          have B1 := Lib.hid b1
          have B2 := Lib.hid b2
          have h10 := read4 he
          have HE := Lib.hid he
          have HT := Lib.hid ht'
          have HL := Lib.hid hl
          have HLN := Lib.hid hln
          clear b1 b2 he ht ht' bad hln hl hor hmv hall
          go_enter Try.func38, Try.ntmps38
          go_wp2_with fail
          refine (unhide HREAD).mono ?_
          rintro e w1 ⟨A, n, c, A3, m3, c3, rfl, _, _, hm3, hb1⟩
          rw [HE.out, HT.out]
          have hr1 := (hr2.to hb1).to ((Below.refl _ _).alloc (Nat.le_refl _) (.cells #[.int .i64 (readV j).1.1, .slice A n c, .slice A3 m3 c3, .int .i64 (readV j).2, .bool false] 61))
          have hx1 := Bx.new w1 #[.int .i64 (readV j).1.1, .slice A n c, .slice A3 m3 c3, .int .i64 (readV j).2, .bool false] 61 w1.heap.size rfl
          have hb2 := hb1.alloc hb1.size (.cells #[.int .i64 (readV j).1.1, .slice A n c, .slice A3 m3 c3, .int .i64 (readV j).2, .bool false] 61)
          have hd : decide ((4000 : Int) < (m3 : Int) + m) = false := by have := HL.out; have := HLN.out; simp; omega
          have hm4 : m3 ≤ 4000 := by rw [hm3]; exact readV_le j
          have HM3 := Lib.hid hm3
          clear HREAD hm3
          go_wp2_with fail
          refine (unhide HMY _ hr1).mono ?_
          rintro e w2 ⟨rfl, hb3⟩
          rw [HMV.out]
          have hx2 := hx1.to hb3
          have xc2 := hx2.cell 2
          have hr3 := hr1.to hb3
          have hb4 := hb2.trans (hb3.mono hb2.size)
          clear HMY hx1 hr1 hx2 hb1 hb2 hb3 hr2
          go_wp2
          have hS : KeepRd A2 m (pk.map byteV) w2 w2 := ⟨hr3, Below.refl _ _⟩
          have h54 : ∀ W : World, KeepRd A2 m (pk.map byteV) w2 W → (convert 47 9 (.slice A2 m c2)).run Try.prog W = .ok (.string (S pk)) W := fun W h => run_str (by have := h.1; rw [← bytesV_eq] at this; exact this) _ _ _ c2 Try.underlying47 Try.underlying5 Try.underlying9
          have h54a := h54 _ hS.drew
          have h54b := h54 _ (hS.alloc (.cells #[.int .u8 m] 5)).drew
          have hp2 : pk.length ≤ 200 := by rw [HLN.out]; omega
          have hl4 := lowB_len (sumN (j.drop (j.length - 4) ++ by8 m :: pk)) 4
          have hbF := hb4.trans ((hS.alloc (.cells #[.int .u8 m] 5)).drew.2.mono hb4.size)
          have h52 : ∀ (W : World) (g : Nat), g = W.heap.size → (convert 47 9 (.slice (some ⟨g, 0, none⟩) 1 1)).run Try.prog (W.alloc (.cells #[.int .u8 m] 5)) = .ok (.string (S [by8 m])) (W.alloc (.cells #[.int .u8 m] 5)) := fun W g hg => by
            subst hg
            have e1 : bytesV [by8 (m : Int)] = [.int .u8 (m : Int)] := by
              simp only [bytesV, List.map_cons, List.map_nil]
              rw [by8_val _ (by omega) (by omega)]
            have hr := Rd.of_new (n := 1) (size := 1) W (bytesV [by8 (m : Int)]) 5 W.heap.size rfl rfl
            have hcv := run_str (P := Try.prog) hr _ _ _ 1 Try.underlying47 Try.underlying5 Try.underlying9
            rw [e1] at hcv
            exact hcv
          have h52d : ∀ (W : World) (g : Nat), g = W.heap.size → (convert 47 9 (.slice (some ⟨g, 0, none⟩) 1 1)).run Try.prog (W.alloc (.cells #[.int .u8 m] 5)).drew = .ok (.string (S [by8 m])) (W.alloc (.cells #[.int .u8 m] 5)).drew := fun W g hg => by
            subst hg
            have e1 : bytesV [by8 (m : Int)] = [.int .u8 (m : Int)] := by
              simp only [bytesV, List.map_cons, List.map_nil]
              rw [by8_val _ (by omega) (by omega)]
            have hr : Rd (W.alloc (.cells (bytesV [by8 (m : Int)]).toArray 5)).drew (W.heap.size + 1) 1 (some ⟨W.heap.size, 0, none⟩) 1 (bytesV [by8 (m : Int)]) := Rd.of_new (n := 1) (size := 1) W (bytesV [by8 (m : Int)]) 5 W.heap.size rfl rfl
            have hcv := run_str (P := Try.prog) hr _ _ _ 1 Try.underlying47 Try.underlying5 Try.underlying9
            rw [e1] at hcv
            exact hcv
          have s5 : IntKind.u8.wrap (m : Int) = m := IntWalk.u8_in _ (by omega)
          have s1 : IntKind.i64.wrap ((j.length : Int) - 4) = (j.length : Int) - 4 := IntWalk.i64_in _ (by omega)
          have g1 : (0 : Int) ≤ (j.length : Int) - 4 := by omega
          have g2 : (j.length : Int) - 4 ≤ j.length := by omega
          have g3 : (4 : Int) ≤ j.length := by omega
          have t1 : ((j.length : Int) - 4).toNat = j.length - 4 := by omega
          clear hr3 xc2 h54 hS hb4
          go_region_with ((go_at_call 52; refine (sealed_any (j.drop (j.length - 4)) (by8 m :: pk) _ (by simp; omega)).mono ?_; rintro e w3 ⟨rfl, hb5⟩))
          all_goals
            go_wp2
            go_ret2
            refine ⟨?_, hbF.trans (hb5.mono hbF.size)⟩
            rw [B1.out, B2.out, recB, HLN.out]
            rfl
      · have hall' : pk.all pickOk = false := by simpa using hall
        have hmv : (decide (pk.length ≤ 4000) && pk.all pickOk) = false := by rw [hall']; simp
        have HMV := Lib.hid hmv
        obtain ⟨b1, b2⟩ := bad (by unfold addE; rw [if_neg hor, if_neg hall])
        have B1 := Lib.hid b1
        have B2 := Lib.hid b2
        have HE := Lib.hid he
        have HT := Lib.hid ht'
        clear b1 b2 he ht ht' bad hln hor hmv hall hall'
        go_enter Try.func38, Try.ntmps38
        go_wp2_with fail
        refine (unhide HREAD).mono ?_
        rintro e w1 ⟨A, n, c, A3, m3, c3, rfl, _, _, hm3, hb1⟩
        rw [HE.out, HT.out]
        have HM3 := Lib.hid hm3
        clear hm3
        have hr1 := (hr2.to hb1).to ((Below.refl _ _).alloc (Nat.le_refl _) (.cells #[.int .i64 (readV j).1.1, .slice A n c, .slice A3 m3 c3, .int .i64 (readV j).2, .bool false] 61))
        have hb2 := hb1.alloc hb1.size (.cells #[.int .i64 (readV j).1.1, .slice A n c, .slice A3 m3 c3, .int .i64 (readV j).2, .bool false] 61)
        clear HREAD
        go_wp2_with fail
        refine (unhide HMY _ hr1).mono ?_
        rintro e w2 ⟨rfl, hb3⟩
        rw [HMV.out]
        clear HMY hr1
        go_wp2
        go_ret2
        exact ⟨by rw [B1.out, B2.out]; rfl, hb2.trans (hb3.mono hb2.size)⟩
  · obtain ⟨b1, b2⟩ := bad (by unfold addE; rw [if_pos (.inl he)])
    have B1 := Lib.hid b1
    have B2 := Lib.hid b2
    have HE := Lib.hid he
    clear b1 b2 he bad hln
    go_enter Try.func38, Try.ntmps38
    go_wp2_with fail
    refine (unhide HREAD).mono ?_
    rintro e w1 ⟨A, n, c, A3, m3, c3, rfl, _, _, _, hb1⟩
    rw [HE.out]
    clear HREAD
    go_wp2
    go_ret2
    exact ⟨by rw [B1.out, B2.out]; rfl, hb1.alloc hb1.size _⟩
end Go.Proofs.Ytnhnofiimidagaa
