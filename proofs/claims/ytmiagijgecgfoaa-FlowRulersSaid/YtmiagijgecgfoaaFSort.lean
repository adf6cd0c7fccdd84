/-
  slices.Sort and slices.Compact at two integers.
-/
import Derived.Test.YtmiagijgecgfoaaTGoes
import Derived.BigRegion
import Derived.Lib.SliceRun
namespace Go.Proofs.Ytmiagijgecgfoaa
open Go.RowKit

theorem less_any (a b : Int) (w : World) : Calls Try.prog 83 #[.int .i64 a, .int .i64 b] w fun e w' => e = .returned (.bool (decide (a < b))) ∧ w' = w := by
  go_enter Try.func83, Try.ntmps83
  go_wp2
  go_ret
  simp

theorem zeroI : ∀ w, (zeroValue 3).run Try.prog w = .ok (.int .i64 0) w := fun w => by
  have hi : (Try.prog.info? 3).map (fun i => i.zero) = some (some (.int .i64 0)) := by kernel_rfl
  cases hq : Try.prog.info? 3 with
  | none => rw [hq] at hi; simp at hi
  | some i =>
    rw [hq] at hi
    simp only [Option.map_some, Option.some.injEq] at hi
    simp [zeroValue, typeInfo, hq, hi]
/-- two integers lie in a block of their own -/
def Two (w : World) (g : Nat) (a b : Int) (wr : World) : Prop := Bx wr g #[.int .i64 a, .int .i64 b] ∧ ∀ B, B ≤ g → B ≤ w.heap.size → Below B w wr

theorem Two.drewN {w wr : World} {g : Nat} {a b : Int} (h : Two w g a b wr) (n : Nat) : Two w g a b (wr.drewN n) :=
  ⟨h.1.to (below_drewN (Below.refl _ _) n), fun B h1 h2 => (h.2 B h1 h2).trans ((below_drewN (Below.refl _ _) n : Below wr.heap.size wr _).mono (Nat.le_trans h2 (h.2 B h1 h2).size))⟩
theorem Two.drew {w wr : World} {g : Nat} {a b : Int} (h : Two w g a b wr) : Two w g a b wr.drew :=
  ⟨h.1.to ((Below.refl _ _).drew), fun B h1 h2 => (h.2 B h1 h2).drew⟩
theorem Two.swap {w wr : World} {g : Nat} {a b : Int} (h : Two w g a b wr) : Two w g b a ((wr.setCell ⟨g, 1, none⟩ (.int .i64 a)).setCell ⟨g, 0, none⟩ (.int .i64 b)) := by
  refine ⟨?_, fun B h1 h2 => ((h.2 B h1 h2).setCell (p := ⟨g, 1, none⟩) h1 _).setCell (p := ⟨g, 0, none⟩) h1 _⟩
  have := (h.1.set_ 1 (.int .i64 a)).set_ 0 (.int .i64 b)
  simpa using this

set_option maxRecDepth 100000 in
set_option maxHeartbeats 4000000 in
theorem ins2_le {w : World} {g : Nat} {a b : Int} (h : Two w g a b w) (hab : a ≤ b) :
    Calls Try.prog 77 #[.slice (some ⟨g, 0, none⟩) 2 2, .int .i64 0, .int .i64 2] w fun e w' => (∃ v, e = .returned v) ∧ Two w g a b w' := by
  have H0 := hide h
  clear h
  have hd : decide (b < a) = false := decide_eq_false (by omega)
  go_enter Try.func77, Try.ntmps77
  go_wp2
  go_loopw [6] (fun i wr => ∃ k : Nat, 1 ≤ k ∧ k ≤ 2 ∧ i = .int .i64 k ∧ Two w g a b wr) (fun i _ => 2 - (intOf i).toNat)
  case atStart => exact ⟨1, by omega, by omega, rfl, H0.out⟩
  case round =>
    obtain ⟨k, hk1, hk2, rfl, ht⟩ := hrel
    by_cases hk : k = 1
    · subst hk
      have HT := hide ht
      clear ht
      go_wp2
      go_loopw [7] (fun j wr => j = .int .i64 1 ∧ Two w g a b wr) (fun _ _ => 1)
      case atStart => exact ⟨rfl, HT.out⟩
      case round =>
        obtain ⟨rfl, ht⟩ := hrel
        have c0 := ht.1.cell 0
        have c1 := ht.1.cell 1
        have HT2 := hide ht
        clear ht
        go_wp2
        go_quiet ((go_at_call 83; exact Calls.quiet_of_same (less_any _ _ _)))
        go_wp2
        go_roundw
        case rel => exact ⟨2, by omega, by omega, by go_num, (unhide HT2).drewN _⟩
        case measure => simp [intOf]
    · have : k = 2 := by omega
      subst this
      have HT2 := hide ht
      clear ht
      go_wp2
      go_end0
      exact ⟨⟨_, rfl⟩, unhide HT2⟩

set_option maxRecDepth 100000 in
set_option maxHeartbeats 4000000 in
theorem ins2_gt {w : World} {g : Nat} {a b : Int} (h : Two w g a b w) (hab : b < a) :
    Calls Try.prog 77 #[.slice (some ⟨g, 0, none⟩) 2 2, .int .i64 0, .int .i64 2] w fun e w' => (∃ v, e = .returned v) ∧ Two w g b a w' := by
  have H0 := hide h
  clear h
  have hd : decide (b < a) = true := decide_eq_true (by omega)
  go_enter Try.func77, Try.ntmps77
  go_wp2
  go_loopw [6] (fun i wr => ∃ k : Nat, 1 ≤ k ∧ k ≤ 2 ∧ i = .int .i64 k ∧ ((k = 1 ∧ Two w g a b wr) ∨ (k = 2 ∧ Two w g b a wr))) (fun i _ => 2 - (intOf i).toNat)
  case atStart => exact ⟨1, by omega, by omega, rfl, .inl ⟨rfl, H0.out⟩⟩
  case round =>
    obtain ⟨k, hk1, hk2, rfl, ⟨rfl, ht⟩ | ⟨rfl, ht⟩⟩ := hrel
    · have HT := hide ht
      clear ht
      go_wp2
      go_loopw [7] (fun j wr => ∃ k : Nat, k ≤ 1 ∧ j = .int .i64 k ∧ ((k = 1 ∧ Two w g a b wr) ∨ (k = 0 ∧ Two w g b a wr))) (fun j _ => (intOf j).toNat)
      case atStart => exact ⟨1, by omega, rfl, .inl ⟨rfl, HT.out⟩⟩
      case round =>
        obtain ⟨k, hk1, rfl, ⟨rfl, ht⟩ | ⟨rfl, ht⟩⟩ := hrel
        · have c0 := ht.1.cell 0
          have c1 := ht.1.cell 1
          have HT2 := hide ht
          clear ht
          go_wp2
          go_quiet ((go_at_call 83; exact Calls.quiet_of_same (less_any _ _ _)))
          go_upto_region 6 with fail
          refine nameW ?_
          intro W1 hW1
          have ht1 : Two w g a b W1 := by rw [hW1]; exact (unhide HT2).drewN _
          have d0 := ht1.1.cell 0
          have d1 := ht1.1.cell 1
          have f0 := ht1.1.frozen 0
          have f1 := ht1.1.frozen 1
          have HT3 := hide ht1
          clear hW1 ht1 c0 c1
          go_region
          all_goals
            go_upto_region 5 with fail
            refine nameW ?_
            intro W2 hW2
            have ht2 : Two w g b a W2 := by rw [hW2]; exact (unhide HT3).swap.drew
            have HT4 := hide ht2
            clear hW2 ht2 d0 d1 f0 f1 HT3
            go_wp2
            go_roundw
            case rel => exact ⟨0, by omega, by go_num, .inr ⟨rfl, unhide HT4⟩⟩
            case measure => simp [intOf]
        · have c0 := ht.1.cell 0
          have c1 := ht.1.cell 1
          have HT2 := hide ht
          clear ht
          go_wp2
          go_quiet ((go_at_call 83; exact Calls.quiet_of_same (less_any _ _ _)))
          go_wp2
          go_roundw
          case rel => exact ⟨2, by omega, by omega, by go_num, .inr ⟨rfl, (unhide HT2).drewN _⟩⟩
          case measure => simp [intOf]
    · have HT2 := hide ht
      clear ht
      go_wp2
      go_end0
      exact ⟨⟨_, rfl⟩, unhide HT2⟩

set_option maxRecDepth 100000 in
set_option maxHeartbeats 4000000 in
theorem len2_any (w : World) : Calls Try.prog 75 #[.int .u64 2] w fun e w' => (∃ n : Int, e = .returned (.int .i64 n)) ∧ w = w' := by
  go_enter Try.func75, Try.ntmps75
  go_wp2
  go_ret
  exact ⟨⟨_, rfl⟩, rfl⟩

theorem Two.trans {w w1 w2 : World} {g : Nat} {a b c d : Int} (h : Two w g a b w1) (h2 : Two w1 g c d w2) : Two w g c d w2 :=
  ⟨h2.1, fun B h3 h4 => (h.2 B h3 h4).trans (h2.2 B h3 (Nat.le_trans h4 (h.2 B h3 h4).size))⟩

set_option maxRecDepth 100000 in
set_option maxHeartbeats 4000000 in
theorem pdq2_le {w : World} {g : Nat} {a b : Int} (h : Two w g a b w) (hab : a ≤ b) (lim : Int) :
    Calls Try.prog 74 #[.slice (some ⟨g, 0, none⟩) 2 2, .int .i64 0, .int .i64 2, .int .i64 lim] w fun e w' => (∃ v, e = .returned v) ∧ Two w g a b w' := by
  have H0 := hide h
  clear h
  go_enter Try.func74, Try.ntmps74
  go_wp2
  go_loopw [1, 2] (fun x y wr => x = .int .i64 0 ∧ y = .int .i64 2 ∧ Two w g a b wr) (fun _ _ _ => 0)
  case atStart => exact ⟨rfl, rfl, H0.out⟩
  case round =>
    obtain ⟨rfl, rfl, ht⟩ := hrel
    have HT := hide ht
    clear ht
    go_wp2_with fail
    refine (ins2_le (w := wr) ⟨(unhide HT).1, fun _ _ _ => Below.refl _ _⟩ hab).mono ?_
    rintro e w1 ⟨⟨v1, rfl⟩, h1⟩
    go_wp2
    (try simp only [Exit.inBlock, Exit.then])
    refine bodyPost_ret (results_none rfl _ _ _) rfl ?_
    exact ⟨⟨_, rfl⟩, (unhide HT).trans h1⟩
set_option maxRecDepth 100000 in
set_option maxHeartbeats 4000000 in
theorem pdq2_gt {w : World} {g : Nat} {a b : Int} (h : Two w g a b w) (hab : b < a) (lim : Int) :
    Calls Try.prog 74 #[.slice (some ⟨g, 0, none⟩) 2 2, .int .i64 0, .int .i64 2, .int .i64 lim] w fun e w' => (∃ v, e = .returned v) ∧ Two w g b a w' := by
  have H0 := hide h
  clear h
  go_enter Try.func74, Try.ntmps74
  go_wp2
  go_loopw [1, 2] (fun x y wr => x = .int .i64 0 ∧ y = .int .i64 2 ∧ Two w g a b wr) (fun _ _ _ => 0)
  case atStart => exact ⟨rfl, rfl, H0.out⟩
  case round =>
    obtain ⟨rfl, rfl, ht⟩ := hrel
    have HT := hide ht
    clear ht
    go_wp2_with fail
    refine (ins2_gt (w := wr) ⟨(unhide HT).1, fun _ _ _ => Below.refl _ _⟩ hab).mono ?_
    rintro e w1 ⟨⟨v1, rfl⟩, h1⟩
    go_wp2
    (try simp only [Exit.inBlock, Exit.then])
    refine bodyPost_ret (results_none rfl _ _ _) rfl ?_
    exact ⟨⟨_, rfl⟩, (unhide HT).trans h1⟩

set_option maxRecDepth 100000 in
set_option maxHeartbeats 4000000 in
theorem sort2_le {w : World} {g : Nat} {a b : Int} (h : Two w g a b w) (hab : a ≤ b) :
    Calls Try.prog 68 #[.slice (some ⟨g, 0, none⟩) 2 2] w fun e w' => (∃ v, e = .returned v) ∧ Two w g a b w' := by
  go_enter Try.func68, Try.ntmps68
  go_wp2_with fail
  refine (len2_any _).mono ?_
  rintro e w1 ⟨⟨n, rfl⟩, rfl⟩
  go_wp2_with fail
  refine (pdq2_le h hab n).mono ?_
  rintro e w1 ⟨⟨v1, rfl⟩, h1⟩
  have H1 := hide h1
  clear h1
  go_wp2
  go_end0
  exact ⟨⟨_, rfl⟩, unhide H1⟩
set_option maxRecDepth 100000 in
set_option maxHeartbeats 4000000 in
theorem sort2_gt {w : World} {g : Nat} {a b : Int} (h : Two w g a b w) (hab : b < a) :
    Calls Try.prog 68 #[.slice (some ⟨g, 0, none⟩) 2 2] w fun e w' => (∃ v, e = .returned v) ∧ Two w g b a w' := by
  go_enter Try.func68, Try.ntmps68
  go_wp2_with fail
  refine (len2_any _).mono ?_
  rintro e w1 ⟨⟨n, rfl⟩, rfl⟩
  go_wp2_with fail
  refine (pdq2_gt h hab n).mono ?_
  rintro e w1 ⟨⟨v1, rfl⟩, h1⟩
  have H1 := hide h1
  clear h1
  go_wp2
  go_end0
  exact ⟨⟨_, rfl⟩, unhide H1⟩

set_option maxRecDepth 100000 in
set_option maxHeartbeats 4000000 in
theorem compact2_ne {w : World} {g : Nat} {a b : Int} (h : Two w g a b w) (hab : a ≠ b) :
    Calls Try.prog 69 #[.slice (some ⟨g, 0, none⟩) 2 2] w fun e w' => e = .returned (.slice (some ⟨g, 0, none⟩) 2 2) ∧ Two w g a b w' := by
  have H0 := hide h
  clear h
  have hd : (b == a) = false := by simpa using Ne.symm hab
  have hd2 : decide (b = a) = false := decide_eq_false (Ne.symm hab)
  go_enter Try.func69, Try.ntmps69
  go_wp2
  go_loopw [3] (fun i wr => ∃ k : Nat, 1 ≤ k ∧ k ≤ 2 ∧ i = .int .i64 k ∧ Two w g a b wr) (fun i _ => 2 - (intOf i).toNat)
  case atStart => exact ⟨1, by omega, by omega, rfl, H0.out⟩
  case round =>
    obtain ⟨k, hk1, hk2, rfl, ht⟩ := hrel
    by_cases hk : k = 1
    · subst hk
      have c0 := ht.1.cell 0
      have c1 := ht.1.cell 1
      have HT := hide ht
      clear ht
      go_wp2
      go_quiet (fail)
      go_wp2
      go_roundw
      case rel => exact ⟨2, by omega, by omega, by go_num, (unhide HT).drewN _⟩
      case measure => simp [intOf]
    · have : k = 2 := by omega
      subst this
      have HT2 := hide ht
      clear ht
      go_wp2
      go_ret
      exact ⟨rfl, unhide HT2⟩

set_option maxRecDepth 100000 in
set_option maxHeartbeats 4000000 in
theorem compact2_eq {w : World} {g : Nat} {a : Int} (h : Two w g a a w) :
    Calls Try.prog 69 #[.slice (some ⟨g, 0, none⟩) 2 2] w fun e w' => e = .returned (.slice (some ⟨g, 0, none⟩) 1 2) ∧ Two w g a 0 w' := by
  have H0 := hide h
  clear h
  go_enter Try.func69, Try.ntmps69
  go_wp2
  go_loopw [3] (fun i wr => i = .int .i64 1 ∧ Two w g a a wr) (fun _ _ => 0)
  case atStart => exact ⟨rfl, H0.out⟩
  case round =>
    obtain ⟨rfl, ht⟩ := hrel
    have c0 := ht.1.cell 0
    have c1 := ht.1.cell 1
    have HT := hide ht
    clear ht
    go_wp2
    go_quiet (fail)
    go_upto_region 7 with fail
    refine nameW ?_
    intro W1 hW1
    have ht1 : Two w g a a W1 := by rw [hW1]; exact (unhide HT).drewN _
    clear hW1 c0 c1
    have c0 := ht1.1.cell 0
    have c1 := ht1.1.cell 1
    have f1 := ht1.1.frozen 1
    have hclr : (Builtin.clear_ #[78] 0 #[.slice (some ⟨g, 1, none⟩) 1 1]).run Try.prog W1 = .ok (.tuple #[]) (W1.setCell ⟨g, 1, none⟩ (.int .i64 0)) :=
      Lib.run_clear_slice (P := Try.prog) W1 78 3 0 (.int .i64 0) Try.underlying78 zeroI rfl rfl g 1 1 1 (by omega) (fun j hj => by rw [show j = 0 by omega]; exact isSome_of c1) (fun j hj => by rw [show j = 0 by omega]; exact f1)
    have ht2 : Two w g a 0 (W1.setCell ⟨g, 1, none⟩ (.int .i64 0)) := by
      refine ⟨?_, fun B h1 h2 => (ht1.2 B h1 h2).setCell (p := ⟨g, 1, none⟩) h1 _⟩
      have := ht1.1.set_ 1 (.int .i64 0)
      simpa using this
    have HT2 := hide ht2
    clear ht1 HT ht2
    go_wp2
    go_loopw [3, 5] (fun k i wr => k = .int .i64 1 ∧ i = .int .i64 1 ∧ wr = W1) (fun _ _ _ => 0)
    case atStart => exact ⟨rfl, rfl, rfl⟩
    case round =>
      obtain ⟨rfl, rfl, rfl⟩ := hrel
      go_wp2
      go_ret
      exact ⟨rfl, unhide HT2⟩
end Go.Proofs.Ytmiagijgecgfoaa
