/-
  The walk of bailiwickref13.Decode.
-/
import Derived.Test.YtmiagijgecgfoaaCodeRef
import Derived.Test.YtmiagijgecgfoaaCodeOf
import Derived.Test.YtmiagijgecgfoaaRegion
namespace Go.Proofs.Ytmiagijgecgfoaa
open Go.RowKit

theorem chunk_short : ∀ (s : List UInt8), s.length < 6 → chunk s = []
  | [], _ => rfl
  | [_], _ => by simp [chunk]
  | [_, _], _ => by simp [chunk]
  | [_, _, _], _ => by simp [chunk]
  | [_, _, _, _], _ => by simp [chunk]
  | [_, _, _, _, _], _ => by simp [chunk]
  | _ :: _ :: _ :: _ :: _ :: _ :: _, h => by simp at h; omega

set_option maxRecDepth 100000 in
set_option maxHeartbeats 2000000 in
theorem rdec_any (s : List UInt8) (w : World) (hs : s.length ≤ 1000000) :
    Calls Try.prog 13 #[.string (S s)] w fun e w' => ∃ A c, e = .returned (.tuple #[.slice A (decL s).length c, .bool (decOk s)]) ∧
      w'.ownsRow w.heap.size 73 5 (.slice A (decL s).length c) (decL s).length ((decL s).flatMap Ins.ci) ∧ Below w.heap.size w w' := by
  obtain ⟨i0, hi, hz0, hz1, hz2⟩ := info_parts Try.infoRI
  go_enter Try.func13, Try.ntmps13
  go_wp2
  go_loopw [0, 4] (fun b v wr => ∃ (done : List Ins) (rest : List UInt8), Hid (chunk s = done ++ chunk rest) ∧ Hid (done.length * 6 + rest.length = s.length) ∧ done.length * 6 ≤ 1000000 ∧ rest.length ≤ 1000000 ∧
      b = .string (S rest) ∧ wr.ownsRow w.heap.size 73 5 v done.length (done.flatMap Ins.ci) ∧ Below w.heap.size w wr) (fun b _ _ => strLen b)
  case atStart => exact ⟨[], s, rfl, by show 0 * 6 + _ = _; omega, by simp, hs, rfl, World.ownsRow_nil _ _ _ _, Below.refl _ _⟩
  case round =>
    obtain ⟨done, rest, HC, HLN, hd, hrl, rfl, hown, hb⟩ := hrel
    have hsz := hb.size
    by_cases h0 : 6 ≤ rest.length
    · obtain ⟨b0, b1, b2, b3, b4, b5, r, rfl⟩ := six rest (by omega)
      have q0 := b0.toNat_lt
      have q1 := b1.toNat_lt
      have q2 := b2.toNat_lt
      have q3 := b3.toNat_lt
      have q4 := b4.toNat_lt
      have q5 := b5.toNat_lt
      go_wp2
      have l0 : (0 : Int) < (r.length : Int) + 1 + 1 + 1 + 1 + 1 + 1 := by omega
      have l1 : (1 : Int) < (r.length : Int) + 1 + 1 + 1 + 1 + 1 + 1 := by omega
      have l2 : (2 : Int) < (r.length : Int) + 1 + 1 + 1 + 1 + 1 + 1 := by omega
      have l3 : (3 : Int) < (r.length : Int) + 1 + 1 + 1 + 1 + 1 + 1 := by omega
      have l4 : (4 : Int) < (r.length : Int) + 1 + 1 + 1 + 1 + 1 + 1 := by omega
      have l5 : (5 : Int) < (r.length : Int) + 1 + 1 + 1 + 1 + 1 + 1 := by omega
      have e0 : IntKind.i64.wrap (b0.toNat : Int) = (b0.toNat : Int) := IntWalk.i64_in _ (by omega)
      have e1 : IntKind.i64.wrap (b1.toNat : Int) = (b1.toNat : Int) := IntWalk.i64_in _ (by omega)
      have e2 : IntKind.i64.wrap (b2.toNat : Int) = (b2.toNat : Int) := IntWalk.i64_in _ (by omega)
      have e3 : IntKind.i64.wrap (b3.toNat : Int) = (b3.toNat : Int) := IntWalk.i64_in _ (by omega)
      have e4 : IntKind.i64.wrap (b4.toNat : Int) = (b4.toNat : Int) := IntWalk.i64_in _ (by omega)
      have e5 : IntKind.i64.wrap (b5.toNat : Int) = (b5.toNat : Int) := IntWalk.i64_in _ (by omega)
      have e6 : IntKind.i64.wrap (256 * (b5.toNat : Int)) = 256 * (b5.toNat : Int) := IntWalk.i64_in _ (by omega)
      have e7 : IntKind.i64.wrap ((b4.toNat : Int) + 256 * (b5.toNat : Int)) = (b4.toNat : Int) + 256 * (b5.toNat : Int) := IntWalk.i64_in _ (by omega)
      refine wp_region_pure_tail 22 (by kernel_rfl) (by kernel_rfl) (fun _ _ d _ _ h => by cases d <;> exact h) ?_
      simp only [List.take_succ_cons, List.take_zero, List.drop_succ_cons, List.drop_zero]
      iterate 22
        refine wpPure_yes (v := ?_) ?_ (fun W => ?_) ?_
        rotate_left
        · rfl
        · first | (go_simp; done) | (go_simp; with_reducible rfl)
        simp only [Act.put, List.setIfInBounds_toArray, List.set_cons_zero, List.set_cons_succ]
      refine wpPure_nil ?_
      clear e0 e1 e2 e3 e4 e5 e6 e7 l0 l1 l2 l3 l4 l5
      go_wp2_with (at_builtin; refine wpList_append_own _ rfl _ _ 32 rfl w.heap.size 73 i0 _ 5 40 Try.underlying32 hi hz0 hz1 hz2 rfl (by decide) _ _ _ rfl (hown.drew.alloc _) ⟨wr.heap.size, 0, none⟩ 1 1 (insOf b0 b1 b2 b3 b4 b5).ci rfl rfl ?c1 ?c2 ?c3 ?c4 ?c5 ?_)
      case c1 => exact news_at _ _ _ _ (by simp)
      case c2 => intro u hu; simp [Ins.ci] at hu; rcases hu with rfl | rfl | rfl | rfl | rfl <;> rfl
      case c3 => unfold maxLen; omega
      case c4 => omega
      case c5 => simp; omega
      intro v' w1 hown' hgrow _
      go_wp2
      go_roundw
      case rel =>
        refine ⟨done ++ [insOf b0 b1 b2 b3 b4 b5], r, ?_, ?_, ?_, ?_, rfl, ?_, grown1 hb.drew hown.drew hsz hgrow⟩
        · have := HC.out
          rw [chunk] at this
          rw [this]
          show _ = _
          simp
        · have := HLN.out
          simp only [List.length_cons] at this
          show _ = _
          simp only [List.length_append, List.length_cons, List.length_nil]
          omega
        · have := HLN.out
          simp only [List.length_append, List.length_cons, List.length_nil] at this ⊢
          omega
        · simp only [List.length_cons] at hrl; omega
        · simpa using hown'
      case measure => simp [strLen, S_size]; omega
    · obtain ⟨A', c', rfl⟩ := own_shape hown
      have hrd := Rd.of_own hown
      have hcs : chunk s = done := by have := HC.out; rw [chunk_short rest (by omega), List.append_nil] at this; exact this
      have hok : ∀ x ∈ done, x.ok := fun x hx => chunk_ok s x (by rw [hcs]; exact hx)
      have HCS := Lib.hid hcs
      by_cases hr0 : 0 < rest.length
      · have hdk : decOk s = false := by
          have := HLN.out
          unfold decOk
          have : ¬ s.length % 6 = 0 := by omega
          simp [this]
        have HDK := Lib.hid hdk
        clear hcs hdk HC HLN
        go_wp2
        go_ret2
        rw [(decE_no HDK.out).2, HDK.out]
        exact ⟨none, 0, rfl, World.ownsRow_nil _ _ _ _, hb⟩
      · have hdk : decOk s = mayP done := by
          have := HLN.out
          unfold decOk
          rw [hcs]
          have : s.length % 6 = 0 := by omega
          simp [this]
        have HDK := Lib.hid hdk
        clear hcs hdk HC HLN
        by_cases hm : mayP done = true
        · have HM := Lib.hid hm
          clear hm
          go_wp2_with (go_at_call 23; refine (rmay_any A' done.length c' done _ (by omega) hrd hok).mono ?_; rintro e w1 ⟨rfl, hb1⟩; rw [HM.out])
          go_ret2
          rw [HDK.out, HM.out, (decE_ok (HDK.out.trans HM.out)).2, HCS.out]
          exact ⟨A', c', rfl, own_below hown hb1 (Nat.le_refl _), hb.trans (hb1.mono hsz)⟩
        · have hm' : mayP done = false := by simpa using hm
          have HM := Lib.hid hm'
          clear hm hm'
          go_wp2_with (go_at_call 23; refine (rmay_any A' done.length c' done _ (by omega) hrd hok).mono ?_; rintro e w1 ⟨rfl, hb1⟩; rw [HM.out])
          go_ret2
          rw [HDK.out, HM.out, (decE_no (HDK.out.trans HM.out)).2]
          exact ⟨none, 0, rfl, World.ownsRow_nil _ _ _ _, hb.trans (hb1.mono hsz)⟩
end Go.Proofs.Ytmiagijgecgfoaa
