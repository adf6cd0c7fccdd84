/-
  The walk of script.Encode.
-/
import Derived.Test.YtnhnofiimidagaaScrOf
import Derived.Test.YtnhnofiimidagaaAppend
import Derived.Test.YtnhnofiimidagaaCodeEnc
namespace Go.Proofs.Ytnhnofiimidagaa
open Go.RowKit

/-- the programs' bytes, each behind how many instructions it has -/
def scP (ps : List (List UInt8)) : List UInt8 := ps.flatMap fun p => by8 ((p.length : Int) / 6) :: p
/-- a script's bytes -/
def scB (pg : Int) (ps : List (List UInt8)) (pk : List UInt8) : List UInt8 := by8 pg :: by8 ps.length :: (scP ps ++ pk)
def scS (pg : Int) (ps : List (List UInt8)) (pk : List UInt8) : List UInt8 := if mayS pg ps pk then scB pg ps pk else []
def scE (pg : Int) (ps : List (List UInt8)) (pk : List UInt8) : Int := if mayS pg ps pk then 0 else 3
theorem mayS_iff {pg : Int} {ps : List (List UInt8)} {pk : List UInt8} (h : mayS pg ps pk = true) : (1 ≤ pg ∧ pg ≤ 64) ∧ (1 ≤ ps.length ∧ ps.length ≤ 8) ∧ pk.length ≤ 4000 ∧ (∀ p ∈ ps, decOk p = true) ∧ (∀ u ∈ pk, pickOk u = true) := by
  unfold mayS at h
  simp only [Bool.and_eq_true, decide_eq_true_eq, List.all_eq_true] at h
  exact ⟨h.1.1.1, h.1.1.2.1, h.1.1.2.2, h.1.2, h.2⟩
theorem decOk_len {s : List UInt8} (h : decOk s = true) : s.length ≤ 384 := by
  obtain ⟨h6, hm⟩ := decOk_iff' h
  have := mayP_len hm
  rw [chunk_length] at this
  omega

set_option maxRecDepth 100000 in
set_option maxHeartbeats 2000000 in
theorem scrEnc_any (pg : Int) (ps : List (List UInt8)) (pk : List UInt8) (A A2 : Option Addr) (n c m c2 : Nat) (w : World) (hr : Rd w w.heap.size 1 A n (ps.map strV)) (hr2 : Rd w w.heap.size 1 A2 m (pk.map byteV))
    (hle : ∀ x ∈ ps, x.length ≤ 1000000) (hn : n ≤ 140737488355328) (hm : m ≤ 140737488355328) :
    Calls Try.prog 22 #[scrV pg A n c A2 m c2] w fun e w' => e = .returned (.tuple #[.string (S (scS pg ps pk)), .int .i64 (scE pg ps pk)]) ∧ Below w.heap.size w w' := by
  obtain ⟨i0, hi, hz0, hz1, hz2⟩ := info_parts Try.infoU8
  have hln := hr.lenOne
  have hlm := hr2.lenOne
  have hb0 : Below w.heap.size w (w.alloc (.cells #[.int .i64 pg, .slice A n c, .slice A2 m c2] 49)) := (Below.refl _ _).alloc (Nat.le_refl _) _
  have hr1 := hr.to hb0
  have hr21 := hr2.to hb0
  have hc1 := scrMay_any pg ps pk A A2 n c m c2 _ hr1 hr21 hle hn hm
  simp only [scrV] at *
  have HC1 := hide hc1
  clear hc1
  by_cases hmay : mayS pg ps pk = true
  · obtain ⟨⟨g1, g2⟩, ⟨g3, g4⟩, g5, hps, _⟩ := mayS_iff hmay
    rw [hln] at g3 g4
    rw [hlm] at g5
    have hpl : ∀ p ∈ ps, p.length ≤ 384 := fun p hp => decOk_len (hps p hp)
    have HM := Lib.hid hmay
    have HL := Lib.hid hln
    have HL2 := Lib.hid hlm
    clear hmay hln hlm hps hle
    go_enter Try.func22, Try.ntmps22
    go_wp2_with fail
    refine (unhide HC1).mono ?_
    rintro e w1 ⟨rfl, hb1⟩
    rw [HM.out]
    have hbx : Bx w1 w.heap.size #[.int .i64 pg, .slice A n c, .slice A2 m c2] := (Bx.new _ _ _ _ rfl).to hb1
    have hr12 := hr1.to hb1
    have hr22 := hr21.to hb1
    have hbb := bt hb0 hb1
    have hlt1 := hbx.lt
    have cb0 : w1.cell? ⟨w.heap.size, 0, none⟩ = some (.int .i64 pg) := hbx.cell 0
    have cb1 : w1.cell? ⟨w.heap.size, 1, none⟩ = some (.slice A n c) := hbx.cell 1
    have hown0 : (w1.alloc (.cells #[.int .u8 pg, .int .u8 n] 5)).ownsRow w1.heap.size 5 1 (.slice (some ⟨w1.heap.size, 0, none⟩) 2 2) 2 [.int .u8 pg, .int .u8 n] := World.ownsRow_lit w1 #[.int .u8 pg, .int .u8 n] 2 (Nat.le_refl _) (by unfold maxLen; omega) rfl
    have hbz : Below w1.heap.size w1 (w1.alloc (.cells #[.int .u8 pg, .int .u8 n] 5)) := (Below.refl _ _).alloc (Nat.le_refl _) _
    clear HC1 hr hr2 hr1 hr21 hb0 hb1
    go_wp2
    go_loopw [4, 21] (fun v i wr => ∃ k : Nat, k ≤ n ∧ i = .int .i64 k ∧ (scP (ps.take k)).length ≤ k * 385 ∧ wr.ownsRow w1.heap.size 5 1 v (2 + (scP (ps.take k)).length) (bytesV (by8 pg :: by8 n :: scP (ps.take k))) ∧ Below w1.heap.size w1 wr) (fun _ i _ => n - (intOf i).toNat)
    case atStart =>
      refine ⟨0, Nat.zero_le _, rfl, by simp [scP], ?_, hbz⟩
      have : bytesV (by8 pg :: by8 n :: scP (ps.take 0)) = [.int .u8 pg, .int .u8 n] := by
        simp only [List.take_zero, scP, List.flatMap_nil, bytesV, List.map_cons, List.map_nil]
        rw [by8_val pg (by omega) (by omega), by8_val n (by omega) (by omega)]
      rw [this]
      exact hown0
    case round =>
      obtain ⟨k, hk, rfl, hlk, hown, hb⟩ := hrel
      by_cases hlt : k < n
      · obtain ⟨b, o, x, rfl, hbl', hx, g0⟩ := (hr12.below hb).one hlt
        have HT : Hid (ps.take (k + 1) = ps.take k ++ [x]) := take_snoc hx
        have hxl := hpl x (mem_of_get hx)
        have hsz := hb.size
        simp only [strV] at g0
        clear hx hpl hr12 hr22
        go_wp2_with (at_builtin; refine wpList_append_own _ rfl (.tmp 25) (.tmp 30) 47 rfl w1.heap.size 5 i0 _ 1 1 Try.underlying47 hi hz0 hz1 hz2 rfl (by decide) _ _ _ rfl (hown.alloc _) ⟨wr.heap.size, 0, none⟩ 1 1 [.int .u8 ((x.length : Int) / 6)] rfl rfl ?c1 ?c2 ?c3 ?c4 ?c5 ?_)
        case c1 => exact news_at _ _ _ _ (by simp)
        case c2 => intro u hu; simp at hu; subst hu; rfl
        case c3 => unfold maxLen; omega
        case c4 => omega
        case c5 => simp; omega
        intro v' w2 hown2 hgrow _
        have hb2 := grown1 hb hown hsz hgrow
        have hsz2 := hb2.size
        have hd1 : 2 + (scP (ps.take k)).length + 1 + (S x).size ≤ maxLen := by rw [S_size]; unfold maxLen; omega
        have hd2 : 2 + (scP (ps.take k)).length + 1 + (S x).size ≤ 140737488355328 := by rw [S_size]; omega
        have HD1 := Lib.hid hd1
        have HD2 := Lib.hid hd2
        clear hd1 hd2
        go_wp2_with (at_builtin; refine Lib.wpList_append_own_string _ rfl (.tmp 31) (.tmp 32) 47 9 rfl w1.heap.size 5 i0 Try.underlying47 Try.underlying9 hi hz0 hz1 hz2 _ _ _ rfl hown2 (S x) rfl HD1.out HD2.out hsz2 ?_; intro v3 w3 hown3 hgrow3 _)
        have hb3 := grown0 hb2 hown2 hsz2 hgrow3
        go_roundw
        case rel =>
          have e : scP (ps.take (k + 1)) = scP (ps.take k) ++ (by8 ((x.length : Int) / 6) :: x) := by
            rw [HT.out]
            simp [scP]
          refine ⟨k + 1, by omega, by go_num, ?_, ?_, hb3⟩
          · rw [e, List.length_append, List.length_cons]; omega
          · rw [e]
            rw [S_size] at hown3
            have e2 : bytesV (by8 pg :: by8 n :: (scP (ps.take k) ++ (by8 ((x.length : Int) / 6) :: x))) = bytesV (by8 pg :: by8 n :: scP (ps.take k)) ++ [.int .u8 ((x.length : Int) / 6)] ++ Lib.strCells (S x) := by
              have e3 : Lib.strCells (S x) = bytesV x := by simp [Lib.strCells, bytesV, S]
              rw [e3, ← List.cons_append, ← List.cons_append, bytesV_append, List.append_assoc]
              congr 1
              simp only [bytesV, List.map_cons, List.singleton_append]
              rw [by8_val _ (by omega) (by omega)]
            rw [e2, List.length_append, List.length_cons]
            have e4 : 2 + ((scP (ps.take k)).length + (x.length + 1)) = 2 + (scP (ps.take k)).length + 1 + x.length := by omega
            rw [e4]
            exact hown3
        case measure => simp [intOf]; omega
      · obtain rfl : k = n := by omega
        have hbx2 := hbx.to hb
        have cb2 : wr.cell? ⟨w.heap.size, 2, none⟩ = some (.slice A2 m c2) := hbx2.cell 2
        have hr23 := hr22.to hb
        have hsz := hb.size
        have hpl2 : (scP (ps.take k)).length ≤ k * 385 := hlk
        have hd1 : 2 + (scP (ps.take k)).length + m ≤ maxLen := by unfold maxLen; omega
        have hd2 : (2 + (scP (ps.take k)).length + m) * 1 ≤ 140737488355328 := by omega
        have HD1 := Lib.hid hd1
        have HD2 := Lib.hid hd2
        clear hd1 hd2
        go_wp2_with (at_builtin; refine wpList_append_rd _ rfl (.tmp 35) (.tmp 37) 47 rfl w1.heap.size 5 i0 _ 1 1 Try.underlying47 hi hz0 hz1 hz2 rfl (by decide) _ _ _ rfl hown _ A2 m c2 _ rfl hr23 (bytesV_one pk) HD1.out HD2.out hsz ?_; intro v4 w4 hown4 hgrow4)
        have hb4 := grown0 hb hown hsz hgrow4
        obtain ⟨A4, c4, rfl⟩ := own_shape hown4
        rw [← bytesV_eq, ← bytesV_append] at hown4
        have hcv := run_str (P := Try.prog) (Rd.of_own hown4) _ _ _ c4 Try.underlying47 Try.underlying5 Try.underlying9
        rw [hcv]
        go_wp2
        go_ret2
        refine ⟨?_, bt hbb hb4⟩
        have e1 : ps.take k = ps := List.take_of_length_le (by rw [HL.out]; exact Nat.le_refl _)
        simp only [scS, scE, HM.out, if_true, scB, HL.out, e1]
        rfl
  · have hmay' : mayS pg ps pk = false := by simpa using hmay
    have HM := Lib.hid hmay'
    clear hmay hmay' hln hlm hle
    go_enter Try.func22, Try.ntmps22
    go_wp2_with fail
    refine (unhide HC1).mono ?_
    rintro e w1 ⟨rfl, hb1⟩
    rw [HM.out]
    go_wp2
    go_ret2
    exact ⟨by simp only [scS, scE, HM.out]; rfl, bt hb0 hb1⟩
end Go.Proofs.Ytnhnofiimidagaa
