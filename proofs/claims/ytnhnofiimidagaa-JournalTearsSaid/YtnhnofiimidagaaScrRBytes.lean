/-
  The walk of bailiwickref18.Bytes.
-/
import Derived.Test.YtnhnofiimidagaaScrEnc
namespace Go.Proofs.Ytnhnofiimidagaa
open Go.RowKit

set_option maxRecDepth 100000 in
set_option maxHeartbeats 4000000 in
theorem rbytesS_any (pg : Int) (ps : List (List UInt8)) (pk : List UInt8) (A : Option Addr) (n c : Nat) (w : World) (hr : Rd w w.heap.size 1 A n (ps.map strV))
    (hle : ∀ x ∈ ps, x.length ≤ 384) (hpg : 1 ≤ pg ∧ pg ≤ 64) (hn : 1 ≤ n ∧ n ≤ 8) (hpk : pk.length ≤ 4000) :
    Calls Try.prog 26 #[rscrV pg A n c pk] w fun e w' => e = .returned (.string (S (scB pg ps pk))) ∧ Below w.heap.size w w' := by
  have hln := hr.lenOne
  obtain ⟨g1, g2⟩ := hpg
  obtain ⟨g3, g4⟩ := hn
  simp only [rscrV]
  have hb0 : Below w.heap.size w ((w.alloc (.cells #[.int .i64 pg, .slice A n c, .string (S pk)] 44)).alloc (.cells #[.int .u8 pg, .int .u8 n] 5)) := ((Below.refl _ _).alloc (Nat.le_refl _) _).alloc (by simp) _
  have hbx : Bx ((w.alloc (.cells #[.int .i64 pg, .slice A n c, .string (S pk)] 44)).alloc (.cells #[.int .u8 pg, .int .u8 n] 5)) w.heap.size #[.int .i64 pg, .slice A n c, .string (S pk)] := (Bx.new _ _ _ _ rfl).alloc _
  have hcv0 := run_str (P := Try.prog) (Rd.of_new (size := 1) (n := 2) (w.alloc (.cells #[.int .i64 pg, .slice A n c, .string (S pk)] 44)) (bytesV [by8 pg, by8 n]) 5 (w.heap.size + 1) (by simp) rfl)
    _ _ _ 2 Try.underlying47 Try.underlying5 Try.underlying9
  have hv0 : bytesV [by8 pg, by8 n] = [.int .u8 pg, .int .u8 n] := by simp only [bytesV, List.map_cons, List.map_nil]; rw [by8_val _ (by omega) (by omega), by8_val _ (by omega) (by omega)]
  rw [hv0] at hcv0
  clear hv0
  have hr1 := hr.to hb0
  have HL := Lib.hid hln
  clear hln hr
  go_enter Try.func26, Try.ntmps26
  go_wp2
  clear hcv0
  generalize (w.alloc (.cells #[.int .i64 pg, .slice A n c, .string (S pk)] 44)).alloc (.cells #[.int .u8 pg, .int .u8 n] 5) = W0 at *
  go_loopw [3, 4] (fun v i wr => ∃ k : Nat, k ≤ n ∧ i = .int .i64 k ∧ (scP (ps.take k)).length ≤ k * 385 ∧ v = .string (S (by8 pg :: by8 n :: scP (ps.take k))) ∧ Below W0.heap.size W0 wr) (fun _ i _ => n - (intOf i).toNat)
  case atStart => exact ⟨0, Nat.zero_le _, rfl, by simp [scP], rfl, Below.refl _ _⟩
  case round =>
    obtain ⟨k, hk, rfl, hlk, rfl, hb⟩ := hrel
    have hbxr := hbx.to hb
    have cb1 : wr.cell? ⟨w.heap.size, 1, none⟩ = some (.slice A n c) := hbxr.cell 1
    by_cases hlt : k < n
    · obtain ⟨b, o, x, rfl, hbl', hx, g0⟩ := (hr1.below hb).one hlt
      have HT : Hid (ps.take (k + 1) = ps.take k ++ [x]) := take_snoc hx
      have hxl := hle x (mem_of_get hx)
      have hsz := hb.size
      have hltw := hbxr.lt
      have hblw : b < wr.heap.size := by omega
      simp only [strV] at g0
      have hcv : ∀ (W' : World) (g : Nat), W'.cell? ⟨g, 0, none⟩ = some (.int .u8 ((x.length : Int) / 6)) → (convert 47 9 (.slice (some ⟨g, 0, none⟩) 1 1)).run Try.prog W' = .ok (.string (S [by8 ((x.length : Int) / 6)])) W' := by
        intro W' g hg
        refine run_str (P := Try.prog) (B := g + 1) (l := [by8 ((x.length : Int) / 6)]) ⟨rfl, fun _ => ⟨g, 0, rfl, by omega, fun j u hj => ?_⟩⟩ _ _ _ 1 Try.underlying47 Try.underlying5 Try.underlying9
        match j, hj with
        | 0, hj =>
          simp only [bytesV, List.map_cons, List.map_nil, List.getElem?_cons_zero, Option.some.injEq] at hj
          rw [← hj, by8_val _ (by omega) (by omega)]
          simpa using hg
      have k0 : (0 : Int) ≤ (k : Int) := by omega
      have k1 : (k : Int) < (n : Int) := by omega
      clear hx hle hr1
      go_wp2
      have e1 : IntKind.i64.wrap ((x.length : Int) / 6) = (x.length : Int) / 6 := IntWalk.i64_in _ (by omega)
      have e2 : IntKind.u8.wrap ((x.length : Int) / 6) = (x.length : Int) / 6 := IntWalk.u8_in _ (by omega)
      have hl1 : (scP (ps.take k)).length ≤ 4000 := by omega
      go_region
      clear e1 e2 hl1 hcv
      go_wp2
      go_roundw
      case rel =>
        have e : scP (ps.take (k + 1)) = scP (ps.take k) ++ (by8 ((x.length : Int) / 6) :: x) := by
          rw [HT.out]
          simp [scP]
        refine ⟨k + 1, by omega, by go_num, ?_, by rw [e], (hb.alloc hsz _).drew⟩
        rw [e, List.length_append, List.length_cons]
        omega
      case measure => simp [intOf]; omega
    · obtain rfl : k = n := by omega
      have cb2 : wr.cell? ⟨w.heap.size, 2, none⟩ = some (.string (S pk)) := hbxr.cell 2
      have hl1 : (scP (ps.take k)).length ≤ 4000 := by omega
      go_wp2
      go_ret
      refine ⟨?_, bt hb0 hb⟩
      have e1 : ps.take k = ps := List.take_of_length_le (by rw [HL.out]; exact Nat.le_refl _)
      simp only [scB, HL.out, e1]
      rfl
end Go.Proofs.Ytnhnofiimidagaa
