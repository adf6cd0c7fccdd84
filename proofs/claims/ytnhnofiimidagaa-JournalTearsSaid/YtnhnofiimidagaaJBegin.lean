/-
  The heads of journals: journal.Begin, bailiwickref27.Begin.
-/
import Derived.Test.YtnhnofiimidagaaJLow
import Derived.Test.YtnhnofiimidagaaScrBack
namespace Go.Proofs.Ytnhnofiimidagaa
open Go.RowKit

/-- what a head's sum is of -/
def headB (b : List UInt8) : List UInt8 := [66, 76, 87, 75] ++ lowB b.length 2 ++ b
/-- a text with its sum -/
def sealB (a s : List UInt8) : List UInt8 := s ++ lowB (sumN (a ++ s)) 4
def bgB (pg : Int) (ps : List (List UInt8)) : List UInt8 := sealB [] (headB (scB pg ps []))
def bgS (pg : Int) (ps : List (List UInt8)) : List UInt8 := if mayS pg ps [] then bgB pg ps else []
theorem headB_len (b : List UInt8) : (headB b).length = 6 + b.length := by simp [headB, lowB_len]; omega
theorem magic_append (l : List UInt8) : ByteArray.mk #[66, 76, 87, 75] ++ S l = S ([66, 76, 87, 75] ++ l) := S_append [66, 76, 87, 75] l
theorem may_bytes {pg : Int} {ps : List (List UInt8)} {pk : List UInt8} (h : mayS pg ps pk = true) : (scB pg ps pk).length ≤ 3082 + pk.length := by
  obtain ⟨_, ⟨_, g4⟩, _, hps, _⟩ := mayS_iff h
  have := scP_len ps (fun p hp => decOk_len (hps p hp))
  simp only [scB, List.length_cons, List.length_append]
  omega

set_option maxRecDepth 100000 in
set_option maxHeartbeats 2000000 in
theorem begin_any (pg : Int) (ps : List (List UInt8)) (A A2 : Option Addr) (n c m c2 : Nat) (w : World) (hr : Rd w w.heap.size 1 A n (ps.map strV)) (hle : ∀ x ∈ ps, x.length ≤ 1000000) (hn : n ≤ 140737488355328) :
    Calls Try.prog 32 #[scrV pg A n c A2 m c2] w fun e w' => e = .returned (.tuple #[.string (S (bgS pg ps)), .int .i64 (scE pg ps [])]) ∧ Below w.heap.size w w' := by
  have hb0 : Below w.heap.size w (w.alloc (.cells #[.int .i64 pg, .slice A n c, .slice none 0 0] 49)) := (Below.refl _ _).alloc (Nat.le_refl _) _
  have hr0 := hr.to hb0
  have henc := fun w hr => scrEnc_any pg ps [] A none n c 0 0 w hr Rd.none_ hle hn (by omega)
  simp only [scrV] at *
  have HENC := hide henc
  clear henc hr
  by_cases hm : mayS pg ps [] = true
  · have hlb := may_bytes hm
    obtain ⟨b, hb⟩ : ∃ b, scB pg ps [] = b := ⟨_, rfl⟩
    have e1 : scS pg ps [] = b := by unfold scS; rw [hm]; exact hb
    have e2 : scE pg ps [] = 0 := by unfold scE; rw [hm]; rfl
    have e3 : bgS pg ps = sealB [] (headB b) := by unfold bgS bgB; rw [hm, hb]; rfl
    have E1 := Lib.hid e1
    have E2 := Lib.hid e2
    have E3 := Lib.hid e3
    rw [hb] at hlb
    simp only [List.length_nil, Nat.add_zero] at hlb
    have hll := lowB_len b.length 2
    have hmg := magic_append (lowB b.length 2)
    clear e1 e2 e3 hb hm hle
    go_enter Try.func32, Try.ntmps32
    go_wp2_with fail
    refine (unhide HENC _ hr0).mono ?_
    rintro e w1 ⟨rfl, hb1⟩
    rw [E1.out, E2.out]
    go_wp2_with fail
    refine (low_any b.length 2 _ (by omega)).mono ?_
    rintro e w2 ⟨rfl, hb2⟩
    go_wp2_with fail
    refine (sealed_any [] (headB b) w2 (by rw [headB_len]; simp; omega)).mono ?_
    rintro e w3 ⟨rfl, hb3⟩
    go_wp2
    go_ret2
    exact ⟨by rw [E3.out, E2.out]; rfl, bt (bt (bt hb0 hb1) hb2) hb3⟩
  · have hm' : mayS pg ps [] = false := by simpa using hm
    have e1 : scS pg ps [] = [] := by unfold scS; rw [hm']; rfl
    have e2 : scE pg ps [] = 3 := by unfold scE; rw [hm']; rfl
    have e3 : bgS pg ps = [] := by unfold bgS; rw [hm']; rfl
    have E1 := Lib.hid e1
    have E2 := Lib.hid e2
    have E3 := Lib.hid e3
    clear e1 e2 e3 hm hm' hle
    go_enter Try.func32, Try.ntmps32
    go_wp2_with fail
    refine (unhide HENC _ hr0).mono ?_
    rintro e w1 ⟨rfl, hb1⟩
    rw [E1.out, E2.out]
    go_wp2
    go_ret2
    exact ⟨by rw [E3.out, E2.out]; rfl, bt hb0 hb1⟩

theorem two_cells (N : Nat) (hN : N < 65536) : bytesV (lowB N 2) = [.int .u8 ((N : Int) % 256), .int .u8 ((N : Int) / 256)] := by
  have e : lowB N 2 = [UInt8.ofNat (N / 2 ^ (8 * 0)), UInt8.ofNat (N / 2 ^ (8 * 1))] := rfl
  have h0 : ((UInt8.ofNat (N / 2 ^ (8 * 0))).toNat : Int) = (N : Int) % 256 := by rw [UInt8.toNat_ofNat']; omega
  have h1 : ((UInt8.ofNat (N / 2 ^ (8 * 1))).toNat : Int) = (N : Int) / 256 := by rw [UInt8.toNat_ofNat']; omega
  rw [e]
  simp only [bytesV, List.map_cons, List.map_nil, h0, h1]
theorem run_two {P : Program} (w : World) (N : Nat) (hN : N < 65536) (t src dst e : TypeId) (c : Nat) (hs : P.underlying src = some (.slice e)) (he : P.underlying e = some (.int .u8)) (hd : P.underlying dst = some .string) :
    (convert src dst (.slice (some ⟨w.heap.size, 0, none⟩) 2 c)).run P (w.alloc (.cells #[.int .u8 ((N : Int) % 256), .int .u8 ((N : Int) / 256)] t)) = .ok (.string (S (lowB N 2))) (w.alloc (.cells #[.int .u8 ((N : Int) % 256), .int .u8 ((N : Int) / 256)] t)) := by
  have hr := Rd.of_new (n := 2) (size := 1) w (bytesV (lowB N 2)) t w.heap.size rfl (by rw [bytesV_length, lowB_len])
  have h := run_str (P := P) hr src dst e c hs he hd
  rw [two_cells N hN] at h
  exact h

set_option maxRecDepth 100000 in
set_option maxHeartbeats 2000000 in
theorem rbegin_any (pg : Int) (ps : List (List UInt8)) (pk : List UInt8) (A : Option Addr) (n c : Nat) (w : World) (hr : Rd w w.heap.size 1 A n (ps.map strV)) (hm : mayS pg ps [] = true) :
    Calls Try.prog 35 #[rscrV pg A n c pk] w fun e w' => e = .returned (.string (S (bgB pg ps))) ∧ Below w.heap.size w w' := by
  have hln := hr.lenOne
  have hb0 : Below w.heap.size w (w.alloc (.cells #[.int .i64 pg, .slice A n c, .string (ByteArray.mk #[])] 44)) := (Below.refl _ _).alloc (Nat.le_refl _) _
  have hr0 := hr.to hb0
  obtain ⟨⟨g1, g2⟩, ⟨g3, g4⟩, _, hps, _⟩ := mayS_iff hm
  rw [hln] at g3 g4
  have hby := fun w hr => rbytesS_any pg ps [] A n c w hr (fun p hp => decOk_len (hps p hp)) ⟨g1, g2⟩ ⟨g3, g4⟩ (by simp)
  have hlb := may_bytes hm
  obtain ⟨b, hb⟩ : ∃ b, scB pg ps [] = b := ⟨_, rfl⟩
  have e3 : bgB pg ps = sealB [] (headB b) := by unfold bgB; rw [hb]
  have E3 := Lib.hid e3
  rw [hb] at hlb hby
  simp only [List.length_nil, Nat.add_zero] at hlb
  simp only [rscrV] at *
  have HBY := hide hby
  have hll := lowB_len b.length 2
  have hl4 := lowB_len (sumN (headB b)) 4
  have hhl := headB_len b
  have hmg := magic_append (lowB b.length 2)
  have hcv := fun w => run_two (P := Try.prog) w b.length (by omega) 5 _ _ _ 2 Try.underlying47 Try.underlying5 Try.underlying9
  clear e3 hb hm hby hr hps
  go_enter Try.func35, Try.ntmps35
  go_wp2_with fail
  refine (unhide HBY _ hr0).mono ?_
  rintro e w1 ⟨rfl, hb1⟩
  clear HBY hr0
  go_wp2_with fail
  have hb2 : Below w1.heap.size w1 (w1.alloc (.cells #[.int .u8 ((b.length : Int) % 256), .int .u8 ((b.length : Int) / 256)] 5)) := (Below.refl _ _).alloc (Nat.le_refl _) _
  refine (rsum_any (headB b) _ (by omega)).mono ?_
  rintro e w2 ⟨rfl, rfl⟩
  go_wp2_with fail
  refine (four_any (sumN (headB b)) _ (sumN_lt _)).mono ?_
  rintro e w3 ⟨rfl, hb3⟩
  go_wp2
  go_ret
  exact ⟨by rw [E3.out]; rfl, bt (bt (bt hb0 hb1) hb2) hb3⟩
end Go.Proofs.Ytnhnofiimidagaa
