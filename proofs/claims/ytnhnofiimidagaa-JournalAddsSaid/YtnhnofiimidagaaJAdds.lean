/-
  The walk of the law JournalAdds.
-/
import Derived.Test.YtnhnofiimidagaaJBegins
namespace Go.Proofs.Ytnhnofiimidagaa
open Go.RowKit

/-- what bailiwickref27.Read hands back -/
def RRHid (j : List UInt8) (pg : Int) (ps : List (List UInt8)) (pk0 : List UInt8) (n b : Nat) (ok : Bool) : Prop :=
  ∀ w, Calls Try.prog 39 #[.string (S j)] w fun e w' => ∃ A c, e = .returned (.agg #[.int .i64 pg, .slice A n c, .string (S pk0), .int .i64 b, .bool ok]) ∧ Rd w' w'.heap.size 1 A n (ps.map strV) ∧ Below w.heap.size w w'

set_option maxRecDepth 100000 in
set_option maxHeartbeats 8000000 in
theorem jadds_a (j pk : List UInt8) (A2 : Option Addr) (m c2 : Nat) (w : World) (hr2 : Rd w w.heap.size 1 A2 m (pk.map byteV)) (hj : j.length ≤ 6000) (hm : m ≤ 300)
    (pg : Int) (ps : List (List UInt8)) (pk0 : List UInt8) (n b : Nat) (h1 : addS j pk = []) (h2 : addE j pk = 3) (hps : ∀ x ∈ ps, x.length ≤ 1000000)
    (hRR : RRHid j pg ps pk0 n b false)  :
    Calls Try.prog 9 #[.string (S j), .slice A2 m c2] w fun e w' => e = .returned (.bool true) ∧ Below w.heap.size w w' := by
  have hln := hr2.lenOne
  have hm300 : pk.length ≤ 300 := by omega
  have HL := Lib.hid hln
  have H1 := Lib.hid h1
  have H2 := Lib.hid h2
  have hrm := fun A n c w h => rmayS_any pg ps pk A n c w h hps
  simp only [rscrV] at hrm
  have HRM := hide hrm
  have HRR := hide hRR
  clear hln h1 h2 hrm hRR hps
  go_enter Try.func9, Try.ntmps9
  go_wp2_with fail
  refine (add_any j pk A2 m c2 w hr2 (by omega) (by omega)).mono ?_
  rintro e w1 ⟨rfl, hb1⟩
  rw [H1.out, H2.out]
  have hr3 := hr2.to hb1
  go_wp2_with fail
  refine (unhide HRR w1).mono ?_
  rintro e w2 ⟨A, c, rfl, hrd, hb2⟩
  have hb3 : Below w2.heap.size w2 (w2.alloc (.cells #[.int .i64 pg, .slice A n c, .string (S pk0), .int .i64 b, .bool false] 68)) := (Below.refl _ _).alloc (Nat.le_refl _) _
  have x3 := Bx.new w2 #[.int .i64 pg, .slice A n c, .string (S pk0), .int .i64 b, .bool false] 68 w2.heap.size rfl
  have hz3 : (w2.alloc (.cells #[.int .i64 pg, .slice A n c, .string (S pk0), .int .i64 b, .bool false] 68)).heap.size = w2.heap.size + 1 := by simp
  have hb4 : Below (w2.alloc (.cells #[.int .i64 pg, .slice A n c, .string (S pk0), .int .i64 b, .bool false] 68)).heap.size (w2.alloc (.cells #[.int .i64 pg, .slice A n c, .string (S pk0), .int .i64 b, .bool false] 68)) ((w2.alloc (.cells #[.int .i64 pg, .slice A n c, .string (S pk0), .int .i64 b, .bool false] 68)).alloc (.cells #[.int .i64 pg, .slice A n c, .string (S pk0)] 44)) := (Below.refl _ _).alloc (Nat.le_refl _) _
  have y4 := Bx.new (w2.alloc (.cells #[.int .i64 pg, .slice A n c, .string (S pk0), .int .i64 b, .bool false] 68)) #[.int .i64 pg, .slice A n c, .string (S pk0)] 44 (w2.heap.size + 1) (by simp)
  have hb5 : Below (w2.alloc (.cells #[.int .i64 pg, .slice A n c, .string (S pk0), .int .i64 b, .bool false] 68)).heap.size (w2.alloc (.cells #[.int .i64 pg, .slice A n c, .string (S pk0), .int .i64 b, .bool false] 68)) ((w2.alloc (.cells #[.int .i64 pg, .slice A n c, .string (S pk0), .int .i64 b, .bool false] 68)).alloc (.cells #[.int .i64 pg, .slice A n c, .string (S pk)] 44)) := (Below.refl _ _).alloc (Nat.le_refl _) _
  have x4 := x3.to hb4
  have x5 := x3.to hb5
  have y5 := Bx.new (w2.alloc (.cells #[.int .i64 pg, .slice A n c, .string (S pk0), .int .i64 b, .bool false] 68)) #[.int .i64 pg, .slice A n c, .string (S pk)] 44 (w2.heap.size + 1) (by simp)
  have hr4 := ((hr3.to hb2).to hb3).to hb4
  have hr5 := ((hr3.to hb2).to hb3).to hb5
  have hrp := (hrd.to hb3).to hb5
  have hcv := run_str (P := Try.prog) (hr4 : Rd _ _ 1 A2 m (bytesV pk)) _ _ _ c2 Try.underlying47 Try.underlying5 Try.underlying9
  have f2 := y4.frozen 2
  have v2 := y4.cell 2
  have t0 := x3.cell 0
  have t1 := x3.cell 1
  have t2 := x3.cell 2
  have hbF := bt (bt (bt hb1 hb2) hb3) hb5
  have u0 := x5.cell 0
  have u1 := x5.cell 1
  have u2 := x5.cell 2
  have u3 := x5.cell 3
  have u4 := x5.cell 4
  have z0 := y5.cell 0
  have z1 := y5.cell 1
  have z2 := y5.cell 2
  clear hr2 hr3 hb1 hb2 hb3 hb4 hb5 x3 x4 y4 hr4 hrd HRR hz3
  go_wp2_with fail
  refine (wakes27_any _).mono ?_
  rintro e w9 ⟨rfl, hc9⟩
  go_wp2
  go_ret
  exact ⟨rfl, bt hbF hc9⟩

set_option maxRecDepth 100000 in
set_option maxHeartbeats 8000000 in
theorem jadds_b (j pk : List UInt8) (A2 : Option Addr) (m c2 : Nat) (w : World) (hr2 : Rd w w.heap.size 1 A2 m (pk.map byteV)) (hj : j.length ≤ 6000) (hm : m ≤ 300)
    (pg : Int) (ps : List (List UInt8)) (pk0 : List UInt8) (n b : Nat) (h1 : addS j pk = []) (h2 : addE j pk = 3) (hps : ∀ x ∈ ps, x.length ≤ 1000000)
    (hRR : RRHid j pg ps pk0 n b true) (q1 : b < j.length) :
    Calls Try.prog 9 #[.string (S j), .slice A2 m c2] w fun e w' => e = .returned (.bool true) ∧ Below w.heap.size w w' := by
  have hln := hr2.lenOne
  have hm300 : pk.length ≤ 300 := by omega
  have HL := Lib.hid hln
  have H1 := Lib.hid h1
  have H2 := Lib.hid h2
  have hrm := fun A n c w h => rmayS_any pg ps pk A n c w h hps
  simp only [rscrV] at hrm
  have HRM := hide hrm
  have HRR := hide hRR
  clear hln h1 h2 hrm hRR hps
  go_enter Try.func9, Try.ntmps9
  go_wp2_with fail
  refine (add_any j pk A2 m c2 w hr2 (by omega) (by omega)).mono ?_
  rintro e w1 ⟨rfl, hb1⟩
  rw [H1.out, H2.out]
  have hr3 := hr2.to hb1
  go_wp2_with fail
  refine (unhide HRR w1).mono ?_
  rintro e w2 ⟨A, c, rfl, hrd, hb2⟩
  have hb3 : Below w2.heap.size w2 (w2.alloc (.cells #[.int .i64 pg, .slice A n c, .string (S pk0), .int .i64 b, .bool true] 68)) := (Below.refl _ _).alloc (Nat.le_refl _) _
  have x3 := Bx.new w2 #[.int .i64 pg, .slice A n c, .string (S pk0), .int .i64 b, .bool true] 68 w2.heap.size rfl
  have hz3 : (w2.alloc (.cells #[.int .i64 pg, .slice A n c, .string (S pk0), .int .i64 b, .bool true] 68)).heap.size = w2.heap.size + 1 := by simp
  have hb4 : Below (w2.alloc (.cells #[.int .i64 pg, .slice A n c, .string (S pk0), .int .i64 b, .bool true] 68)).heap.size (w2.alloc (.cells #[.int .i64 pg, .slice A n c, .string (S pk0), .int .i64 b, .bool true] 68)) ((w2.alloc (.cells #[.int .i64 pg, .slice A n c, .string (S pk0), .int .i64 b, .bool true] 68)).alloc (.cells #[.int .i64 pg, .slice A n c, .string (S pk0)] 44)) := (Below.refl _ _).alloc (Nat.le_refl _) _
  have y4 := Bx.new (w2.alloc (.cells #[.int .i64 pg, .slice A n c, .string (S pk0), .int .i64 b, .bool true] 68)) #[.int .i64 pg, .slice A n c, .string (S pk0)] 44 (w2.heap.size + 1) (by simp)
  have hb5 : Below (w2.alloc (.cells #[.int .i64 pg, .slice A n c, .string (S pk0), .int .i64 b, .bool true] 68)).heap.size (w2.alloc (.cells #[.int .i64 pg, .slice A n c, .string (S pk0), .int .i64 b, .bool true] 68)) ((w2.alloc (.cells #[.int .i64 pg, .slice A n c, .string (S pk0), .int .i64 b, .bool true] 68)).alloc (.cells #[.int .i64 pg, .slice A n c, .string (S pk)] 44)) := (Below.refl _ _).alloc (Nat.le_refl _) _
  have x4 := x3.to hb4
  have x5 := x3.to hb5
  have y5 := Bx.new (w2.alloc (.cells #[.int .i64 pg, .slice A n c, .string (S pk0), .int .i64 b, .bool true] 68)) #[.int .i64 pg, .slice A n c, .string (S pk)] 44 (w2.heap.size + 1) (by simp)
  have hr4 := ((hr3.to hb2).to hb3).to hb4
  have hr5 := ((hr3.to hb2).to hb3).to hb5
  have hrp := (hrd.to hb3).to hb5
  have hcv := run_str (P := Try.prog) (hr4 : Rd _ _ 1 A2 m (bytesV pk)) _ _ _ c2 Try.underlying47 Try.underlying5 Try.underlying9
  have f2 := y4.frozen 2
  have v2 := y4.cell 2
  have t0 := x3.cell 0
  have t1 := x3.cell 1
  have t2 := x3.cell 2
  have hbF := bt (bt (bt hb1 hb2) hb3) hb5
  have u0 := x5.cell 0
  have u1 := x5.cell 1
  have u2 := x5.cell 2
  have u3 := x5.cell 3
  have u4 := x5.cell 4
  have z0 := y5.cell 0
  have z1 := y5.cell 1
  have z2 := y5.cell 2
  clear hr2 hr3 hb1 hb2 hb3 hb4 hb5 x3 x4 y4 hr4 hrd HRR hz3
  go_wp2_with fail
  refine (wakes27_any _).mono ?_
  rintro e w9 ⟨rfl, hc9⟩
  go_wp2
  go_ret
  exact ⟨rfl, bt hbF hc9⟩

set_option maxRecDepth 100000 in
set_option maxHeartbeats 8000000 in
theorem jadds_c (j pk : List UInt8) (A2 : Option Addr) (m c2 : Nat) (w : World) (hr2 : Rd w w.heap.size 1 A2 m (pk.map byteV)) (hj : j.length ≤ 6000) (hm : m ≤ 300)
    (pg : Int) (ps : List (List UInt8)) (pk0 : List UInt8) (n b : Nat) (h1 : addS j pk = []) (h2 : addE j pk = 3) (hps : ∀ x ∈ ps, x.length ≤ 1000000)
    (hRR : RRHid j pg ps pk0 n b true) (q1 : ¬ b < j.length) (q2 : m < 1) :
    Calls Try.prog 9 #[.string (S j), .slice A2 m c2] w fun e w' => e = .returned (.bool true) ∧ Below w.heap.size w w' := by
  have hln := hr2.lenOne
  have hm300 : pk.length ≤ 300 := by omega
  have HL := Lib.hid hln
  have H1 := Lib.hid h1
  have H2 := Lib.hid h2
  have hrm := fun A n c w h => rmayS_any pg ps pk A n c w h hps
  simp only [rscrV] at hrm
  have HRM := hide hrm
  have HRR := hide hRR
  clear hln h1 h2 hrm hRR hps
  go_enter Try.func9, Try.ntmps9
  go_wp2_with fail
  refine (add_any j pk A2 m c2 w hr2 (by omega) (by omega)).mono ?_
  rintro e w1 ⟨rfl, hb1⟩
  rw [H1.out, H2.out]
  have hr3 := hr2.to hb1
  go_wp2_with fail
  refine (unhide HRR w1).mono ?_
  rintro e w2 ⟨A, c, rfl, hrd, hb2⟩
  have hb3 : Below w2.heap.size w2 (w2.alloc (.cells #[.int .i64 pg, .slice A n c, .string (S pk0), .int .i64 b, .bool true] 68)) := (Below.refl _ _).alloc (Nat.le_refl _) _
  have x3 := Bx.new w2 #[.int .i64 pg, .slice A n c, .string (S pk0), .int .i64 b, .bool true] 68 w2.heap.size rfl
  have hz3 : (w2.alloc (.cells #[.int .i64 pg, .slice A n c, .string (S pk0), .int .i64 b, .bool true] 68)).heap.size = w2.heap.size + 1 := by simp
  have hb4 : Below (w2.alloc (.cells #[.int .i64 pg, .slice A n c, .string (S pk0), .int .i64 b, .bool true] 68)).heap.size (w2.alloc (.cells #[.int .i64 pg, .slice A n c, .string (S pk0), .int .i64 b, .bool true] 68)) ((w2.alloc (.cells #[.int .i64 pg, .slice A n c, .string (S pk0), .int .i64 b, .bool true] 68)).alloc (.cells #[.int .i64 pg, .slice A n c, .string (S pk0)] 44)) := (Below.refl _ _).alloc (Nat.le_refl _) _
  have y4 := Bx.new (w2.alloc (.cells #[.int .i64 pg, .slice A n c, .string (S pk0), .int .i64 b, .bool true] 68)) #[.int .i64 pg, .slice A n c, .string (S pk0)] 44 (w2.heap.size + 1) (by simp)
  have hb5 : Below (w2.alloc (.cells #[.int .i64 pg, .slice A n c, .string (S pk0), .int .i64 b, .bool true] 68)).heap.size (w2.alloc (.cells #[.int .i64 pg, .slice A n c, .string (S pk0), .int .i64 b, .bool true] 68)) ((w2.alloc (.cells #[.int .i64 pg, .slice A n c, .string (S pk0), .int .i64 b, .bool true] 68)).alloc (.cells #[.int .i64 pg, .slice A n c, .string (S pk)] 44)) := (Below.refl _ _).alloc (Nat.le_refl _) _
  have x4 := x3.to hb4
  have x5 := x3.to hb5
  have y5 := Bx.new (w2.alloc (.cells #[.int .i64 pg, .slice A n c, .string (S pk0), .int .i64 b, .bool true] 68)) #[.int .i64 pg, .slice A n c, .string (S pk)] 44 (w2.heap.size + 1) (by simp)
  have hr4 := ((hr3.to hb2).to hb3).to hb4
  have hr5 := ((hr3.to hb2).to hb3).to hb5
  have hrp := (hrd.to hb3).to hb5
  have hcv := run_str (P := Try.prog) (hr4 : Rd _ _ 1 A2 m (bytesV pk)) _ _ _ c2 Try.underlying47 Try.underlying5 Try.underlying9
  have f2 := y4.frozen 2
  have v2 := y4.cell 2
  have t0 := x3.cell 0
  have t1 := x3.cell 1
  have t2 := x3.cell 2
  have hbF := bt (bt (bt hb1 hb2) hb3) hb5
  have u0 := x5.cell 0
  have u1 := x5.cell 1
  have u2 := x5.cell 2
  have u3 := x5.cell 3
  have u4 := x5.cell 4
  have z0 := y5.cell 0
  have z1 := y5.cell 1
  have z2 := y5.cell 2
  clear hr2 hr3 hb1 hb2 hb3 hb4 hb5 x3 x4 y4 hr4 hrd HRR hz3
  go_wp2_with fail
  refine (wakes27_any _).mono ?_
  rintro e w9 ⟨rfl, hc9⟩
  go_wp2
  go_ret
  exact ⟨rfl, bt hbF hc9⟩

set_option maxRecDepth 100000 in
set_option maxHeartbeats 8000000 in
theorem jadds_d (j pk : List UInt8) (A2 : Option Addr) (m c2 : Nat) (w : World) (hr2 : Rd w w.heap.size 1 A2 m (pk.map byteV)) (hj : j.length ≤ 6000) (hm : m ≤ 300)
    (pg : Int) (ps : List (List UInt8)) (pk0 : List UInt8) (n b : Nat) (h1 : addS j pk = []) (h2 : addE j pk = 3) (hps : ∀ x ∈ ps, x.length ≤ 1000000)
    (hRR : RRHid j pg ps pk0 n b true) (q1 : ¬ b < j.length) (q2 : ¬ m < 1) (q3 : 200 < m) :
    Calls Try.prog 9 #[.string (S j), .slice A2 m c2] w fun e w' => e = .returned (.bool true) ∧ Below w.heap.size w w' := by
  have hln := hr2.lenOne
  have hm300 : pk.length ≤ 300 := by omega
  have HL := Lib.hid hln
  have H1 := Lib.hid h1
  have H2 := Lib.hid h2
  have hrm := fun A n c w h => rmayS_any pg ps pk A n c w h hps
  simp only [rscrV] at hrm
  have HRM := hide hrm
  have HRR := hide hRR
  clear hln h1 h2 hrm hRR hps
  go_enter Try.func9, Try.ntmps9
  go_wp2_with fail
  refine (add_any j pk A2 m c2 w hr2 (by omega) (by omega)).mono ?_
  rintro e w1 ⟨rfl, hb1⟩
  rw [H1.out, H2.out]
  have hr3 := hr2.to hb1
  go_wp2_with fail
  refine (unhide HRR w1).mono ?_
  rintro e w2 ⟨A, c, rfl, hrd, hb2⟩
  have hb3 : Below w2.heap.size w2 (w2.alloc (.cells #[.int .i64 pg, .slice A n c, .string (S pk0), .int .i64 b, .bool true] 68)) := (Below.refl _ _).alloc (Nat.le_refl _) _
  have x3 := Bx.new w2 #[.int .i64 pg, .slice A n c, .string (S pk0), .int .i64 b, .bool true] 68 w2.heap.size rfl
  have hz3 : (w2.alloc (.cells #[.int .i64 pg, .slice A n c, .string (S pk0), .int .i64 b, .bool true] 68)).heap.size = w2.heap.size + 1 := by simp
  have hb4 : Below (w2.alloc (.cells #[.int .i64 pg, .slice A n c, .string (S pk0), .int .i64 b, .bool true] 68)).heap.size (w2.alloc (.cells #[.int .i64 pg, .slice A n c, .string (S pk0), .int .i64 b, .bool true] 68)) ((w2.alloc (.cells #[.int .i64 pg, .slice A n c, .string (S pk0), .int .i64 b, .bool true] 68)).alloc (.cells #[.int .i64 pg, .slice A n c, .string (S pk0)] 44)) := (Below.refl _ _).alloc (Nat.le_refl _) _
  have y4 := Bx.new (w2.alloc (.cells #[.int .i64 pg, .slice A n c, .string (S pk0), .int .i64 b, .bool true] 68)) #[.int .i64 pg, .slice A n c, .string (S pk0)] 44 (w2.heap.size + 1) (by simp)
  have hb5 : Below (w2.alloc (.cells #[.int .i64 pg, .slice A n c, .string (S pk0), .int .i64 b, .bool true] 68)).heap.size (w2.alloc (.cells #[.int .i64 pg, .slice A n c, .string (S pk0), .int .i64 b, .bool true] 68)) ((w2.alloc (.cells #[.int .i64 pg, .slice A n c, .string (S pk0), .int .i64 b, .bool true] 68)).alloc (.cells #[.int .i64 pg, .slice A n c, .string (S pk)] 44)) := (Below.refl _ _).alloc (Nat.le_refl _) _
  have x4 := x3.to hb4
  have x5 := x3.to hb5
  have y5 := Bx.new (w2.alloc (.cells #[.int .i64 pg, .slice A n c, .string (S pk0), .int .i64 b, .bool true] 68)) #[.int .i64 pg, .slice A n c, .string (S pk)] 44 (w2.heap.size + 1) (by simp)
  have hr4 := ((hr3.to hb2).to hb3).to hb4
  have hr5 := ((hr3.to hb2).to hb3).to hb5
  have hrp := (hrd.to hb3).to hb5
  have hcv := run_str (P := Try.prog) (hr4 : Rd _ _ 1 A2 m (bytesV pk)) _ _ _ c2 Try.underlying47 Try.underlying5 Try.underlying9
  have f2 := y4.frozen 2
  have v2 := y4.cell 2
  have t0 := x3.cell 0
  have t1 := x3.cell 1
  have t2 := x3.cell 2
  have hbF := bt (bt (bt hb1 hb2) hb3) hb5
  have u0 := x5.cell 0
  have u1 := x5.cell 1
  have u2 := x5.cell 2
  have u3 := x5.cell 3
  have u4 := x5.cell 4
  have z0 := y5.cell 0
  have z1 := y5.cell 1
  have z2 := y5.cell 2
  clear hr2 hr3 hb1 hb2 hb3 hb4 hb5 x3 x4 y4 hr4 hrd HRR hz3
  go_wp2_with fail
  refine (wakes27_any _).mono ?_
  rintro e w9 ⟨rfl, hc9⟩
  go_wp2
  go_ret
  exact ⟨rfl, bt hbF hc9⟩

set_option maxRecDepth 100000 in
set_option maxHeartbeats 8000000 in
theorem jadds_e (j pk : List UInt8) (A2 : Option Addr) (m c2 : Nat) (w : World) (hr2 : Rd w w.heap.size 1 A2 m (pk.map byteV)) (hj : j.length ≤ 6000) (hm : m ≤ 300)
    (pg : Int) (ps : List (List UInt8)) (pk0 : List UInt8) (n b : Nat) (h1 : addS j pk = []) (h2 : addE j pk = 3) (hps : ∀ x ∈ ps, x.length ≤ 1000000)
    (hRR : RRHid j pg ps pk0 n b true) (q1 : ¬ b < j.length) (q2 : ¬ m < 1) (q3 : ¬ 200 < m) (q4 : mayS pg ps pk = false) :
    Calls Try.prog 9 #[.string (S j), .slice A2 m c2] w fun e w' => e = .returned (.bool true) ∧ Below w.heap.size w w' := by
  have hln := hr2.lenOne
  have hm300 : pk.length ≤ 300 := by omega
  have HL := Lib.hid hln
  have H1 := Lib.hid h1
  have H2 := Lib.hid h2
  have hrm := fun A n c w h => rmayS_any pg ps pk A n c w h hps
  simp only [rscrV] at hrm
  have HRM := hide hrm
  have HRR := hide hRR
  have HM := Lib.hid q4
  clear q4
  clear hln h1 h2 hrm hRR hps
  go_enter Try.func9, Try.ntmps9
  go_wp2_with fail
  refine (add_any j pk A2 m c2 w hr2 (by omega) (by omega)).mono ?_
  rintro e w1 ⟨rfl, hb1⟩
  rw [H1.out, H2.out]
  have hr3 := hr2.to hb1
  go_wp2_with fail
  refine (unhide HRR w1).mono ?_
  rintro e w2 ⟨A, c, rfl, hrd, hb2⟩
  have hb3 : Below w2.heap.size w2 (w2.alloc (.cells #[.int .i64 pg, .slice A n c, .string (S pk0), .int .i64 b, .bool true] 68)) := (Below.refl _ _).alloc (Nat.le_refl _) _
  have x3 := Bx.new w2 #[.int .i64 pg, .slice A n c, .string (S pk0), .int .i64 b, .bool true] 68 w2.heap.size rfl
  have hz3 : (w2.alloc (.cells #[.int .i64 pg, .slice A n c, .string (S pk0), .int .i64 b, .bool true] 68)).heap.size = w2.heap.size + 1 := by simp
  have hb4 : Below (w2.alloc (.cells #[.int .i64 pg, .slice A n c, .string (S pk0), .int .i64 b, .bool true] 68)).heap.size (w2.alloc (.cells #[.int .i64 pg, .slice A n c, .string (S pk0), .int .i64 b, .bool true] 68)) ((w2.alloc (.cells #[.int .i64 pg, .slice A n c, .string (S pk0), .int .i64 b, .bool true] 68)).alloc (.cells #[.int .i64 pg, .slice A n c, .string (S pk0)] 44)) := (Below.refl _ _).alloc (Nat.le_refl _) _
  have y4 := Bx.new (w2.alloc (.cells #[.int .i64 pg, .slice A n c, .string (S pk0), .int .i64 b, .bool true] 68)) #[.int .i64 pg, .slice A n c, .string (S pk0)] 44 (w2.heap.size + 1) (by simp)
  have hb5 : Below (w2.alloc (.cells #[.int .i64 pg, .slice A n c, .string (S pk0), .int .i64 b, .bool true] 68)).heap.size (w2.alloc (.cells #[.int .i64 pg, .slice A n c, .string (S pk0), .int .i64 b, .bool true] 68)) ((w2.alloc (.cells #[.int .i64 pg, .slice A n c, .string (S pk0), .int .i64 b, .bool true] 68)).alloc (.cells #[.int .i64 pg, .slice A n c, .string (S pk)] 44)) := (Below.refl _ _).alloc (Nat.le_refl _) _
  have x4 := x3.to hb4
  have x5 := x3.to hb5
  have y5 := Bx.new (w2.alloc (.cells #[.int .i64 pg, .slice A n c, .string (S pk0), .int .i64 b, .bool true] 68)) #[.int .i64 pg, .slice A n c, .string (S pk)] 44 (w2.heap.size + 1) (by simp)
  have hr4 := ((hr3.to hb2).to hb3).to hb4
  have hr5 := ((hr3.to hb2).to hb3).to hb5
  have hrp := (hrd.to hb3).to hb5
  have hcv := run_str (P := Try.prog) (hr4 : Rd _ _ 1 A2 m (bytesV pk)) _ _ _ c2 Try.underlying47 Try.underlying5 Try.underlying9
  have f2 := y4.frozen 2
  have v2 := y4.cell 2
  have t0 := x3.cell 0
  have t1 := x3.cell 1
  have t2 := x3.cell 2
  have hbF := bt (bt (bt hb1 hb2) hb3) hb5
  have u0 := x5.cell 0
  have u1 := x5.cell 1
  have u2 := x5.cell 2
  have u3 := x5.cell 3
  have u4 := x5.cell 4
  have z0 := y5.cell 0
  have z1 := y5.cell 1
  have z2 := y5.cell 2
  clear hr2 hr3 hb1 hb2 hb3 hb4 hb5 x3 x4 y4 hr4 hrd HRR hz3
  go_wp2_with fail
  refine (unhide HRM A n c _ hrp).mono ?_
  rintro e w5 ⟨rfl, hc⟩
  rw [HM.out]
  have x6 := x5.to hc
  have hr6 := hr5.to hc
  have hbG := bt hbF hc
  have p0 := x6.cell 0
  have p1 := x6.cell 1
  have p2 := x6.cell 2
  have p3 := x6.cell 3
  have p4 := x6.cell 4
  clear u0 u1 u2 u3 u4 z0 z1 z2 x5 y5 hr5 hrp hbF
  go_wp2_with fail
  refine (wakes27_any _).mono ?_
  rintro e w9 ⟨rfl, hc9⟩
  go_wp2
  go_ret
  exact ⟨rfl, bt hbG hc9⟩

set_option maxRecDepth 100000 in
set_option maxHeartbeats 8000000 in
theorem jadds_f (j pk : List UInt8) (A2 : Option Addr) (m c2 : Nat) (w : World) (hr2 : Rd w w.heap.size 1 A2 m (pk.map byteV)) (hj : j.length ≤ 6000) (hm : m ≤ 300)
    (pg : Int) (ps : List (List UInt8)) (pk0 : List UInt8) (n b : Nat) (h1 : addS j pk = []) (h2 : addE j pk = 8) (hps : ∀ x ∈ ps, x.length ≤ 1000000) (h0 : pk0.length ≤ 4000)
    (hRR : RRHid j pg ps pk0 n b true) (q1 : ¬ b < j.length) (q2 : ¬ m < 1) (q3 : ¬ 200 < m) (q4 : mayS pg ps pk = true) (q5 : 4000 < pk0.length + m) :
    Calls Try.prog 9 #[.string (S j), .slice A2 m c2] w fun e w' => e = .returned (.bool true) ∧ Below w.heap.size w w' := by
  have hln := hr2.lenOne
  have hm300 : pk.length ≤ 300 := by omega
  have HL := Lib.hid hln
  have H1 := Lib.hid h1
  have H2 := Lib.hid h2
  have hrm := fun A n c w h => rmayS_any pg ps pk A n c w h hps
  simp only [rscrV] at hrm
  have HRM := hide hrm
  have HRR := hide hRR
  have HM := Lib.hid q4
  clear q4
  have q6 : (4000 : Int) < (pk0.length : Int) + m := by omega
  clear hln h1 h2 hrm hRR hps
  go_enter Try.func9, Try.ntmps9
  go_wp2_with fail
  refine (add_any j pk A2 m c2 w hr2 (by omega) (by omega)).mono ?_
  rintro e w1 ⟨rfl, hb1⟩
  rw [H1.out, H2.out]
  have hr3 := hr2.to hb1
  go_wp2_with fail
  refine (unhide HRR w1).mono ?_
  rintro e w2 ⟨A, c, rfl, hrd, hb2⟩
  have hb3 : Below w2.heap.size w2 (w2.alloc (.cells #[.int .i64 pg, .slice A n c, .string (S pk0), .int .i64 b, .bool true] 68)) := (Below.refl _ _).alloc (Nat.le_refl _) _
  have x3 := Bx.new w2 #[.int .i64 pg, .slice A n c, .string (S pk0), .int .i64 b, .bool true] 68 w2.heap.size rfl
  have hz3 : (w2.alloc (.cells #[.int .i64 pg, .slice A n c, .string (S pk0), .int .i64 b, .bool true] 68)).heap.size = w2.heap.size + 1 := by simp
  have hb4 : Below (w2.alloc (.cells #[.int .i64 pg, .slice A n c, .string (S pk0), .int .i64 b, .bool true] 68)).heap.size (w2.alloc (.cells #[.int .i64 pg, .slice A n c, .string (S pk0), .int .i64 b, .bool true] 68)) ((w2.alloc (.cells #[.int .i64 pg, .slice A n c, .string (S pk0), .int .i64 b, .bool true] 68)).alloc (.cells #[.int .i64 pg, .slice A n c, .string (S pk0)] 44)) := (Below.refl _ _).alloc (Nat.le_refl _) _
  have y4 := Bx.new (w2.alloc (.cells #[.int .i64 pg, .slice A n c, .string (S pk0), .int .i64 b, .bool true] 68)) #[.int .i64 pg, .slice A n c, .string (S pk0)] 44 (w2.heap.size + 1) (by simp)
  have hb5 : Below (w2.alloc (.cells #[.int .i64 pg, .slice A n c, .string (S pk0), .int .i64 b, .bool true] 68)).heap.size (w2.alloc (.cells #[.int .i64 pg, .slice A n c, .string (S pk0), .int .i64 b, .bool true] 68)) ((w2.alloc (.cells #[.int .i64 pg, .slice A n c, .string (S pk0), .int .i64 b, .bool true] 68)).alloc (.cells #[.int .i64 pg, .slice A n c, .string (S pk)] 44)) := (Below.refl _ _).alloc (Nat.le_refl _) _
  have x4 := x3.to hb4
  have x5 := x3.to hb5
  have y5 := Bx.new (w2.alloc (.cells #[.int .i64 pg, .slice A n c, .string (S pk0), .int .i64 b, .bool true] 68)) #[.int .i64 pg, .slice A n c, .string (S pk)] 44 (w2.heap.size + 1) (by simp)
  have hr4 := ((hr3.to hb2).to hb3).to hb4
  have hr5 := ((hr3.to hb2).to hb3).to hb5
  have hrp := (hrd.to hb3).to hb5
  have hcv := run_str (P := Try.prog) (hr4 : Rd _ _ 1 A2 m (bytesV pk)) _ _ _ c2 Try.underlying47 Try.underlying5 Try.underlying9
  have f2 := y4.frozen 2
  have v2 := y4.cell 2
  have t0 := x3.cell 0
  have t1 := x3.cell 1
  have t2 := x3.cell 2
  have hbF := bt (bt (bt hb1 hb2) hb3) hb5
  have u0 := x5.cell 0
  have u1 := x5.cell 1
  have u2 := x5.cell 2
  have u3 := x5.cell 3
  have u4 := x5.cell 4
  have z0 := y5.cell 0
  have z1 := y5.cell 1
  have z2 := y5.cell 2
  clear hr2 hr3 hb1 hb2 hb3 hb4 hb5 x3 x4 y4 hr4 hrd HRR hz3
  go_wp2_with fail
  refine (unhide HRM A n c _ hrp).mono ?_
  rintro e w5 ⟨rfl, hc⟩
  rw [HM.out]
  have x6 := x5.to hc
  have hr6 := hr5.to hc
  have hbG := bt hbF hc
  have p0 := x6.cell 0
  have p1 := x6.cell 1
  have p2 := x6.cell 2
  have p3 := x6.cell 3
  have p4 := x6.cell 4
  clear u0 u1 u2 u3 u4 z0 z1 z2 x5 y5 hr5 hrp hbF
  go_wp2_with fail
  refine (wakes27_any _).mono ?_
  rintro e w9 ⟨rfl, hc9⟩
  go_wp2
  go_ret
  exact ⟨rfl, bt hbG hc9⟩

set_option maxRecDepth 100000 in
set_option maxHeartbeats 8000000 in
theorem jadds_g (j pk : List UInt8) (A2 : Option Addr) (m c2 : Nat) (w : World) (hr2 : Rd w w.heap.size 1 A2 m (pk.map byteV)) (hj : j.length ≤ 6000) (hm : m ≤ 300)
    (pg : Int) (ps : List (List UInt8)) (pk0 : List UInt8) (n b : Nat) (h1 : addS j pk = (j ++ recB j pk)) (h2 : addE j pk = 0) (hps : ∀ x ∈ ps, x.length ≤ 1000000) (h0 : pk0.length ≤ 4000)
    (hRR : RRHid j pg ps pk0 n b true) (q1 : ¬ b < j.length) (q2 : ¬ m < 1) (q3 : ¬ 200 < m) (q4 : mayS pg ps pk = true) (q5 : ¬ 4000 < pk0.length + m) (q7 : 4 ≤ j.length) :
    Calls Try.prog 9 #[.string (S j), .slice A2 m c2] w fun e w' => e = .returned (.bool true) ∧ Below w.heap.size w w' := by
  have hln := hr2.lenOne
  have hm300 : pk.length ≤ 300 := by omega
  have HL := Lib.hid hln
  have H1 := Lib.hid h1
  have H2 := Lib.hid h2
  have hrm := fun A n c w h => rmayS_any pg ps pk A n c w h hps
  simp only [rscrV] at hrm
  have HRM := hide hrm
  have HRR := hide hRR
  have HM := Lib.hid q4
  clear q4
  have q6 : ¬ (4000 : Int) < (pk0.length : Int) + m := by omega
  clear hln h1 h2 hrm hRR hps
  go_enter Try.func9, Try.ntmps9
  go_wp2_with fail
  refine (add_any j pk A2 m c2 w hr2 (by omega) (by omega)).mono ?_
  rintro e w1 ⟨rfl, hb1⟩
  rw [H1.out, H2.out]
  have hr3 := hr2.to hb1
  go_wp2_with fail
  refine (unhide HRR w1).mono ?_
  rintro e w2 ⟨A, c, rfl, hrd, hb2⟩
  have hb3 : Below w2.heap.size w2 (w2.alloc (.cells #[.int .i64 pg, .slice A n c, .string (S pk0), .int .i64 b, .bool true] 68)) := (Below.refl _ _).alloc (Nat.le_refl _) _
  have x3 := Bx.new w2 #[.int .i64 pg, .slice A n c, .string (S pk0), .int .i64 b, .bool true] 68 w2.heap.size rfl
  have hz3 : (w2.alloc (.cells #[.int .i64 pg, .slice A n c, .string (S pk0), .int .i64 b, .bool true] 68)).heap.size = w2.heap.size + 1 := by simp
  have hb4 : Below (w2.alloc (.cells #[.int .i64 pg, .slice A n c, .string (S pk0), .int .i64 b, .bool true] 68)).heap.size (w2.alloc (.cells #[.int .i64 pg, .slice A n c, .string (S pk0), .int .i64 b, .bool true] 68)) ((w2.alloc (.cells #[.int .i64 pg, .slice A n c, .string (S pk0), .int .i64 b, .bool true] 68)).alloc (.cells #[.int .i64 pg, .slice A n c, .string (S pk0)] 44)) := (Below.refl _ _).alloc (Nat.le_refl _) _
  have y4 := Bx.new (w2.alloc (.cells #[.int .i64 pg, .slice A n c, .string (S pk0), .int .i64 b, .bool true] 68)) #[.int .i64 pg, .slice A n c, .string (S pk0)] 44 (w2.heap.size + 1) (by simp)
  have hb5 : Below (w2.alloc (.cells #[.int .i64 pg, .slice A n c, .string (S pk0), .int .i64 b, .bool true] 68)).heap.size (w2.alloc (.cells #[.int .i64 pg, .slice A n c, .string (S pk0), .int .i64 b, .bool true] 68)) ((w2.alloc (.cells #[.int .i64 pg, .slice A n c, .string (S pk0), .int .i64 b, .bool true] 68)).alloc (.cells #[.int .i64 pg, .slice A n c, .string (S pk)] 44)) := (Below.refl _ _).alloc (Nat.le_refl _) _
  have x4 := x3.to hb4
  have x5 := x3.to hb5
  have y5 := Bx.new (w2.alloc (.cells #[.int .i64 pg, .slice A n c, .string (S pk0), .int .i64 b, .bool true] 68)) #[.int .i64 pg, .slice A n c, .string (S pk)] 44 (w2.heap.size + 1) (by simp)
  have hr4 := ((hr3.to hb2).to hb3).to hb4
  have hr5 := ((hr3.to hb2).to hb3).to hb5
  have hrp := (hrd.to hb3).to hb5
  have hcv := run_str (P := Try.prog) (hr4 : Rd _ _ 1 A2 m (bytesV pk)) _ _ _ c2 Try.underlying47 Try.underlying5 Try.underlying9
  have f2 := y4.frozen 2
  have v2 := y4.cell 2
  have t0 := x3.cell 0
  have t1 := x3.cell 1
  have t2 := x3.cell 2
  have hbF := bt (bt (bt hb1 hb2) hb3) hb5
  have u0 := x5.cell 0
  have u1 := x5.cell 1
  have u2 := x5.cell 2
  have u3 := x5.cell 3
  have u4 := x5.cell 4
  have z0 := y5.cell 0
  have z1 := y5.cell 1
  have z2 := y5.cell 2
  clear hr2 hr3 hb1 hb2 hb3 hb4 hb5 x3 x4 y4 hr4 hrd HRR hz3
  go_wp2_with fail
  refine (unhide HRM A n c _ hrp).mono ?_
  rintro e w5 ⟨rfl, hc⟩
  rw [HM.out]
  have x6 := x5.to hc
  have hr6 := hr5.to hc
  have hbG := bt hbF hc
  have p0 := x6.cell 0
  have p1 := x6.cell 1
  have p2 := x6.cell 2
  have p3 := x6.cell 3
  have p4 := x6.cell 4
  clear u0 u1 u2 u3 u4 z0 z1 z2 x5 y5 hr5 hrp hbF
  have hcv2 := run_str (P := Try.prog) (hr6 : Rd _ _ 1 A2 m (bytesV pk)) _ _ _ c2 Try.underlying47 Try.underlying5 Try.underlying9
  go_wp2_with fail
  refine (record_any j pk _ (by omega) (by omega) (by have := HL.out; omega)).mono ?_
  rintro e w7 ⟨rfl, hc7⟩
  have hbH := bt hbG hc7
  have hrl : (recB j pk).length ≤ 400 := by rw [recB_len]; omega
  go_wp2_with fail
  refine (wakes27_any _).mono ?_
  rintro e w9 ⟨rfl, hc9⟩
  go_wp2
  go_ret
  exact ⟨rfl, bt hbH hc9⟩

theorem jadds_any (j pk : List UInt8) (A2 : Option Addr) (m c2 : Nat) (w : World) (hr2 : Rd w w.heap.size 1 A2 m (pk.map byteV)) :
    Calls Try.prog 9 #[.string (S j), .slice A2 m c2] w fun e w' => e = .returned (.bool true) ∧ Below w.heap.size w w' := by
  have hln := hr2.lenOne
  by_cases hj : 6000 < j.length
  · clear hln hr2
    go_enter Try.func9, Try.ntmps9
    go_wp2_with fail
    refine (wakes27_any w).mono ?_
    rintro e w1 ⟨rfl, hc⟩
    go_wp2
    go_ret
    exact ⟨rfl, hc⟩
  by_cases hm : 300 < m
  · clear hln hr2
    go_enter Try.func9, Try.ntmps9
    go_wp2_with fail
    refine (wakes27_any w).mono ?_
    rintro e w1 ⟨rfl, hc⟩
    go_wp2
    go_ret
    exact ⟨rfl, hc⟩
  have bad : addE j pk = 3 → addS j pk = [] := fun h => by unfold addS; rw [h]; rfl
  cases h : readO j with
  | none =>
    obtain ⟨g1, g2, g3⟩ := read_none h
    have h2 : addE j pk = 3 := by unfold addE; rw [if_pos (.inl g2)]
    refine jadds_a j pk A2 m c2 w hr2 (by omega) (by omega) 0 [] [] 0 0 (bad h2) h2 (by simp) (fun w => (rreadN h w (by omega)).mono ?_)
    rintro e w' ⟨A, c, rfl, hb⟩
    exact ⟨A, c, rfl, ⟨by simp, fun h => absurd h (by omega)⟩, hb⟩
  | some q =>
    obtain ⟨⟨pg, ps, pk0⟩, b⟩ := q
    obtain ⟨g1, g2, g3⟩ := read_some h
    have hmy := readO_may h
    have hps : ∀ x ∈ ps, x.length ≤ 1000000 := fun x hx => by have := decOk_len ((mayS_iff hmy).2.2.2.1 x hx); omega
    have h0 : pk0.length ≤ 4000 := by have := readV_le j; rw [g1] at this; exact this
    have hRR : RRHid j pg ps pk0 ps.length b true := fun w => rreadY h w (by omega)
    have h3 : ∀ (hx : b < j.length ∨ m < 1 ∨ 200 < m), addE j pk = 3 := fun hx => by
      unfold addE
      rw [if_pos]
      rcases hx with hx | hx | hx
      · exact .inr (.inl (by rw [g3]; simpa using hx))
      · exact .inr (.inr (.inl (by omega)))
      · exact .inr (.inr (.inr (by omega)))
    by_cases q1 : b < j.length
    · exact jadds_b j pk A2 m c2 w hr2 (by omega) (by omega) pg ps pk0 ps.length b (bad (h3 (.inl q1))) (h3 (.inl q1)) hps hRR q1
    by_cases q2 : m < 1
    · exact jadds_c j pk A2 m c2 w hr2 (by omega) (by omega) pg ps pk0 ps.length b (bad (h3 (.inr (.inl q2)))) (h3 (.inr (.inl q2))) hps hRR q1 q2
    by_cases q3 : 200 < m
    · exact jadds_d j pk A2 m c2 w hr2 (by omega) (by omega) pg ps pk0 ps.length b (bad (h3 (.inr (.inr q3)))) (h3 (.inr (.inr q3))) hps hRR q1 q2 q3
    have hno : ¬ (readE j = 3 ∨ readT j = true ∨ pk.length < 1 ∨ 200 < pk.length) := by
      rw [g2, g3, decide_eq_false q1]
      rintro (h | h | h | h)
      · omega
      · cases h
      · omega
      · omega
    have hmp := may_pk hmy pk (by omega)
    cases hall : pk.all pickOk with
    | false =>
      have h4 : addE j pk = 3 := by unfold addE; rw [if_neg hno, hall]; rfl
      exact jadds_e j pk A2 m c2 w hr2 (by omega) (by omega) pg ps pk0 ps.length b (bad h4) h4 hps hRR q1 q2 q3 (hmp.trans hall)
    | true =>
      by_cases q5 : 4000 < pk0.length + m
      · have h4 : addE j pk = 8 := by unfold addE; rw [if_neg hno, if_pos hall, if_pos (by rw [g1, hln]; exact q5)]
        exact jadds_f j pk A2 m c2 w hr2 (by omega) (by omega) pg ps pk0 ps.length b (by unfold addS; rw [h4]; rfl) h4 hps h0 hRR q1 q2 q3 (hmp.trans hall) q5
      · have h4 : addE j pk = 0 := by unfold addE; rw [if_neg hno, if_pos hall, if_neg (by rw [g1, hln]; exact q5)]
        exact jadds_g j pk A2 m c2 w hr2 (by omega) (by omega) pg ps pk0 ps.length b (by unfold addS; rw [if_pos h4]) h4 hps h0 hRR q1 q2 q3 (hmp.trans hall) q5 (by have := read4 g2; omega)
end Go.Proofs.Ytnhnofiimidagaa
