/-
  The walks of code.May and of what it calls: whether instructions are a program.
-/
import Derived.Test.YtmiagijgecgfoaaBase
namespace Go.Proofs.Ytmiagijgecgfoaa
open Go.RowKit

/-- is there such an instruction, in a program of so many? -/
def mayX (x : Ins) (len : Int) : Bool :=
  decide ((x.op ≤ 6 ∨ (16 < x.op ∧ x.op ≤ 38)) ∧ (x.a < 8 ∧ x.b < 8 ∧ x.c < 8) ∧ ((x.op = 5 ∨ x.op = 6) → x.n < len))
/-- is that a program? -/
def mayP (l : List Ins) : Bool := decide (l.length ≤ 64) && l.all fun x => mayX x l.length

def Ins.v (x : Ins) : Value := .agg #[.int .u8 x.op, .int .u8 x.a, .int .u8 x.b, .int .u8 x.c, .int .u16 x.n]

set_option maxHeartbeats 1000000 in
theorem may_any (x : Ins) (len : Int) (w : World) (hx : x.ok) (hl : 0 ≤ len ∧ len ≤ 140737488355328) :
    Calls Try.prog 73 #[x.v, .int .i64 len] w fun e w' => e = .returned (.bool (mayX x len)) ∧ Below w.heap.size w w' := by
  obtain ⟨op, a, b, c, n⟩ := x
  obtain ⟨⟨p0, q0⟩, ⟨p1, q1⟩, ⟨p2, q2⟩, ⟨p3, q3⟩, ⟨p4, q4⟩⟩ := hx
  obtain ⟨l0, l1⟩ := hl
  simp only [Ins.v] at *
  go_enter Try.func73, Try.ntmps73
  go_wp2
  all_goals go_ret
  all_goals (refine ⟨ret_bool ?_, (Below.refl _ _).alloc (Nat.le_refl _) _⟩)
  all_goals (simp only [mayX]; rw [Bool.eq_iff_iff]; simp; omega)

theorem may1_any (x : Ins) (A : Option Addr) (n cap bl : Nat) (w : World) (hx : x.ok) (hn : n ≤ 140737488355328) (hbl : bl < w.heap.size) (hc : w.cell? ⟨bl, 0, none⟩ = some (.slice A n cap)) :
    Calls Try.prog 72 #[x.v, .pointer (some ⟨bl, 0, none⟩)] w fun e w' => e = .returned (.bool (!mayX x n)) ∧ Below w.heap.size w w' := by
  obtain ⟨op, a, b, c, m⟩ := x
  have hb0 : Below w.heap.size w (w.alloc (.cells #[.int .u8 op, .int .u8 a, .int .u8 b, .int .u8 c, .int .u16 m] 85)) := (Below.refl _ _).alloc (Nat.le_refl _) _
  have hc' := (hb0.cell (p := ⟨bl, 0, none⟩) hbl).trans hc
  simp only [Ins.v] at *
  go_enter Try.func72, Try.ntmps72
  go_wp2_with (go_at_call 73; refine (may_any ⟨op, a, b, c, m⟩ _ _ hx (by omega)).mono ?_; rintro e w' ⟨rfl, hb1⟩)
  go_ret
  exact ⟨rfl, hb0.trans (hb1.mono (by simp))⟩

set_option maxRecDepth 100000 in
set_option maxHeartbeats 1000000 in
theorem index_any (l : List Ins) (A : Option Addr) (n cap bl : Nat) (w : World) (hr : Rd w w.heap.size 5 A n (l.flatMap Ins.cu)) (hok : ∀ x ∈ l, x.ok) (hn : n ≤ 140737488355328) (hbl : bl < w.heap.size)
    (hc : w.cell? ⟨bl, 0, none⟩ = some (.slice A n cap)) :
    Calls Try.prog 76 #[.slice A n cap, .func (.func 72) #[] #[.pointer (some ⟨bl, 0, none⟩)]] w
      fun e w' => ∃ r : Int, e = .returned (.int .i64 r) ∧ decide (0 ≤ r) = (l.any fun x => !mayX x n) ∧ Below w.heap.size w w' := by
  have hln := hr.lenU
  have HL : Hid (l.length = n) := hln
  clear hln
  go_enter Try.func76, Try.ntmps76
  go_wp2
  go_loopw [8] (fun i wr => ∃ k : Nat, k ≤ n ∧ i = .int .i64 k ∧ (∀ x ∈ l.take k, mayX x n = true) ∧ Below w.heap.size w wr) (fun i _ => n - (intOf i).toNat)
  case atStart => exact ⟨0, Nat.zero_le _, rfl, by simp, Below.refl _ _⟩
  case round =>
    obtain ⟨k, hk, rfl, hall, hb⟩ := hrel
    by_cases hlt : k < n
    · obtain ⟨b, o, x, rfl, hbl', hx, g0, g1, g2, g3, g4⟩ := (hr.below hb).insU hlt
      have hxo := hok x (mem_of_get hx)
      have HX : Hid (l[k]? = some x) := hx
      have HT : Hid (l.take (k + 1) = l.take k ++ [x]) := take_snoc hx
      have HA := Lib.hid hall
      have hsz := hb.size
      have hc1 := (hb.cell (p := ⟨bl, 0, none⟩) hbl).trans hc
      clear hx hr hok hall
      by_cases hm : mayX x n = true
      · have HM := Lib.hid hm
        clear hm
        go_wp2_with (go_at_call 72; refine (may1_any x _ n cap bl _ hxo hn (by omega) hc1).mono ?_; rintro e w' ⟨rfl, hb1⟩; rw [HM.out])
        go_roundw
        case rel => exact ⟨k + 1, by omega, by go_num, by
          rw [HT.out]
          intro y hy
          rcases List.mem_append.1 hy with hy | hy
          · exact HA.out y hy
          · rw [List.mem_singleton.1 hy]; exact HM.out, hb.trans (hb1.mono hsz)⟩
        case measure => simp [intOf]; omega
      · have hm' : mayX x n = false := by simpa using hm
        have HM := Lib.hid hm'
        clear hm hm'
        go_wp2_with (go_at_call 72; refine (may1_any x _ n cap bl _ hxo hn (by omega) hc1).mono ?_; rintro e w' ⟨rfl, hb1⟩; rw [HM.out])
        go_ret
        refine ⟨_, rfl, ?_, hb.trans (hb1.mono hsz)⟩
        rw [Bool.eq_iff_iff]
        simp only [decide_eq_true_eq, List.any_eq_true]
        exact ⟨fun _ => ⟨x, mem_of_get HX.out, by rw [HM.out]; rfl⟩, fun _ => by omega⟩
    · obtain rfl : k = n := by omega
      have HA := Lib.hid hall
      clear hall
      go_wp2
      go_ret
      refine ⟨_, rfl, ?_, hb⟩
      have h1 := HA.out
      rw [List.take_of_length_le (by rw [HL.out]; omega)] at h1
      symm
      rw [show decide ((0 : Int) ≤ -1) = false from rfl, List.any_eq_false]
      intro x hx
      rw [h1 x hx]; simp

theorem contains_any (l : List Ins) (A : Option Addr) (n cap bl : Nat) (w : World) (hr : Rd w w.heap.size 5 A n (l.flatMap Ins.cu)) (hok : ∀ x ∈ l, x.ok) (hn : n ≤ 140737488355328) (hbl : bl < w.heap.size)
    (hc : w.cell? ⟨bl, 0, none⟩ = some (.slice A n cap)) :
    Calls Try.prog 71 #[.slice A n cap, .func (.func 72) #[] #[.pointer (some ⟨bl, 0, none⟩)]] w
      fun e w' => e = .returned (.bool (l.any fun x => !mayX x n)) ∧ Below w.heap.size w w' := by
  go_enter Try.func71, Try.ntmps71
  go_wp2_with (go_at_call 76; refine (index_any l A n cap bl _ hr hok hn hbl hc).mono ?_; rintro e w' ⟨r, rfl, hd, hb⟩; have HD := Lib.hid hd; clear hd)
  go_ret
  exact ⟨ret_bool HD.out, hb⟩

theorem May_any (l : List Ins) (A : Option Addr) (n cap : Nat) (w : World) (hr : Rd w w.heap.size 5 A n (l.flatMap Ins.cu)) (hok : ∀ x ∈ l, x.ok) (hn : n ≤ 140737488355328) :
    Calls Try.prog 66 #[.slice A n cap] w fun e w' => e = .returned (.bool (mayP l)) ∧ Below w.heap.size w w' := by
  have hmf : ∀ (fn : Fn) (first cap : Array Value) (w : World), (Instr.makeFunc fn first cap).run Try.prog w = .ok (.func fn first cap) w := fun _ _ _ _ => rfl
  have hln := hr.lenU
  have hb0 : Below w.heap.size w (w.alloc (.cells #[.slice A n cap] 24)) := (Below.refl _ _).alloc (Nat.le_refl _) _
  have hr1 := (hr.below hb0).mono (B' := (w.alloc (.cells #[.slice A n cap] 24)).heap.size) (by simp)
  have hc1 : (w.alloc (.cells #[.slice A n cap] 24)).cell? ⟨w.heap.size, 0, none⟩ = some (.slice A n cap) := cell_of_one (heap_alloc_new w _)
  by_cases h64 : n ≤ 64
  · have hd : mayP l = !(l.any fun x => !mayX x n) := by
      unfold mayP
      rw [hln, List.not_any_eq_all_not]
      simp [h64]
    have HD := Lib.hid hd
    clear hd hln
    go_enter Try.func66, Try.ntmps66
    go_wp2_with (go_at_call 71; refine (contains_any l A n cap w.heap.size _ hr1 hok hn (by simp) hc1).mono ?_; rintro e w' ⟨rfl, hb⟩)
    go_ret
    exact ⟨ret_bool HD.out.symm, hb0.trans (hb.mono (by simp))⟩
  · have hd : mayP l = false := by
      unfold mayP
      rw [hln]
      simp [h64]
    have HD := Lib.hid hd
    clear hd hln
    go_enter Try.func66, Try.ntmps66
    go_wp2
    go_ret
    exact ⟨ret_bool HD.out.symm, hb0⟩
end Go.Proofs.Ytmiagijgecgfoaa
