/-
  The walks of code.Encode and bailiwickref13.Bytes: a program's bytes.
-/
import Derived.Test.YtmiagijgecgfoaaCodeMay
namespace Go.Proofs.Ytmiagijgecgfoaa
open Go.RowKit

/-- an instruction's bytes -/
def encX (x : Ins) : List UInt8 := [by8 x.op, by8 x.a, by8 x.b, by8 x.c, by8 (x.n % 256), by8 (x.n / 256)]
def encB (l : List Ins) : List UInt8 := l.flatMap encX
theorem encB_length (l : List Ins) : (encB l).length = 6 * l.length := by
  unfold encB
  induction l with
  | nil => rfl
  | cons x l ih => rw [List.flatMap_cons, List.length_append, ih, List.length_cons]; simp [encX]; omega
def encS (l : List Ins) : List UInt8 := if mayP l then encB l else []
def encE (l : List Ins) : Int := if mayP l then 0 else 3
theorem encX_v {x : Ins} (h : x.ok) : bytesV (encX x) = [.int .u8 x.op, .int .u8 x.a, .int .u8 x.b, .int .u8 x.c, .int .u8 (x.n % 256), .int .u8 (x.n / 256)] := by
  obtain ⟨⟨p0, q0⟩, ⟨p1, q1⟩, ⟨p2, q2⟩, ⟨p3, q3⟩, ⟨p4, q4⟩⟩ := h
  simp only [encX, bytesV, List.map_cons, List.map_nil]
  rw [by8_val _ p0 q0, by8_val _ p1 q1, by8_val _ p2 q2, by8_val _ p3 q3, by8_val _ (by omega) (by omega), by8_val _ (by omega) (by omega)]

theorem Try.infoU8 : (Try.prog.info? 5).map (fun i => (i.zero, i.size, i.bytes)) = some (some (.int .u8 0), 1, 1) := by kernel_rfl

set_option maxRecDepth 100000 in
set_option maxHeartbeats 1000000 in
theorem enc_any (A : Option Addr) (n cap : Nat) (l : List Ins) (w : World) (hn : n ≤ 140737488355328) (hr : Rd w w.heap.size 5 A n (l.flatMap Ins.cu)) (hok : ∀ x ∈ l, x.ok) :
    Calls Try.prog 44 #[.slice A n cap] w fun e w' => e = .returned (.tuple #[.string (S (encS l)), .int .i64 (encE l)]) ∧ Below w.heap.size w w' := by
  obtain ⟨i0, hi, hz0, hz1, hz2⟩ := info_parts Try.infoU8
  have hln := hr.lenU
  have HL : Hid (l.length = n) := hln
  by_cases hm : mayP l = true
  · have h64 : n ≤ 64 := by
      unfold mayP at hm
      simp only [Bool.and_eq_true, decide_eq_true_eq] at hm
      omega
    have HM := Lib.hid hm
    clear hln hm
    go_enter Try.func44, Try.ntmps44
    go_wp2_with (go_at_call 66; refine (May_any l A n cap _ hr hok hn).mono ?_; rintro e w1 ⟨rfl, hb1⟩; rw [HM.out])
    go_loopw [4, 12] (fun v i wr => ∃ k : Nat, k ≤ n ∧ i = .int .i64 k ∧ wr.ownsRow w.heap.size 5 1 v (k * 6) (bytesV (encB (l.take k))) ∧ Below w.heap.size w wr) (fun _ i _ => n - (intOf i).toNat)
    case atStart => exact ⟨0, Nat.zero_le _, rfl, World.ownsRow_nil _ _ _ _, hb1⟩
    case round =>
      obtain ⟨k, hk, rfl, hown, hb⟩ := hrel
      by_cases hlt : k < n
      · obtain ⟨b, o, x, rfl, hbl, hx, g0, g1, g2, g3, g4⟩ := (hr.below hb).insU hlt
        have HV : Hid _ := encX_v (hok x (mem_of_get hx))
        obtain ⟨⟨p0, q0⟩, ⟨p1, q1⟩, ⟨p2, q2⟩, ⟨p3, q3⟩, ⟨p4, q4⟩⟩ := hok x (mem_of_get hx)
        have HT : Hid (l.take (k + 1) = l.take k ++ [x]) := take_snoc hx
        have hsz := hb.size
        clear hx hr hok
        go_wp2_with (at_builtin; refine wpList_append_own _ rfl _ _ 118 rfl w.heap.size 5 i0 _ 1 1 Try.underlying118 hi hz0 hz1 hz2 rfl (by decide) _ _ _ rfl ((hown.alloc _).alloc _) ⟨wr.heap.size + 1, 0, none⟩ 6 6 (bytesV (encX x)) rfl rfl ?c1 ?c2 ?c3 ?c4 ?c5 ?_)
        case c1 => rw [HV.out]; exact news_at _ _ _ _ (by simp)
        case c2 => exact bytesV_one _
        case c3 => unfold maxLen; omega
        case c4 => omega
        case c5 => simp; omega
        intro v' w1 hown' hgrow _
        go_wp2
        go_roundw
        case rel =>
          refine ⟨k + 1, by omega, by go_num, ?_, grown2 hb hown hsz hgrow⟩
          rw [HT.out]
          unfold encB at hown' ⊢
          rw [List.flatMap_append, bytesV_append, Nat.add_mul]
          simpa using hown'
        case measure => simp [intOf]; omega
      · obtain rfl : k = n := by omega
        obtain ⟨A', c', rfl⟩ := own_shape hown
        have hcv := run_str (Rd.of_own hown) _ _ _ c' Try.underlying118 Try.underlying5 Try.underlying9
        go_wp2
        go_ret2
        refine ⟨?_, hb⟩
        simp only [encS, encE, HM.out, if_true]
        rw [List.take_of_length_le (by rw [HL.out]; omega)]
        rfl
  · have hm' : mayP l = false := by simpa using hm
    have HM := Lib.hid hm'
    clear hln hm hm'
    go_enter Try.func44, Try.ntmps44
    go_wp2_with (go_at_call 66; refine (May_any l A n cap _ hr hok hn).mono ?_; rintro e w1 ⟨rfl, hb1⟩; rw [HM.out])
    go_ret2
    exact ⟨by simp only [encS, encE, HM.out]; rfl, hb1⟩
end Go.Proofs.Ytmiagijgecgfoaa
