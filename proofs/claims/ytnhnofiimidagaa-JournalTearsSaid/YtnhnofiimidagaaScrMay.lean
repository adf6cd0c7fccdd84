/-
  The walks of script.Script.May and of what it calls.
-/
import Derived.Test.YtnhnofiimidagaaCodeLaw
import Derived.Lib.AppendStr
namespace Go.Proofs.Ytnhnofiimidagaa
open Go.RowKit

def strV (l : List UInt8) : Value := .string (S l)
def byteV (u : UInt8) : Value := .int .u8 (u.toNat : Int)
def pickOk (u : UInt8) : Bool := decide ((u.toNat : Int) < 8 ∨ (u.toNat : Int) = 8 ∨ (16 ≤ (u.toNat : Int) ∧ (u.toNat : Int) < 24))
/-- may a script of so many pages, these programs, these picks be? -/
def mayS (pg : Int) (ps : List (List UInt8)) (pk : List UInt8) : Bool :=
  decide ((1 ≤ pg ∧ pg ≤ 64) ∧ (1 ≤ ps.length ∧ ps.length ≤ 8) ∧ pk.length ≤ 4000) && ps.all decOk && pk.all pickOk

section
variable {w : World} {B n : Nat} {A : Option Addr}
theorem Rd.one {α : Type} {f : α → Value} {l : List α} (h : Rd w B 1 A n (l.map f)) {k : Nat} (hk : k < n) : ∃ b o x, A = some ⟨b, o, none⟩ ∧ b < B ∧ l[k]? = some x ∧ w.cell? ⟨b, o + k, none⟩ = some (f x) := by
  obtain ⟨b, o, hA, hb, hc⟩ := h.2 (by omega)
  have hl : k < l.length := by have := h.1; simp at this; omega
  have hx : l[k]? = some l[k] := List.getElem?_eq_getElem hl
  exact ⟨b, o, l[k], hA, hb, hx, hc k _ (by simp [hx])⟩
theorem Rd.lenOne {α : Type} {f : α → Value} {l : List α} (h : Rd w B 1 A n (l.map f)) : l.length = n := by have := h.1; simpa using this
end

set_option maxHeartbeats 1000000 in
theorem pick_any (u : UInt8) (w : World) : Calls Try.prog 49 #[byteV u] w fun e w' => e = .returned (.bool (pickOk u)) ∧ w = w' := by
  have h := u.toNat_lt
  simp only [byteV]
  go_enter Try.func49, Try.ntmps49
  go_wp2
  all_goals go_ret
  all_goals (refine ⟨ret_bool ?_, rfl⟩)
  all_goals (simp only [pickOk]; rw [Bool.eq_iff_iff]; simp; omega)

theorem may2_any (u : UInt8) (w : World) : Calls Try.prog 48 #[byteV u] w fun e w' => e = .returned (.bool (!pickOk u)) ∧ w = w' := by
  go_enter Try.func48, Try.ntmps48
  go_wp2_with (go_at_call 49; refine (pick_any u _).mono ?_; rintro e w' ⟨rfl, rfl⟩)
  go_ret
  exact ⟨rfl, rfl⟩

theorem mays1_any (s : List UInt8) (w : World) (hs : s.length ≤ 1000000) : Calls Try.prog 45 #[strV s] w fun e w' => e = .returned (.bool (!decOk s)) ∧ Below w.heap.size w w' := by
  simp only [strV]
  cases hd : decOk s with
  | true =>
    have HE := Lib.hid (decE_ok hd).1
    clear hd
    go_enter Try.func45, Try.ntmps45
    go_wp2_with (go_at_call 18; refine (dec_any s _ hs).mono ?_; rintro e w' ⟨A, c, rfl, hown, hb⟩; rw [HE.out])
    go_ret
    exact ⟨rfl, hb⟩
  | false =>
    have HE := Lib.hid (decE_no hd).1
    clear hd
    go_enter Try.func45, Try.ntmps45
    go_wp2_with (go_at_call 18; refine (dec_any s _ hs).mono ?_; rintro e w' ⟨A, c, rfl, hown, hb⟩; rw [HE.out])
    go_ret
    exact ⟨rfl, hb⟩

set_option maxRecDepth 100000 in
set_option maxHeartbeats 1000000 in
theorem indexS_any (l : List (List UInt8)) (A : Option Addr) (n cap : Nat) (w : World) (hr : Rd w w.heap.size 1 A n (l.map strV)) (hle : ∀ x ∈ l, x.length ≤ 1000000) (hn : n ≤ 140737488355328) :
    Calls Try.prog 60 #[.slice A n cap, .func (.func 45) #[] #[]] w
      fun e w' => ∃ r : Int, e = .returned (.int .i64 r) ∧ decide (0 ≤ r) = (l.any fun x => !decOk x) ∧ Below w.heap.size w w' := by
  have hln := hr.lenOne
  have HL : Hid (l.length = n) := hln
  clear hln
  go_enter Try.func60, Try.ntmps60
  go_wp2
  go_loopw [8] (fun i wr => ∃ k : Nat, k ≤ n ∧ i = .int .i64 k ∧ Hid (∀ x ∈ l.take k, decOk x = true) ∧ Below w.heap.size w wr) (fun i _ => n - (intOf i).toNat)
  case atStart => exact ⟨0, Nat.zero_le _, rfl, fun x hx => by simp at hx, Below.refl _ _⟩
  case round =>
    obtain ⟨k, hk, rfl, HA, hb⟩ := hrel
    by_cases hlt : k < n
    · obtain ⟨b, o, x, rfl, hbl', hx, g0⟩ := (hr.below hb).one hlt
      have hxl := hle x (mem_of_get hx)
      have HX : Hid (l[k]? = some x) := hx
      have HT : Hid (l.take (k + 1) = l.take k ++ [x]) := take_snoc hx
      have hsz := hb.size
      clear hx hr hle
      by_cases hm : decOk x = true
      · have HM := Lib.hid hm
        clear hm
        go_wp2_with (go_at_call 45; refine (mays1_any x _ hxl).mono ?_; rintro e w' ⟨rfl, hb1⟩; rw [HM.out])
        go_roundw
        case rel => exact ⟨k + 1, by omega, by go_num, (by
          show ∀ y ∈ l.take (k + 1), decOk y = true
          rw [HT.out]
          intro y hy
          rcases List.mem_append.1 hy with hy | hy
          · exact HA.out y hy
          · rw [List.mem_singleton.1 hy]; exact HM.out), hb.trans (hb1.mono hsz)⟩
        case measure => simp [intOf]; omega
      · have hm' : decOk x = false := by simpa using hm
        have HM := Lib.hid hm'
        clear hm hm'
        go_wp2_with (go_at_call 45; refine (mays1_any x _ hxl).mono ?_; rintro e w' ⟨rfl, hb1⟩; rw [HM.out])
        go_ret
        refine ⟨_, rfl, ?_, hb.trans (hb1.mono hsz)⟩
        rw [Bool.eq_iff_iff]
        simp only [decide_eq_true_eq, List.any_eq_true]
        exact ⟨fun _ => ⟨x, mem_of_get HX.out, by rw [HM.out]; rfl⟩, fun _ => by omega⟩
    · obtain rfl : k = n := by omega
      go_wp2
      go_ret
      refine ⟨_, rfl, ?_, hb⟩
      have h1 := HA.out
      rw [List.take_of_length_le (by rw [HL.out]; omega)] at h1
      symm
      rw [show decide ((0 : Int) ≤ -1) = false from rfl, List.any_eq_false]
      intro x hx
      rw [h1 x hx]; simp

theorem containsS_any (l : List (List UInt8)) (A : Option Addr) (n cap : Nat) (w : World) (hr : Rd w w.heap.size 1 A n (l.map strV)) (hle : ∀ x ∈ l, x.length ≤ 1000000) (hn : n ≤ 140737488355328) :
    Calls Try.prog 46 #[.slice A n cap, .func (.func 45) #[] #[]] w
      fun e w' => e = .returned (.bool (l.any fun x => !decOk x)) ∧ Below w.heap.size w w' := by
  go_enter Try.func46, Try.ntmps46
  go_wp2_with (go_at_call 60; refine (indexS_any l A n cap _ hr hle hn).mono ?_; rintro e w' ⟨r, rfl, hd, hb⟩; have HD := Lib.hid hd; clear hd)
  go_ret
  exact ⟨ret_bool HD.out, hb⟩

set_option maxRecDepth 100000 in
set_option maxHeartbeats 1000000 in
theorem indexB_any (l : List UInt8) (A : Option Addr) (n cap : Nat) (w : World) (hr : Rd w w.heap.size 1 A n (l.map byteV)) (hn : n ≤ 140737488355328) :
    Calls Try.prog 61 #[.slice A n cap, .func (.func 48) #[] #[]] w
      fun e w' => ∃ r : Int, e = .returned (.int .i64 r) ∧ decide (0 ≤ r) = (l.any fun x => !pickOk x) ∧ Below w.heap.size w w' := by
  have hln := hr.lenOne
  have HL : Hid (l.length = n) := hln
  clear hln
  go_enter Try.func61, Try.ntmps61
  go_wp2
  go_loopw [8] (fun i wr => ∃ k : Nat, k ≤ n ∧ i = .int .i64 k ∧ Hid (∀ x ∈ l.take k, pickOk x = true) ∧ Below w.heap.size w wr) (fun i _ => n - (intOf i).toNat)
  case atStart => exact ⟨0, Nat.zero_le _, rfl, fun x hx => by simp at hx, Below.refl _ _⟩
  case round =>
    obtain ⟨k, hk, rfl, HA, hb⟩ := hrel
    by_cases hlt : k < n
    · obtain ⟨b, o, x, rfl, hbl', hx, g0⟩ := (hr.below hb).one hlt
      have HX : Hid (l[k]? = some x) := hx
      have HT : Hid (l.take (k + 1) = l.take k ++ [x]) := take_snoc hx
      have hsz := hb.size
      clear hx hr
      by_cases hm : pickOk x = true
      · have HM := Lib.hid hm
        clear hm
        go_wp2_with (go_at_call 48; refine (may2_any x _).mono ?_; rintro e w' ⟨rfl, rfl⟩; rw [HM.out])
        go_roundw
        case rel => exact ⟨k + 1, by omega, by go_num, (by
          show ∀ y ∈ l.take (k + 1), pickOk y = true
          rw [HT.out]
          intro y hy
          rcases List.mem_append.1 hy with hy | hy
          · exact HA.out y hy
          · rw [List.mem_singleton.1 hy]; exact HM.out), hb⟩
        case measure => simp [intOf]; omega
      · have hm' : pickOk x = false := by simpa using hm
        have HM := Lib.hid hm'
        clear hm hm'
        go_wp2_with (go_at_call 48; refine (may2_any x _).mono ?_; rintro e w' ⟨rfl, rfl⟩; rw [HM.out])
        go_ret
        refine ⟨_, rfl, ?_, hb⟩
        rw [Bool.eq_iff_iff]
        simp only [decide_eq_true_eq, List.any_eq_true]
        exact ⟨fun _ => ⟨x, mem_of_get HX.out, by rw [HM.out]; rfl⟩, fun _ => by omega⟩
    · obtain rfl : k = n := by omega
      go_wp2
      go_ret
      refine ⟨_, rfl, ?_, hb⟩
      have h1 := HA.out
      rw [List.take_of_length_le (by rw [HL.out]; omega)] at h1
      symm
      rw [show decide ((0 : Int) ≤ -1) = false from rfl, List.any_eq_false]
      intro x hx
      rw [h1 x hx]; simp

theorem containsB_any (l : List UInt8) (A : Option Addr) (n cap : Nat) (w : World) (hr : Rd w w.heap.size 1 A n (l.map byteV)) (hn : n ≤ 140737488355328) :
    Calls Try.prog 47 #[.slice A n cap, .func (.func 48) #[] #[]] w
      fun e w' => e = .returned (.bool (l.any fun x => !pickOk x)) ∧ Below w.heap.size w w' := by
  go_enter Try.func47, Try.ntmps47
  go_wp2_with (go_at_call 61; refine (indexB_any l A n cap _ hr hn).mono ?_; rintro e w' ⟨r, rfl, hd, hb⟩; have HD := Lib.hid hd; clear hd)
  go_ret
  exact ⟨ret_bool HD.out, hb⟩

theorem new_cell {w w1 : World} {cs : Array Value} {t : TypeId} {fr : Nat × Nat} (hb : Below (w.alloc (.cells cs t fr)).heap.size (w.alloc (.cells cs t fr)) w1) (j : Nat) : w1.cell? ⟨w.heap.size, j, none⟩ = cs[j]? :=
  (hb.cell (p := ⟨w.heap.size, j, none⟩) (by simp)).trans (cell_of_row _ _ _ _ _ _ (heap_alloc_new w _))
def scrV (pg : Int) (A : Option Addr) (n c : Nat) (A2 : Option Addr) (m c2 : Nat) : Value := .agg #[.int .i64 pg, .slice A n c, .slice A2 m c2]

set_option maxRecDepth 100000 in
set_option maxHeartbeats 2000000 in
theorem scrMay_any (pg : Int) (ps : List (List UInt8)) (pk : List UInt8) (A A2 : Option Addr) (n c m c2 : Nat) (w : World) (hr : Rd w w.heap.size 1 A n (ps.map strV)) (hr2 : Rd w w.heap.size 1 A2 m (pk.map byteV))
    (hle : ∀ x ∈ ps, x.length ≤ 1000000) (hn : n ≤ 140737488355328) (hm : m ≤ 140737488355328) :
    Calls Try.prog 25 #[scrV pg A n c A2 m c2] w fun e w' => e = .returned (.bool (mayS pg ps pk)) ∧ Below w.heap.size w w' := by
  have hln := hr.lenOne
  have hlm := hr2.lenOne
  simp only [scrV]
  have hb0 : Below w.heap.size w (w.alloc (.cells #[.int .i64 pg, .slice A n c, .slice A2 m c2] 49)) := (Below.refl _ _).alloc (Nat.le_refl _) _
  have hr1 := hr.to hb0
  have hr21 := hr2.to hb0
  by_cases hg : (1 ≤ pg ∧ pg ≤ 64) ∧ (1 ≤ n ∧ n ≤ 8) ∧ m ≤ 4000
  · have hmay : mayS pg ps pk = (ps.all decOk && pk.all pickOk) := by
      unfold mayS
      rw [hln, hlm]
      simp [hg]
    obtain ⟨⟨g1, g2⟩, ⟨g3, g4⟩, g5⟩ := hg
    have HMAY := Lib.hid hmay
    clear hmay hln hlm
    by_cases hp : ps.all decOk = true
    · have hpa : (ps.any fun x => !decOk x) = false := by
        rw [List.any_eq_false]
        rw [List.all_eq_true] at hp
        intro x hx
        rw [hp x hx]; simp
      have HP := Lib.hid hp
      have HPA := Lib.hid hpa
      clear hp hpa
      go_enter Try.func25, Try.ntmps25
      go_wp2_with fail
      refine (containsS_any ps A n c _ hr1 hle hn).mono ?_
      rintro e w1 ⟨rfl, hb1⟩
      rw [HPA.out]
      have hr22 := hr21.to hb1
      have hb := bt hb0 hb1
      have cb2 : w1.cell? ⟨w.heap.size, 2, none⟩ = some (.slice A2 m c2) := new_cell hb1 2
      clear hr1 hr21 hb0 hb1 hle hr hr2
      go_wp2_with fail
      refine (containsB_any pk A2 m c2 _ hr22 hm).mono ?_
      rintro e w2 ⟨rfl, hb2⟩
      go_wp2
      go_ret
      refine ⟨ret_bool ?_, bt hb hb2⟩
      rw [HMAY.out, HP.out, List.not_any_eq_all_not]
      simp
    · have hpa : (ps.any fun x => !decOk x) = true := by
        rw [List.any_eq_true]
        rw [List.all_eq_true] at hp
        simp only [Classical.not_forall] at hp
        obtain ⟨x, hx, hd⟩ := hp
        exact ⟨x, hx, by simpa using hd⟩
      have hp' : ps.all decOk = false := by simpa using hp
      have HP := Lib.hid hp'
      have HPA := Lib.hid hpa
      clear hp hp' hpa
      go_enter Try.func25, Try.ntmps25
      go_wp2_with fail
      refine (containsS_any ps A n c _ hr1 hle hn).mono ?_
      rintro e w1 ⟨rfl, hb1⟩
      rw [HPA.out]
      go_wp2
      go_ret
      refine ⟨ret_bool ?_, bt hb0 hb1⟩
      rw [HMAY.out, HP.out]
      rfl
  · have hmay : mayS pg ps pk = false := by
      unfold mayS
      rw [hln, hlm, decide_eq_false hg]
      rfl
    have HMAY := Lib.hid hmay
    clear hmay hln hlm hle hr1 hr21
    by_cases g1 : 1 ≤ pg ∧ pg ≤ 64
    · obtain ⟨g1, g2⟩ := g1
      by_cases g3 : 1 ≤ n ∧ n ≤ 8
      · obtain ⟨g3, g4⟩ := g3
        have g5 : 4000 < m := by omega
        clear hg
        go_enter Try.func25, Try.ntmps25
        go_wp2
        go_ret
        exact ⟨ret_bool HMAY.out.symm, hb0⟩
      · clear hg
        go_enter Try.func25, Try.ntmps25
        go_wp2
        all_goals (go_ret; exact ⟨ret_bool HMAY.out.symm, hb0⟩)
    · clear hg
      go_enter Try.func25, Try.ntmps25
      go_wp2
      all_goals (go_ret; exact ⟨ret_bool HMAY.out.symm, hb0⟩)
end Go.Proofs.Ytnhnofiimidagaa
