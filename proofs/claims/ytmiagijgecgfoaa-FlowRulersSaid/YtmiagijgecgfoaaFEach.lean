/-
  The walks of flow's reached, loop, of, Next, each, Reached, Loops.
-/
import Derived.Test.YtmiagijgecgfoaaFFrom2
import Derived.ChangeKeysEq
namespace Go.Proofs.Ytmiagijgecgfoaa
open Go.RowKit

theorem Try.infoB : (Try.prog.info? 4).map (fun i => (i.zero, i.size, i.bytes)) = some (some (.bool false), 1, 1) := by kernel_rfl
theorem idxPl (m : Nat → Bool) {k : Nat} (hk : k < 65) (w : World) : (Instr.index 115 (.agg (mC m)) (.int .i64 k)).run Try.prog w = .ok (.bool (m k)) w := by
  have hi := Try.infoB
  cases hq : Try.prog.info? 4 with
  | none => rw [hq] at hi; simp at hi
  | some i =>
    have hc : Try.prog.cellsOf 4 = 1 := by kernel_rfl
    have hp : (part 4 (mC m) k).run Try.prog w = .ok (.bool (m k)) w := run_part_plain w (by kernel_rfl) (mC_get m hk)
    have h1 : (0 : Int) ≤ k ∧ (k : Int) < ((65 : Nat) : Int) := by omega
    simp [Instr.index, asIntOf, run_underlying Try.underlying115, hk, run_sizeOf w hq, hc, hp]

section
variable {l : List Ins} {A : Option Addr} {n c : Nat} {w : World}

theorem reB_ex (l : List Ins) (out : Int) (ps : List Nat) : ∃ b : Nat → Bool, ∀ i, b i = true ↔ ∃ a ∈ ps, RE l out a i :=
  ⟨fun i => @decide _ (Classical.propDecidable (∃ a ∈ ps, RE l out a i)), fun i => by simp⟩
theorem bool_ext {a b : Bool} (h : a = true ↔ b = true) : a = b := by cases a <;> cases b <;> simp_all
theorem nextL_short (l : List Ins) (k : Nat) : (nextL l k).length ≤ 2 := by
  unfold nextL
  split
  · simp
  · split
    · simp
    · split
      · simp
      · split
        · split
          · simp
          · split <;> simp
        · simp
/-- which places are reached -/
def IsReached (l : List Ins) (b : Nat → Bool) : Prop := ∀ i, b i = true ↔ RE l (-1) 0 i
theorem reached_ex (l : List Ins) : ∃ b, IsReached l b := by
  obtain ⟨b, hb⟩ := reB_ex l (-1) [0]
  exact ⟨b, fun i => (hb i).trans (by simp)⟩
/-- which lie on a loop -/
def IsLoops (l : List Ins) (b : Nat → Bool) : Prop := ∀ i, b i = true ↔ RE l (-1) 0 i ∧ ∃ a ∈ nextL l i, RE l (-1) a i
theorem loops_ex (l : List Ins) : ∃ b, IsLoops l b := ⟨fun i => @decide _ (Classical.propDecidable (RE l (-1) 0 i ∧ ∃ a ∈ nextL l i, RE l (-1) a i)), fun i => by simp⟩

set_option maxRecDepth 100000 in
set_option maxHeartbeats 4000000 in
theorem reached_any (hp : Prog l) (hr : Rd w w.heap.size 5 A n (l.flatMap Ins.cu)) {b : Nat → Bool} (hb : IsReached l b) :
    Calls Try.prog 62 #[.slice A n c] w fun e w' => e = .returned (placesV b) ∧ Below w.heap.size w w' := by
  have HR := hide hr
  have HB := hide hb
  clear hr hb
  go_enter Try.func62, Try.ntmps62
  go_upto_region 1 with fail
  refine nameW ?_
  intro W hW
  rw [zeros115] at hW
  have hb0 : Below w.heap.size w W := by rw [hW]; exact (Below.refl _ _).alloc (Nat.le_refl _) _
  have hx0 : Bx W w.heap.size (mC fun _ => false) := by rw [hW]; exact Bx.new _ _ _ _ rfl
  clear hW
  go_wp2_with fail
  have hby : Below W.heap.size W (W.alloc (.cells #[.int .i64 0] 3)) := (Below.refl _ _).alloc (Nat.le_refl _) _
  have hb2 := bt hb0 hby
  have h2 : Rd (W.alloc (.cells #[.int .i64 0] 3)) (W.alloc (.cells #[.int .i64 0] 3)).heap.size 1 (some ⟨W.heap.size, 0, none⟩) 1 ([0].map intV) :=
    (Rd.of_new W ([0].map intV) 3 W.heap.size rfl rfl).mono (by simp)
  refine (from_any (out := -1) (ps := [0]) hp ((unhide HR).to hb2) h2 (by simp) (by omega)).mono ?_
  rintro e w1 ⟨m, rfl, hm, hb1⟩
  have e1 : m = b := by
    funext i
    refine bool_ext ?_
    rw [hm i, (unhide HB) i]
    simp
  subst e1
  have hx1 := (hx0.to hby).to hb1
  have hb3 := bt hb2 hb1
  rename_i hK
  refine hK _ _ ?_
  refine hx1.listStore (cs' := mC m) rfl _ _ rfl rfl rfl (sizePl m) (by rw [mC_size, mC_size]) (mC_one m) ?_
  have HX := hide (hx1.row (mC m))
  have HBB := hide (below_setRow hb3 (Nat.le_refl _) (mC m))
  clear hm hx1 hb3 hx0 hb0 hby hb2 h2 hb1
  go_wp2
  refine bodyPost_ret ((unhide HX).results rfl _ rfl Try.underlying115 rfl (sizePl m)) rfl ?_
  exact ⟨rfl, HBB.out⟩

set_option maxRecDepth 100000 in
set_option maxHeartbeats 4000000 in
theorem reached1_any (hp : Prog l) (hr : Rd w w.heap.size 5 A n (l.flatMap Ins.cu)) {b : Nat → Bool} (hb : IsReached l b) {k : Nat} (hk : k ≤ 64) :
    Calls Try.prog 65 #[.slice A n c, .int .i64 k] w fun e w' => e = .returned (.bool (b k)) ∧ Below w.heap.size w w' := by
  have hC := reached_any (c := c) hp hr hb
  have g0 := fun w => idxPl b (show k < 65 by omega) w
  have HC := hide hC
  clear hC hr hb
  unfold placesV at HC
  go_enter Try.func65, Try.ntmps65
  go_wp2_with fail
  refine (unhide HC).mono ?_
  rintro e w1 ⟨rfl, hb1⟩
  go_wp2
  go_ret
  exact ⟨rfl, hb1⟩

set_option maxRecDepth 100000 in
set_option maxHeartbeats 4000000 in
theorem loop_any (hp : Prog l) (hr : Rd w w.heap.size 5 A n (l.flatMap Ins.cu)) {b : Nat → Bool} (hb : IsLoops l b) {k : Nat} (hk : k ≤ n) :
    Calls Try.prog 56 #[.slice A n c, .int .i64 k] w fun e w' => e = .returned (.bool (b k)) ∧ Below w.heap.size w w' := by
  have hln := hr.lenU
  have hle := hp.le
  obtain ⟨rb, hrb⟩ := reached_ex l
  have hC := reached_any (c := c) hp hr hrb
  have hk65 : k < 65 := by omega
  have g0 := fun w => idxPl rb hk65 w
  have HC := hide hC
  unfold placesV at HC
  by_cases hrk : rb k = true
  · have HRK := hide ((hrb k).1 hrk)
    have HR := hide hr
    have HLN := Lib.hid hln
    have HB := hide hb
    rw [hrk] at g0
    clear hC hr hb hrb hrk hln
    go_enter Try.func56, Try.ntmps56
    go_wp2_with fail
    refine (unhide HC).mono ?_
    rintro e w1 ⟨rfl, hb1⟩
    go_wp2_with fail
    refine (next_any hp ((unhide HR).to hb1) k).mono ?_
    rintro e w2 ⟨A', cap, rfl, hrd, hb2⟩
    have hnl : ∀ j ∈ nextL l k, j ≤ n := fun j hj => by have := nextL_le hp hj; rw [HLN.out] at this; exact this
    have hb3 := bt hb1 hb2
    have h64 : (nextL l k).length ≤ 1000000 := by have := nextL_short l k; omega
    go_wp2_with fail
    refine (from_any (out := -1) (ps := nextL l k) hp ((unhide HR).to hb3) (hrd.rd (Nat.le_refl _)) hnl h64).mono ?_
    rintro e w3 ⟨m, rfl, hm, hb4⟩
    unfold placesV
    have e1 : m k = b k := by
      refine bool_ext ?_
      rw [hm k, (unhide HB) k]
      exact ⟨fun h => ⟨unhide HRK, h⟩, fun h => h.2⟩
    have g1 := fun w => idxPl m hk65 w
    rw [e1] at g1
    have HB4 := hide (bt hb3 hb4)
    clear hrd hb1 hb2 hb3 hb4 hm hnl h64 e1
    go_wp2
    go_ret
    exact ⟨rfl, HB4.out⟩
  · have hrk' : rb k = false := by simpa using hrk
    have hbk : b k = false := by
      cases h : b k with
      | false => rfl
      | true => exact absurd ((hrb k).2 ((hb k).1 h).1) hrk
    rw [hrk'] at g0
    rw [hbk]
    clear hC hr hb hrb hrk hrk' hbk hln
    go_enter Try.func56, Try.ntmps56
    go_wp2_with fail
    refine (unhide HC).mono ?_
    rintro e w1 ⟨rfl, hb1⟩
    go_wp2
    go_ret
    exact ⟨rfl, hb1⟩

set_option maxRecDepth 100000 in
set_option maxHeartbeats 4000000 in
theorem of_yes (hp : Prog l) (hr : Rd w w.heap.size 5 A n (l.flatMap Ins.cu)) :
    Calls Try.prog 61 #[.slice A n c] w fun e w' => e = .returned (.tuple #[.slice A n c, .int .i64 0]) ∧ Below w.heap.size w w' := by
  have hln := hr.lenU
  have hle := hp.le
  have hM := May_any l A n c w hr hp.ok (by omega)
  rw [hp.may] at hM
  have HM := hide hM
  clear hM hr hln hp
  go_enter Try.func61, Try.ntmps61
  go_wp2_with fail
  refine (unhide HM).mono ?_
  rintro e w1 ⟨rfl, hb1⟩
  go_wp2
  go_ret2
  exact ⟨rfl, hb1⟩

set_option maxRecDepth 100000 in
set_option maxHeartbeats 4000000 in
theorem of_no (hok : ∀ x ∈ l, x.ok) (hm : mayP l = false) (hn : n ≤ 140737488355328) (hr : Rd w w.heap.size 5 A n (l.flatMap Ins.cu)) :
    Calls Try.prog 61 #[.slice A n c] w fun e w' => e = .returned (.tuple #[.slice none 0 0, .int .i64 3]) ∧ Below w.heap.size w w' := by
  have hM := May_any l A n c w hr hok hn
  rw [hm] at hM
  have HM := hide hM
  clear hM hr hok hm
  go_enter Try.func61, Try.ntmps61
  go_wp2_with fail
  refine (unhide HM).mono ?_
  rintro e w1 ⟨rfl, hb1⟩
  go_wp2
  go_ret2
  exact ⟨rfl, hb1⟩

/-- each place's answer, as cells -/
def rowV (b : Nat → Bool) (n : Nat) : List Value := (List.range n).map fun i => .bool (b i)
theorem rowV_len (b : Nat → Bool) (n : Nat) : (rowV b n).length = n := by simp [rowV]
theorem rowV_succ (b : Nat → Bool) (n : Nat) : rowV b (n + 1) = rowV b n ++ [.bool (b n)] := by simp [rowV, List.range_succ]

set_option maxRecDepth 100000 in
set_option maxHeartbeats 4000000 in
theorem each_yesR (hp : Prog l) (hr : Rd w w.heap.size 5 A n (l.flatMap Ins.cu)) (b : Nat → Bool)
    (hF : ∀ (k : Nat), k ≤ n → ∀ W : World, Rd W W.heap.size 5 A n (l.flatMap Ins.cu) → Calls Try.prog 65 #[.slice A n c, .int .i64 k] W fun e w' => e = .returned (.bool (b k)) ∧ Below W.heap.size W w') :
    Calls Try.prog 55 #[.slice A n c, .func (.func 65) #[] #[]] w fun e w' => ∃ A' c', e = .returned (.tuple #[.slice A' (n + 1) c', .int .i64 0]) ∧ w'.ownsRow w.heap.size 4 1 (.slice A' (n + 1) c') (n + 1) (rowV b (n + 1)) ∧ Below w.heap.size w w' := by
  obtain ⟨i0, hi, hz0, hz1, hz2⟩ := info_parts Try.infoB
  have hln := hr.lenU
  have hle := hp.le
  have hO := of_yes (c := c) hp hr
  have HO := hide hO
  have HF := hide hF
  have HR := hide hr
  have hnn : n ≤ 64 := by omega
  clear hO hr hF hp hln
  go_enter Try.func55, Try.ntmps55
  go_wp2_with fail
  refine (unhide HO).mono ?_
  rintro e w1 ⟨rfl, hb1⟩
  have HR1 := hide (fun (W : World) (hb : Below w1.heap.size w1 W) => ((unhide HR).to hb1).to hb)
  have HB1 := hide hb1
  clear HR HO hb1
  go_wp2
  go_loopw [8, 21] (fun v i wr => ∃ k : Nat, k ≤ n + 1 ∧ i = .int .i64 k ∧ wr.ownsRow w1.heap.size 4 1 v k (rowV b k) ∧ Below w1.heap.size w1 wr) (fun _ i _ => n + 1 - (intOf i).toNat)
  case atStart => exact ⟨0, Nat.zero_le _, rfl, World.ownsRow_nil _ _ _ _, Below.refl _ _⟩
  case round =>
    obtain ⟨k, hk, rfl, hown, hb⟩ := hrel
    by_cases hlt : k < n + 1
    · have hki : (k : Int) < (n : Int) + 1 := by omega
      have hC := (unhide HF) k (by omega) wr ((unhide HR1) wr hb)
      have HC := hide hC
      have hsz := hb.size
      clear hC
      go_wp2_with fail
      refine (unhide HC).mono ?_
      rintro e w2 ⟨rfl, hb2⟩
      have hown2 := own_below hown hb2 (Nat.le_refl _)
      have hb3 := hb.trans (hb2.mono hsz)
      have hsz3 := hb3.size
      clear hown hb hb2 HC hsz
      go_wp2_with (at_builtin; refine wpList_append_own _ rfl _ _ 60 rfl w1.heap.size 4 i0 _ 1 1 Try.underlying60 hi hz0 hz1 hz2 rfl (by decide) _ _ _ rfl (hown2.alloc _) ⟨w2.heap.size, 0, none⟩ 1 1 [.bool (b k)] rfl rfl ?c1 ?c2 ?c3 ?c4 ?c5 ?_)
      case c1 => exact news_at _ _ _ _ rfl
      case c2 => intro u hu; simp at hu; rcases hu with rfl; rfl
      case c3 => unfold maxLen; omega
      case c4 => omega
      case c5 => simp; omega
      intro v' w3 hown' hgrow _
      have hb4 := grown1 hb3 hown2 hsz3 hgrow
      have hrs := rowV_succ b k
      rw [← hrs] at hown'
      clear hown2 hb3 hgrow hrs
      go_wp2
      go_roundw
      case rel => exact ⟨k + 1, by omega, by go_num, hown', hb4⟩
      case measure => simp [intOf]; omega
    · obtain rfl : k = n + 1 := by omega
      have hki : ¬ ((n : Int) + 1) < (n : Int) + 1 := by omega
      obtain ⟨A', c', rfl⟩ := own_shape hown
      have HOW := hide (own_mono hown (unhide HB1).size)
      have HB := hide (bt (unhide HB1) hb)
      clear hown hb
      go_wp2
      go_ret2
      exact ⟨A', c', rfl, HOW.out, HB.out⟩

set_option maxRecDepth 100000 in
set_option maxHeartbeats 4000000 in
theorem each_yesL (hp : Prog l) (hr : Rd w w.heap.size 5 A n (l.flatMap Ins.cu)) (b : Nat → Bool)
    (hF : ∀ (k : Nat), k ≤ n → ∀ W : World, Rd W W.heap.size 5 A n (l.flatMap Ins.cu) → Calls Try.prog 56 #[.slice A n c, .int .i64 k] W fun e w' => e = .returned (.bool (b k)) ∧ Below W.heap.size W w') :
    Calls Try.prog 55 #[.slice A n c, .func (.func 56) #[] #[]] w fun e w' => ∃ A' c', e = .returned (.tuple #[.slice A' (n + 1) c', .int .i64 0]) ∧ w'.ownsRow w.heap.size 4 1 (.slice A' (n + 1) c') (n + 1) (rowV b (n + 1)) ∧ Below w.heap.size w w' := by
  obtain ⟨i0, hi, hz0, hz1, hz2⟩ := info_parts Try.infoB
  have hln := hr.lenU
  have hle := hp.le
  have hO := of_yes (c := c) hp hr
  have HO := hide hO
  have HF := hide hF
  have HR := hide hr
  have hnn : n ≤ 64 := by omega
  clear hO hr hF hp hln
  go_enter Try.func55, Try.ntmps55
  go_wp2_with fail
  refine (unhide HO).mono ?_
  rintro e w1 ⟨rfl, hb1⟩
  have HR1 := hide (fun (W : World) (hb : Below w1.heap.size w1 W) => ((unhide HR).to hb1).to hb)
  have HB1 := hide hb1
  clear HR HO hb1
  go_wp2
  go_loopw [8, 21] (fun v i wr => ∃ k : Nat, k ≤ n + 1 ∧ i = .int .i64 k ∧ wr.ownsRow w1.heap.size 4 1 v k (rowV b k) ∧ Below w1.heap.size w1 wr) (fun _ i _ => n + 1 - (intOf i).toNat)
  case atStart => exact ⟨0, Nat.zero_le _, rfl, World.ownsRow_nil _ _ _ _, Below.refl _ _⟩
  case round =>
    obtain ⟨k, hk, rfl, hown, hb⟩ := hrel
    by_cases hlt : k < n + 1
    · have hki : (k : Int) < (n : Int) + 1 := by omega
      have hC := (unhide HF) k (by omega) wr ((unhide HR1) wr hb)
      have HC := hide hC
      have hsz := hb.size
      clear hC
      go_wp2_with fail
      refine (unhide HC).mono ?_
      rintro e w2 ⟨rfl, hb2⟩
      have hown2 := own_below hown hb2 (Nat.le_refl _)
      have hb3 := hb.trans (hb2.mono hsz)
      have hsz3 := hb3.size
      clear hown hb hb2 HC hsz
      go_wp2_with (at_builtin; refine wpList_append_own _ rfl _ _ 60 rfl w1.heap.size 4 i0 _ 1 1 Try.underlying60 hi hz0 hz1 hz2 rfl (by decide) _ _ _ rfl (hown2.alloc _) ⟨w2.heap.size, 0, none⟩ 1 1 [.bool (b k)] rfl rfl ?c1 ?c2 ?c3 ?c4 ?c5 ?_)
      case c1 => exact news_at _ _ _ _ rfl
      case c2 => intro u hu; simp at hu; rcases hu with rfl; rfl
      case c3 => unfold maxLen; omega
      case c4 => omega
      case c5 => simp; omega
      intro v' w3 hown' hgrow _
      have hb4 := grown1 hb3 hown2 hsz3 hgrow
      have hrs := rowV_succ b k
      rw [← hrs] at hown'
      clear hown2 hb3 hgrow hrs
      go_wp2
      go_roundw
      case rel => exact ⟨k + 1, by omega, by go_num, hown', hb4⟩
      case measure => simp [intOf]; omega
    · obtain rfl : k = n + 1 := by omega
      have hki : ¬ ((n : Int) + 1) < (n : Int) + 1 := by omega
      obtain ⟨A', c', rfl⟩ := own_shape hown
      have HOW := hide (own_mono hown (unhide HB1).size)
      have HB := hide (bt (unhide HB1) hb)
      clear hown hb
      go_wp2
      go_ret2
      exact ⟨A', c', rfl, HOW.out, HB.out⟩

set_option maxRecDepth 100000 in
set_option maxHeartbeats 4000000 in
theorem each_no (hok : ∀ x ∈ l, x.ok) (hm : mayP l = false) (hn : n ≤ 140737488355328) (hr : Rd w w.heap.size 5 A n (l.flatMap Ins.cu)) (F : Nat) :
    Calls Try.prog 55 #[.slice A n c, .func (.func F) #[] #[]] w fun e w' => e = .returned (.tuple #[.slice none 0 0, .int .i64 3]) ∧ Below w.heap.size w w' := by
  have hO := of_no (c := c) hok hm hn hr
  have HO := hide hO
  clear hO hr hok hm
  go_enter Try.func55, Try.ntmps55
  go_wp2_with fail
  refine (unhide HO).mono ?_
  rintro e w1 ⟨rfl, hb1⟩
  go_wp2
  go_ret2
  exact ⟨rfl, hb1⟩

/-- a row of bools that the call made -/
def RowOut (b : Nat → Bool) (n : Nat) (w : World) (e : Ending) (w' : World) : Prop :=
  ∃ A' c', e = .returned (.tuple #[.slice A' (n + 1) c', .int .i64 0]) ∧ w'.ownsRow w.heap.size 4 1 (.slice A' (n + 1) c') (n + 1) (rowV b (n + 1)) ∧ Below w.heap.size w w'

set_option maxRecDepth 100000 in
set_option maxHeartbeats 4000000 in
theorem Reached_yes (hp : Prog l) (hr : Rd w w.heap.size 5 A n (l.flatMap Ins.cu)) {b : Nat → Bool} (hb : IsReached l b) :
    Calls Try.prog 38 #[.slice A n c] w (RowOut b n w) := by
  have hln := hr.lenU
  have hle := hp.le
  have hE := each_yesR (c := c) hp hr b (fun k hk W h => reached1_any hp h hb (by omega))
  have HE := hide hE
  clear hE hr hb hp hln
  go_enter Try.func38, Try.ntmps38
  go_wp2_with fail
  refine (unhide HE).mono ?_
  rintro e w1 ⟨A', c', rfl, hown, hb1⟩
  have HOW := hide hown
  clear hown
  go_wp2
  go_ret2
  exact ⟨A', c', rfl, HOW.out, hb1⟩
set_option maxRecDepth 100000 in
set_option maxHeartbeats 4000000 in
theorem Reached_no (hok : ∀ x ∈ l, x.ok) (hm : mayP l = false) (hn : n ≤ 140737488355328) (hr : Rd w w.heap.size 5 A n (l.flatMap Ins.cu)) :
    Calls Try.prog 38 #[.slice A n c] w fun e w' => e = .returned (.tuple #[.slice none 0 0, .int .i64 3]) ∧ Below w.heap.size w w' := by
  have hE := each_no (c := c) hok hm hn hr 65
  have HE := hide hE
  clear hE hr hok hm
  go_enter Try.func38, Try.ntmps38
  go_wp2_with fail
  refine (unhide HE).mono ?_
  rintro e w1 ⟨rfl, hb1⟩
  go_wp2
  go_ret2
  exact ⟨rfl, hb1⟩
set_option maxRecDepth 100000 in
set_option maxHeartbeats 4000000 in
theorem Loops_yes (hp : Prog l) (hr : Rd w w.heap.size 5 A n (l.flatMap Ins.cu)) {b : Nat → Bool} (hb : IsLoops l b) :
    Calls Try.prog 25 #[.slice A n c] w (RowOut b n w) := by
  have hE := each_yesL (c := c) hp hr b (fun k hk W h => loop_any hp h hb hk)
  have HE := hide hE
  clear hE hr hb hp
  go_enter Try.func25, Try.ntmps25
  go_wp2_with fail
  refine (unhide HE).mono ?_
  rintro e w1 ⟨A', c', rfl, hown, hb1⟩
  have HOW := hide hown
  clear hown
  go_wp2
  go_ret2
  exact ⟨A', c', rfl, HOW.out, hb1⟩
set_option maxRecDepth 100000 in
set_option maxHeartbeats 4000000 in
theorem Loops_no (hok : ∀ x ∈ l, x.ok) (hm : mayP l = false) (hn : n ≤ 140737488355328) (hr : Rd w w.heap.size 5 A n (l.flatMap Ins.cu)) :
    Calls Try.prog 25 #[.slice A n c] w fun e w' => e = .returned (.tuple #[.slice none 0 0, .int .i64 3]) ∧ Below w.heap.size w w' := by
  have hE := each_no (c := c) hok hm hn hr 56
  have HE := hide hE
  clear hE hr hok hm
  go_enter Try.func25, Try.ntmps25
  go_wp2_with fail
  refine (unhide HE).mono ?_
  rintro e w1 ⟨rfl, hb1⟩
  go_wp2
  go_ret2
  exact ⟨rfl, hb1⟩

set_option maxRecDepth 100000 in
set_option maxHeartbeats 4000000 in
theorem Next_in (hp : Prog l) (hr : Rd w w.heap.size 5 A n (l.flatMap Ins.cu)) (k : Nat) :
    Calls Try.prog 36 #[.slice A n c, .int .i64 k] w fun e w' => ∃ A' cap, e = .returned (.tuple #[.slice A' (nextL l k).length cap, .int .i64 0]) ∧ Rd w' w'.heap.size 1 A' (nextL l k).length ((nextL l k).map intV) ∧ Below w.heap.size w w' := by
  have hO := of_yes (c := c) hp hr
  have HO := hide hO
  have HR := hide hr
  have HN := hide (fun W h => next_any (l := l) (A := A) (n := n) (c := c) (w := W) hp h k)
  clear hO hr hp
  go_enter Try.func36, Try.ntmps36
  go_wp2_with fail
  refine (unhide HO).mono ?_
  rintro e w1 ⟨rfl, hb1⟩
  go_wp2_with fail
  refine (unhide HN _ ((unhide HR).to hb1)).mono ?_
  rintro e w2 ⟨A', cap, rfl, hrd, hb2⟩
  have HRD := hide (hrd.rd (Nat.le_refl _))
  have HB := hide (bt hb1 hb2)
  clear hrd hb1 hb2
  go_wp2
  go_ret2
  exact ⟨A', cap, rfl, HRD.out, HB.out⟩
set_option maxRecDepth 100000 in
set_option maxHeartbeats 4000000 in
theorem Next_out (hp : Prog l) (hr : Rd w w.heap.size 5 A n (l.flatMap Ins.cu)) (a : Int) (ha : a < 0 ∨ (n : Int) ≤ a) :
    Calls Try.prog 36 #[.slice A n c, .int .i64 a] w fun e w' => e = .returned (.tuple #[.slice none 0 0, .int .i64 0]) ∧ Below w.heap.size w w' := by
  have hO := of_yes (c := c) hp hr
  have HO := hide hO
  have HN := hide (fun W => next_out (A := A) (n := n) (c := c) (w := W) a ha)
  clear hO hr hp ha
  go_enter Try.func36, Try.ntmps36
  go_wp2_with fail
  refine (unhide HO).mono ?_
  rintro e w1 ⟨rfl, hb1⟩
  go_wp2_with fail
  refine (unhide HN _).mono ?_
  rintro e w2 ⟨rfl, hb2⟩
  have HB := hide (bt hb1 hb2)
  clear hb1 hb2
  go_wp2
  go_ret2
  exact ⟨rfl, HB.out⟩
set_option maxRecDepth 100000 in
set_option maxHeartbeats 4000000 in
theorem Next_no (hok : ∀ x ∈ l, x.ok) (hm : mayP l = false) (hn : n ≤ 140737488355328) (hr : Rd w w.heap.size 5 A n (l.flatMap Ins.cu)) (a : Int) :
    Calls Try.prog 36 #[.slice A n c, .int .i64 a] w fun e w' => e = .returned (.tuple #[.slice none 0 0, .int .i64 3]) ∧ Below w.heap.size w w' := by
  have hO := of_no (c := c) hok hm hn hr
  have HO := hide hO
  clear hO hr hok hm
  go_enter Try.func36, Try.ntmps36
  go_wp2_with fail
  refine (unhide HO).mono ?_
  rintro e w1 ⟨rfl, hb1⟩
  go_wp2
  go_ret2
  exact ⟨rfl, hb1⟩
end
end Go.Proofs.Ytmiagijgecgfoaa
