/-
  The walk of bailiwicklaw24.FlowGoes.
-/
import Derived.Test.YtmiagijgecgfoaaGBad
import Derived.Test.YtmiagijgecgfoaaGEach
import Derived.Test.YtmiagijgecgfoaaFWakes
import Derived.Test.YtmiagijgecgfoaaCodeRef
namespace Go.Proofs.Ytmiagijgecgfoaa
open Go.RowKit

/-- the next places of whatever place -/
def nextZ (l : List Ins) (a : Int) : List Nat := if 0 ≤ a then nextL l a.toNat else []
theorem nextZ_edge (l : List Ins) (a : Int) (j : Nat) : edgeB l a j = decide (j ∈ nextZ l a) := by
  unfold nextZ
  split
  · rename_i h
    obtain ⟨k, rfl⟩ : ∃ k : Nat, a = k := ⟨a.toNat, by omega⟩
    exact edgeB_nat l k j
  · rw [edgeB_out (.inl (by omega))]
    simp
theorem nextZ_le {l : List Ins} (hp : Prog l) {a : Int} {j : Nat} (h : j ∈ nextZ l a) : j ≤ l.length := by
  unfold nextZ at h
  split at h
  · exact nextL_le hp h
  · cases h
theorem nextZ_short (l : List Ins) (a : Int) : (nextZ l a).length ≤ 2 := by
  unfold nextZ
  split
  · exact nextL_short l _
  · simp
theorem nextL_sorted (l : List Ins) (k : Nat) : ∀ (i j x y : Nat), i < j → (nextL l k)[i]? = some x → (nextL l k)[j]? = some y → x < y := by
  have h1 : ∀ z : Nat, ∀ (i j x y : Nat), i < j → [z][i]? = some x → [z][j]? = some y → x < y := fun z i j x y hij _ h => by
    have := (List.getElem?_eq_some_iff.1 h).1
    simp at this
    omega
  have h2 : ∀ z t : Nat, z < t → ∀ (i j x y : Nat), i < j → [z, t][i]? = some x → [z, t][j]? = some y → x < y := fun z t hz i j x y hij hx hy => by
    have hj := (List.getElem?_eq_some_iff.1 hy).1
    simp at hj
    obtain rfl : j = 1 := by omega
    obtain rfl : i = 0 := by omega
    simp at hx hy
    omega
  have h0 : ∀ (i j x y : Nat), i < j → ([] : List Nat)[i]? = some x → ([] : List Nat)[j]? = some y → x < y := fun i j x y _ h => by simp at h
  unfold nextL
  split
  · exact h0
  · split
    · exact h0
    · split
      · exact h1 _
      · split
        · split
          · exact h2 _ _ (by omega)
          · split
            · exact h1 _
            · exact h2 _ _ (by omega)
        · exact h1 _
theorem nextZ_sorted (l : List Ins) (a : Int) : ∀ (i j x y : Nat), i < j → (nextZ l a)[i]? = some x → (nextZ l a)[j]? = some y → x < y := by
  unfold nextZ
  split
  · exact nextL_sorted l _
  · intro i j x y _ h; simp at h
/-- so many of them are less than j -/
def CntB (N : List Nat) (j q : Nat) : Prop := q ≤ N.length ∧ ∀ (i x : Nat), N[i]? = some x → (i < q ↔ x < j)
section
variable {N : List Nat} {j q : Nat}
theorem CntB.zero : CntB N 0 0 := ⟨Nat.zero_le _, fun i x _ => by omega⟩
theorem CntB.no (h : CntB N j q) (hj : j ∉ N) : CntB N (j + 1) q := ⟨h.1, fun i x hx => by
  rw [h.2 i x hx]
  have : x ≠ j := fun e => hj (e ▸ mem_of_get hx)
  omega⟩
theorem CntB.yes (hs : ∀ (i j x y : Nat), i < j → N[i]? = some x → N[j]? = some y → x < y) (h : CntB N j q) (hj : j ∈ N) : N[q]? = some j ∧ CntB N (j + 1) (q + 1) := by
  obtain ⟨i, hi, hij⟩ := List.mem_iff_getElem.1 hj
  have hi' : N[i]? = some j := by rw [List.getElem?_eq_getElem hi, hij]
  have hq : q ≤ i := by
    have := (h.2 i j hi').1
    omega
  have he : q = i := by
    rcases Nat.lt_or_ge q i with h1 | h1
    · have hx : N[q]? = some N[q] := List.getElem?_eq_getElem (by omega)
      have h2 := hs q i _ _ h1 hx hi'
      have h3 := (h.2 q _ hx).2 h2
      omega
    · omega
  subst he
  refine ⟨hi', by omega, fun i x hx => ?_⟩
  constructor
  · intro h1
    rcases Nat.lt_or_ge i q with h2 | h2
    · have := (h.2 i x hx).1 h2; omega
    · obtain rfl : i = q := by omega
      rw [hi'] at hx
      have := Option.some.inj hx
      omega
  · intro h1
    rcases Nat.lt_or_ge q i with h2 | h2
    · have := hs q i _ _ h2 hi' hx; omega
    · omega
theorem CntB.all (h : CntB N j q) (hl : ∀ x ∈ N, x < j) : q = N.length := by
  rcases Nat.lt_or_ge q N.length with h1 | h1
  · have hx : N[q]? = some N[q] := List.getElem?_eq_getElem h1
    have := (h.2 q _ hx).2 (hl _ (mem_of_get hx))
    omega
  · have := h.1; omega
end

section
variable {l : List Ins} {A : Option Addr} {n c : Nat} {w : World}
theorem Next_all (hp : Prog l) (hr : Rd w w.heap.size 5 A n (l.flatMap Ins.cu)) (a : Int) :
    Calls Try.prog 36 #[.slice A n c, .int .i64 a] w fun e w' => ∃ A' cap, e = .returned (.tuple #[.slice A' (nextZ l a).length cap, .int .i64 0]) ∧ Rd w' w'.heap.size 1 A' (nextZ l a).length ((nextZ l a).map intV) ∧ Below w.heap.size w w' := by
  have hln := hr.lenU
  by_cases h : 0 ≤ a ∧ a < n
  · obtain ⟨k, rfl⟩ : ∃ k : Nat, a = k := ⟨a.toNat, by omega⟩
    have e : nextZ l (k : Int) = nextL l k := by unfold nextZ; rw [if_pos (by omega)]; rfl
    rw [e]
    exact Next_in hp hr k
  · have e : nextZ l a = [] := by
      unfold nextZ
      split
      · unfold nextL; rw [List.getElem?_eq_none (by omega)]
      · rfl
    rw [e]
    refine (Next_out (c := c) hp hr a (by omega)).mono ?_
    rintro e w' ⟨rfl, hb⟩
    exact ⟨none, 0, rfl, Rd.none_, hb⟩

set_option maxRecDepth 100000 in
set_option maxHeartbeats 8000000 in
theorem goes24_any (hok : ∀ x ∈ l, x.ok) (hn : n ≤ 140737488355328) (hr : Rd w w.heap.size 5 A n (l.flatMap Ins.cu)) (a b : Int) :
    Calls Try.prog 7 #[.slice A n c, .int .i64 a, .int .i64 b] w fun e w' => e = .returned (.bool true) ∧ Below w.heap.size w w' := by
  by_cases hg : n ≤ 200
  · have hd1 : decide (200 < n) = false := decide_eq_false (by omega)
    have hd1' : decide ((200 : Int) < n) = false := decide_eq_false (by omega)
    have HO := hide (of_any A n c l w (by omega) hr hok)
    cases hm : mayP l with
    | false =>
      have HM := hide (fun W A c h => rmay_any A n c l W (by omega) h hok)
      rw [hm] at HM
      have HB := hide (fun W (hb : Below w.heap.size w W) => bad_no (c := c) hok hm hn (hr.to hb) a b)
      clear hm hr hok
      go_enter Try.func7, Try.ntmps7
      go_wp2_with fail
      refine (unhide HO).mono ?_
      rintro e w1 ⟨A', c', rfl, hown, hb1⟩
      have hr1 := Rd.of_own hown
      clear hown HO
      go_wp2_with fail
      refine (unhide HM _ _ _ hr1).mono ?_
      rintro e w2 ⟨rfl, hb2⟩
      have hb := bt hb1 hb2
      clear hb1 hb2 HM hr1
      go_wp2_with fail
      refine (unhide HB _ hb).mono ?_
      rintro e w3 ⟨rfl, hb3⟩
      have hb4 := bt hb hb3
      clear hb hb3 HB
      go_wp2_with fail
      refine (wakes24_any _).mono ?_
      rintro e w4 ⟨rfl, hb5⟩
      go_wp2
      go_ret
      exact ⟨rfl, bt hb4 hb5⟩
    | true =>
      have HM := hide (fun W A c h => rmay_any A n c l W (by omega) h hok)
      rw [hm] at HM
      have hp : Prog l := ⟨hok, hm⟩
      have hln := hr.lenU
      have hle := hp.le
      have hn64 : n ≤ 64 := by omega
      obtain ⟨rb, hrb⟩ := reached_ex l
      have HR := hide (fun (W : World) (hb : Below w.heap.size w W) => hr.to hb)
      have HN := hide (fun W h => Next_all (w := W) (A := A) (n := n) (c := c) hp h a)
      have HE := hide (fun W A c h i j => edge_any (w := W) (A := A) (n := n) (c := c) hok h (by omega) i j)
      have HRE := hide (fun W h => Reached_yes (w := W) (A := A) (n := n) (c := c) hp h hrb)
      have HRR := hide (fun W A c h => rReached_any (w := W) (A := A) (n := n) (c := c) hp h hrb)
      have HL := hide (show ∀ x ∈ nextZ l a, x < n + 1 from fun x hx => by have := nextZ_le hp hx; omega)
      have HS := hide (nextZ_sorted l a)
      have hED := fun j => nextZ_edge l a j
      have hsh := nextZ_short l a
      obtain ⟨N, hN⟩ : ∃ q, nextZ l a = q := ⟨_, rfl⟩
      rw [hN] at HN HL HS hsh
      have hED : ∀ j : Nat, edgeB l a j = decide (j ∈ N) := fun j => by rw [hED j, hN]
      have HED := hide hED
      obtain ⟨q, hq⟩ : ∃ q, N.length = q := ⟨_, rfl⟩
      rw [hq] at HN hsh
      have HQ := Lib.hid hq
      clear hm hr hok hp hrb hln hle hED hN hq
      go_enter Try.func7, Try.ntmps7
      go_wp2_with fail
      refine (unhide HO).mono ?_
      rintro e w1 ⟨A', c', rfl, hown, hb1⟩
      have hr1 := Rd.of_own hown
      clear hown HO
      go_wp2_with fail
      refine (unhide HM _ _ _ hr1).mono ?_
      rintro e w2 ⟨rfl, hb2⟩
      have hb := bt hb1 hb2
      have hri := hr1.to hb2
      clear hb1 hb2 HM hr1
      go_wp2_with fail
      refine (unhide HN _ (unhide HR _ hb)).mono ?_
      rintro e w3 ⟨An, cn, rfl, hrn, hb3⟩
      have hb4 := bt hb hb3
      have hri2 := hri.to hb3
      have HI := hide (fun (W : World) (hb : Below w3.heap.size w3 W) => hri2.to hb)
      have HNN := hide (fun (W : World) (hb : Below w3.heap.size w3 W) => hrn.to hb)
      have HB := hide hb4
      clear hb hb3 hri hri2 hrn hb4 HN
      go_wp2
      go_loopw [10, 11] (fun cc jj wr => ∃ (k j : Nat), j ≤ n + 1 ∧ jj = .int .i64 j ∧ cc = .int .i64 k ∧ CntB N j k ∧ Below w3.heap.size w3 wr) (fun _ jj _ => n + 1 - (intOf jj).toNat)
      case atStart => exact ⟨0, 0, Nat.zero_le _, rfl, rfl, CntB.zero, Below.refl _ _⟩
      case round =>
        obtain ⟨k, j, hj, rfl, rfl, hC, hbq⟩ := hrel
        by_cases hlt : j < n + 1
        · have j1 : (j : Int) ≤ n := by omega
          have hE := (unhide HE) wr A' c' (unhide HI wr hbq) a j
          rw [unhide HED j] at hE
          have hkl := hC.1
          rw [HQ.out] at hkl
          have hkq : (k : Int) ≤ 2 := by omega
          by_cases hm : j ∈ N
          · rw [decide_eq_true hm] at hE
            obtain ⟨hg, hC2⟩ := CntB.yes (unhide HS) hC hm
            have hkN := (List.getElem?_eq_some_iff.1 hg).1
            rw [HQ.out] at hkN
            have hE2 := hide hE
            have HC2 := hide hC2
            clear hE hC hC2 hm
            go_wp2_with fail
            refine (unhide hE2).mono ?_
            rintro e w4 ⟨rfl, hb4⟩
            have hbr := hbq.trans (hb4.mono hbq.size)
            obtain ⟨bn, on, rfl, _, hcs⟩ := (unhide HNN _ hbr).2 (by omega)
            have q0 := hcs k (intV j) (by rw [List.getElem?_map, hg]; rfl)
            simp only [intV] at q0
            have z1 : ¬ (q : Int) ≤ k := by omega
            have z2 : decide ((q : Int) ≤ k) = false := decide_eq_false z1
            have z3 : decide (q ≤ k) = false := decide_eq_false (by omega)
            have z4 : (k : Int) < q := by omega
            have z5 : ((k : Int)).toNat = k := by omega
            have HBR := hide hbr
            clear hbr hb4 hcs hg hbq hE2
            go_wp2
            go_roundw
            case rel => exact ⟨k + 1, j + 1, by omega, by go_num, by go_num, HC2.out, HBR.out⟩
            case measure => simp [intOf]; omega
          · rw [decide_eq_false hm] at hE
            have hC2 := hC.no hm
            have hE2 := hide hE
            have HC2 := hide hC2
            clear hE hC hC2 hm
            go_wp2_with fail
            refine (unhide hE2).mono ?_
            rintro e w4 ⟨rfl, hb4⟩
            have HBR := hide (hbq.trans (hb4.mono hbq.size))
            clear hb4 hbq hE2
            go_wp2
            go_roundw
            case rel => exact ⟨k, j + 1, by omega, by go_num, rfl, HC2.out, HBR.out⟩
            case measure => simp [intOf]; omega
        · have je : j = n + 1 := by omega
          have jz : ¬ (j : Int) ≤ n := by omega
          have hkq := hC.all (by rw [je]; exact unhide HL)
          rw [HQ.out] at hkq
          subst hkq
          have hb5 := bt (unhide HB) hbq
          have hri := (unhide HI) _ hbq
          clear hC je hlt hbq HI HNN HB HE
          go_wp2_with fail
          refine (unhide HRE _ (unhide HR _ hb5)).mono ?_
          rintro e w5 ⟨Ar, cr, rfl, hown, hb6⟩
          have hrr := Rd.of_own hown
          have hri2 := hri.to hb6
          have hb7 := bt hb5 hb6
          clear hri hb5 hb6 hown HRE
          go_wp2_with fail
          refine (unhide HRR _ _ _ hri2).mono ?_
          rintro e w6 ⟨As, cs, rfl, hown, hb8⟩
          have hrs := Rd.of_own hown
          have hrr2 := hrr.to hb8
          have hb9 := bt hb7 hb8
          clear hri2 hb7 hb8 hown hrr HRR
          go_wp2_with fail
          refine (row_same (by omega) hrr2 hrs).mono ?_
          rintro e w7 ⟨rfl, hb10⟩
          have hb11 := bt hb9 hb10
          clear hb9 hb10 hrr2 hrs
          go_wp2_with fail
          refine (wakes24_any _).mono ?_
          rintro e w8 ⟨rfl, hb12⟩
          go_wp2
          go_ret
          exact ⟨rfl, bt hb11 hb12⟩
  · have hd1 : decide (200 < n) = true := decide_eq_true (by omega)
    have hd1' : decide ((200 : Int) < n) = true := decide_eq_true (by omega)
    go_enter Try.func7, Try.ntmps7
    go_wp2_with fail
    refine (wakes24_any w).mono ?_
    rintro e w1 ⟨rfl, hb1⟩
    go_wp2
    go_ret
    exact ⟨rfl, hb1⟩
end
end Go.Proofs.Ytmiagijgecgfoaa
