/-
  The walk of flow's graph.next, flow.of, flow.Next.
-/
import Derived.Test.YtmiagijgecgfoaaFSort
namespace Go.Proofs.Ytmiagijgecgfoaa
open Go.RowKit

def intV (k : Nat) : Value := .int .i64 k
/-- the next places, rising -/
def nextL (l : List Ins) (k : Nat) : List Nat := match l[k]? with
  | none => []
  | some x => if x.op = 0 then [] else if x.op = 5 then [x.n.toNat] else if x.op = 6 then (if x.n.toNat < k + 1 then [x.n.toNat, k + 1] else if x.n.toNat = k + 1 then [k + 1] else [k + 1, x.n.toNat]) else [k + 1]

theorem RdB.none_ {w : World} {lo hi size : Nat} : RdB w lo hi size none 0 [] := ⟨by simp, fun h => absurd h (by omega)⟩
theorem Bx.rdb {w : World} {g lo size n : Nat} {cs : Array Value} (h : Bx w g cs) (hlo : lo ≤ g) (xs : List Value) (hl : xs.length = n * size) (hx : ∀ (j : Nat) (u : Value), xs[j]? = some u → cs[j]? = some u) : RdB w lo w.heap.size size (some ⟨g, 0, none⟩) n xs :=
  ⟨hl, fun _ => ⟨g, 0, rfl, hlo, h.lt, fun j u hu => by rw [Nat.zero_add]; exact (h.cell j).trans (hx j u hu)⟩⟩
theorem Bx.rd {w : World} {g size n : Nat} {cs : Array Value} (h : Bx w g cs) (xs : List Value) (hl : xs.length = n * size) (hx : ∀ (j : Nat) (u : Value), xs[j]? = some u → cs[j]? = some u) : Rd w w.heap.size size (some ⟨g, 0, none⟩) n xs :=
  ⟨hl, fun _ => ⟨g, 0, rfl, h.lt, fun j u hu => by rw [Nat.zero_add]; exact (h.cell j).trans (hx j u hu)⟩⟩
theorem pre_of {α : Type} {xs ys : List α} {j : Nat} {u : α} (h : xs[j]? = some u) : (xs ++ ys).toArray[j]? = some u := by
  have hl := (List.getElem?_eq_some_iff.1 h).1
  simp [List.getElem?_append_left hl, h]

section
variable {l : List Ins} {A : Option Addr} {n c : Nat} {w : World}

def NextOut (l : List Ins) (k : Nat) (w : World) (e : Ending) (w' : World) : Prop :=
  ∃ A' cap, e = .returned (.slice A' (nextL l k).length cap) ∧ RdB w' w.heap.size w'.heap.size 1 A' (nextL l k).length ((nextL l k).map intV) ∧ Below w.heap.size w w'

set_option maxRecDepth 100000 in
set_option maxHeartbeats 2000000 in
theorem next_out (a : Int) (ha : a < 0 ∨ (n : Int) ≤ a) :
    Calls Try.prog 59 #[.slice A n c, .int .i64 a] w fun e w' => e = .returned (.slice none 0 0) ∧ Below w.heap.size w w' := by
  by_cases h0 : a < 0
  · have hd : decide (a < 0) = true := decide_eq_true h0
    clear ha
    go_enter Try.func59, Try.ntmps59
    go_wp2
    go_ret
    exact ⟨rfl, Below.refl _ _⟩
  · have hd : decide (a < 0) = false := decide_eq_false h0
    have hd1 : decide ((n : Int) ≤ a) = true := decide_eq_true (by omega)
    clear ha
    go_enter Try.func59, Try.ntmps59
    go_wp2
    go_ret
    exact ⟨rfl, Below.refl _ _⟩


set_option maxRecDepth 100000 in
set_option maxHeartbeats 4000000 in
theorem next_halt (hr : Rd w w.heap.size 5 A n (l.flatMap Ins.cu)) {k ka kb kc kn : Nat} (hx : l[k]? = some ⟨0, ka, kb, kc, kn⟩) :
    Calls Try.prog 59 #[.slice A n c, .int .i64 k] w (NextOut l k w) := by
  have e1 : nextL l k = [] := by unfold nextL; rw [hx]; rfl
  have E1 := Lib.hid e1
  clear e1
  have hln := hr.lenU
  have hlt : k < n := by have := (List.getElem?_eq_some_iff.1 hx).1; omega
  obtain ⟨b, o, y, rfl, hbl, hy, g0, g1, g2, g3, g4⟩ := hr.insU hlt
  obtain rfl := Option.some.inj (hx.symm.trans hy)
  simp only at g0 g1 g2 g3 g4
  have HX := hide hx
  have jn : (k : Int) < n := by omega
  clear hx hy hln hr
  go_enter Try.func59, Try.ntmps59
  go_wp2
  go_ret
  refine ⟨none, 0, ?_, ?_, ?_⟩
  · rw [E1.out]; rfl
  · rw [E1.out]; exact RdB.none_
  · exact (Below.refl _ _).alloc (Nat.le_refl _) _

set_option maxRecDepth 100000 in
set_option maxHeartbeats 4000000 in
theorem next_jump (hr : Rd w w.heap.size 5 A n (l.flatMap Ins.cu)) {k ka kb kc kn : Nat} (hx : l[k]? = some ⟨5, ka, kb, kc, kn⟩) (hn : kn ≤ 65535) :
    Calls Try.prog 59 #[.slice A n c, .int .i64 k] w (NextOut l k w) := by
  have e1 : nextL l k = [kn] := by unfold nextL; rw [hx]; rfl
  have E1 := Lib.hid e1
  have hw : IntKind.i64.wrap (kn : Int) = kn := IntWalk.i64_in _ (by omega)
  clear e1
  have hln := hr.lenU
  have hlt : k < n := by have := (List.getElem?_eq_some_iff.1 hx).1; omega
  obtain ⟨b, o, y, rfl, hbl, hy, g0, g1, g2, g3, g4⟩ := hr.insU hlt
  obtain rfl := Option.some.inj (hx.symm.trans hy)
  simp only at g0 g1 g2 g3 g4
  have HX := hide hx
  have jn : (k : Int) < n := by omega
  clear hx hy hln hr
  go_enter Try.func59, Try.ntmps59
  go_wp2
  go_ret
  refine ⟨some ⟨w.heap.size + 1, 0, none⟩, 1, ?_, ?_, ?_⟩
  · rw [E1.out]; rfl
  · rw [E1.out]
    exact (Bx.new _ _ _ _ (by simp)).rdb (by omega) _ rfl (fun j u hu => by simpa [intV] using hu)
  · exact ((Below.refl _ _).alloc (Nat.le_refl _) _).alloc (by simp) _

set_option maxRecDepth 100000 in
set_option maxHeartbeats 4000000 in
theorem next_plain (hr : Rd w w.heap.size 5 A n (l.flatMap Ins.cu)) {k xo ka kb kc kn : Nat} (hx : l[k]? = some ⟨xo, ka, kb, kc, kn⟩) (h0 : xo ≠ 0) (h5 : xo ≠ 5) (h6 : xo ≠ 6) (hn : n ≤ 1000) :
    Calls Try.prog 59 #[.slice A n c, .int .i64 k] w (NextOut l k w) := by
  have e1 : nextL l k = [k + 1] := by
    unfold nextL; rw [hx]; simp only
    rw [if_neg (by omega), if_neg (by omega), if_neg (by omega)]
  have E1 := Lib.hid e1
  clear e1
  have d0 : ((xo : Int) == 0) = false := by simp; omega
  have d5 : ((xo : Int) == 5) = false := by simp; omega
  have d6 : ((xo : Int) == 6) = false := by simp; omega
  have p0 : decide ((xo : Int) = 0) = false := decide_eq_false (by omega)
  have p5 : decide ((xo : Int) = 5) = false := decide_eq_false (by omega)
  have p6 : decide ((xo : Int) = 6) = false := decide_eq_false (by omega)
  have q0 : ¬ (xo : Int) = 0 := by omega
  have q5 : ¬ (xo : Int) = 5 := by omega
  have q6 : ¬ (xo : Int) = 6 := by omega
  have hln := hr.lenU
  have hlt : k < n := by have := (List.getElem?_eq_some_iff.1 hx).1; omega
  obtain ⟨b, o, y, rfl, hbl, hy, g0, g1, g2, g3, g4⟩ := hr.insU hlt
  obtain rfl := Option.some.inj (hx.symm.trans hy)
  simp only at g0 g1 g2 g3 g4
  have HX := hide hx
  have jn : (k : Int) < n := by omega
  clear hx hy hln hr
  go_enter Try.func59, Try.ntmps59
  go_wp2
  go_ret
  refine ⟨some ⟨w.heap.size + 1, 0, none⟩, 1, ?_, ?_, ?_⟩
  · rw [E1.out]; rfl
  · rw [E1.out]
    exact (Bx.new _ _ _ _ (by simp)).rdb (by omega) _ rfl (fun j u hu => by simpa [intV] using hu)
  · exact ((Below.refl _ _).alloc (Nat.le_refl _) _).alloc (by simp) _


set_option maxRecDepth 100000 in
set_option maxHeartbeats 4000000 in
theorem next_if_lt (hr : Rd w w.heap.size 5 A n (l.flatMap Ins.cu)) {k ka kb kc kn : Nat} (hx : l[k]? = some ⟨6, ka, kb, kc, kn⟩) (hkn : kn ≤ 65535) (hn : n ≤ 1000) (hlk : kn < k + 1) :
    Calls Try.prog 59 #[.slice A n c, .int .i64 k] w (NextOut l k w) := by
  have e1 : nextL l k = [kn, k + 1] := by
    unfold nextL; rw [hx]; simp only [Int.toNat_natCast]
    rw [if_neg (show ¬ ((6 : Int) = 0) by omega), if_neg (show ¬ ((6 : Int) = 5) by omega), if_pos trivial, if_pos hlk]
  have E1 := Lib.hid e1
  have hw : IntKind.i64.wrap (kn : Int) = kn := IntWalk.i64_in _ (by omega)
  clear e1
  have hln := hr.lenU
  have hlt : k < n := by have := (List.getElem?_eq_some_iff.1 hx).1; omega
  obtain ⟨b, o, y, rfl, hbl, hy, g0, g1, g2, g3, g4⟩ := hr.insU hlt
  obtain rfl := Option.some.inj (hx.symm.trans hy)
  simp only at g0 g1 g2 g3 g4
  have HX := hide hx
  have jn : (k : Int) < n := by omega
  clear hx hy hln hr
  go_enter Try.func59, Try.ntmps59
  go_upto_region 11 with fail
  refine nameW ?_
  intro W hW
  have hb : Below w.heap.size w W := by rw [hW]; exact ((Below.refl _ _).alloc (Nat.le_refl _) _).alloc (by simp) _
  have ht : Two W (w.heap.size + 1) kn ((k : Int) + 1) W := ⟨by rw [hW]; exact Bx.new _ _ _ _ (by simp), fun _ _ _ => Below.refl _ _⟩
  have hsz := ht.1.lt
  clear hW g0 g1 g2 g3 g4
  go_wp2_with fail
  refine (sort2_le ht (by omega)).mono ?_
  rintro e w1 ⟨⟨v1, rfl⟩, h1⟩
  have hb1 := hb.trans (h1.2 w.heap.size (by omega) (by omega))
  have h1' : Two w1 (w.heap.size + 1) kn ((k:Int)+1) w1 := ⟨h1.1, fun _ _ _ => Below.refl _ _⟩
  have hsz1 := h1.1.lt
  clear hb ht h1
  go_wp2_with fail
  refine (compact2_ne h1' (by omega)).mono ?_
  rintro e w2 ⟨rfl, h2⟩
  have hb2 := hb1.trans (h2.2 w.heap.size (by omega) (by omega))
  have HB := hide hb2
  have H2 := hide h2
  clear hb1 h1' hb2 h2
  go_wp2
  go_ret
  refine ⟨some ⟨w.heap.size + 1, 0, none⟩, 2, ?_, ?_, HB.out⟩
  · rw [E1.out]; rfl
  · rw [E1.out]
    exact H2.out.1.rdb (by omega) _ rfl (fun j u hu => by simpa [intV] using hu)

set_option maxRecDepth 100000 in
set_option maxHeartbeats 4000000 in
theorem next_if_gt (hr : Rd w w.heap.size 5 A n (l.flatMap Ins.cu)) {k ka kb kc kn : Nat} (hx : l[k]? = some ⟨6, ka, kb, kc, kn⟩) (hkn : kn ≤ 65535) (hn : n ≤ 1000) (hlk : k + 1 < kn) :
    Calls Try.prog 59 #[.slice A n c, .int .i64 k] w (NextOut l k w) := by
  have e1 : nextL l k = [k + 1, kn] := by
    unfold nextL; rw [hx]; simp only [Int.toNat_natCast]
    rw [if_neg (show ¬ ((6 : Int) = 0) by omega), if_neg (show ¬ ((6 : Int) = 5) by omega), if_pos trivial, if_neg (by omega), if_neg (by omega)]
  have E1 := Lib.hid e1
  have hw : IntKind.i64.wrap (kn : Int) = kn := IntWalk.i64_in _ (by omega)
  clear e1
  have hln := hr.lenU
  have hlt : k < n := by have := (List.getElem?_eq_some_iff.1 hx).1; omega
  obtain ⟨b, o, y, rfl, hbl, hy, g0, g1, g2, g3, g4⟩ := hr.insU hlt
  obtain rfl := Option.some.inj (hx.symm.trans hy)
  simp only at g0 g1 g2 g3 g4
  have HX := hide hx
  have jn : (k : Int) < n := by omega
  clear hx hy hln hr
  go_enter Try.func59, Try.ntmps59
  go_upto_region 11 with fail
  refine nameW ?_
  intro W hW
  have hb : Below w.heap.size w W := by rw [hW]; exact ((Below.refl _ _).alloc (Nat.le_refl _) _).alloc (by simp) _
  have ht : Two W (w.heap.size + 1) kn ((k : Int) + 1) W := ⟨by rw [hW]; exact Bx.new _ _ _ _ (by simp), fun _ _ _ => Below.refl _ _⟩
  have hsz := ht.1.lt
  clear hW g0 g1 g2 g3 g4
  go_wp2_with fail
  refine (sort2_gt ht (by omega)).mono ?_
  rintro e w1 ⟨⟨v1, rfl⟩, h1⟩
  have hb1 := hb.trans (h1.2 w.heap.size (by omega) (by omega))
  have h1' : Two w1 (w.heap.size + 1) ((k:Int)+1) kn w1 := ⟨h1.1, fun _ _ _ => Below.refl _ _⟩
  have hsz1 := h1.1.lt
  clear hb ht h1
  go_wp2_with fail
  refine (compact2_ne h1' (by omega)).mono ?_
  rintro e w2 ⟨rfl, h2⟩
  have hb2 := hb1.trans (h2.2 w.heap.size (by omega) (by omega))
  have HB := hide hb2
  have H2 := hide h2
  clear hb1 h1' hb2 h2
  go_wp2
  go_ret
  refine ⟨some ⟨w.heap.size + 1, 0, none⟩, 2, ?_, ?_, HB.out⟩
  · rw [E1.out]; rfl
  · rw [E1.out]
    exact H2.out.1.rdb (by omega) _ rfl (fun j u hu => by simpa [intV] using hu)

set_option maxRecDepth 100000 in
set_option maxHeartbeats 4000000 in
theorem next_if_eq (hr : Rd w w.heap.size 5 A n (l.flatMap Ins.cu)) {k ka kb kc kn : Nat} (hx : l[k]? = some ⟨6, ka, kb, kc, kn⟩) (hn : n ≤ 1000) (hlk : kn = k + 1) :
    Calls Try.prog 59 #[.slice A n c, .int .i64 k] w (NextOut l k w) := by
  have e1 : nextL l k = [k + 1] := by
    unfold nextL; rw [hx]; simp only [Int.toNat_natCast]
    rw [if_neg (show ¬ ((6 : Int) = 0) by omega), if_neg (show ¬ ((6 : Int) = 5) by omega), if_pos trivial, if_neg (by omega), if_pos (by omega)]
  have E1 := Lib.hid e1
  have hkl : k < 65535 := by have := hr.lenU; have := (List.getElem?_eq_some_iff.1 hx).1; omega
  have hw : IntKind.i64.wrap (kn : Int) = kn := IntWalk.i64_in _ (by omega)
  have HL := Lib.hid hlk
  have hle : kn ≤ k + 1 := by omega
  clear e1 hlk
  have hln := hr.lenU
  have hlt : k < n := by have := (List.getElem?_eq_some_iff.1 hx).1; omega
  obtain ⟨b, o, y, rfl, hbl, hy, g0, g1, g2, g3, g4⟩ := hr.insU hlt
  obtain rfl := Option.some.inj (hx.symm.trans hy)
  simp only at g0 g1 g2 g3 g4
  have HX := hide hx
  have jn : (k : Int) < n := by omega
  clear hx hy hln hr
  go_enter Try.func59, Try.ntmps59
  go_upto_region 11 with fail
  refine nameW ?_
  intro W hW
  have hb : Below w.heap.size w W := by rw [hW]; exact ((Below.refl _ _).alloc (Nat.le_refl _) _).alloc (by simp) _
  have ht : Two W (w.heap.size + 1) kn ((k : Int) + 1) W := ⟨by rw [hW]; exact Bx.new _ _ _ _ (by simp), fun _ _ _ => Below.refl _ _⟩
  have hsz := ht.1.lt
  clear hW g0 g1 g2 g3 g4
  go_wp2_with fail
  refine (sort2_le ht (by omega)).mono ?_
  rintro e w1 ⟨⟨v1, rfl⟩, h1⟩
  have hb1 := hb.trans (h1.2 w.heap.size (by omega) (by omega))
  have h1' : Two w1 (w.heap.size + 1) kn ((k:Int)+1) w1 := ⟨h1.1, fun _ _ _ => Below.refl _ _⟩
  have hsz1 := h1.1.lt
  clear hb ht h1
  go_wp2_with fail
  have hkk : (kn : Int) = (k : Int) + 1 := by have := HL.out; omega
  rw [hkk] at h1'
  clear hkk hw hle
  refine (compact2_eq h1').mono ?_
  rintro e w2 ⟨rfl, h2⟩
  have hb2 := hb1.trans (h2.2 w.heap.size (by omega) (by omega))
  have HB := hide hb2
  have H2 := hide h2
  clear hb1 h1' hb2 h2
  go_wp2
  go_ret
  refine ⟨some ⟨w.heap.size + 1, 0, none⟩, 2, ?_, ?_, HB.out⟩
  · rw [E1.out]; rfl
  · rw [E1.out]
    exact H2.out.1.rdb (by omega) _ rfl (fun j u hu => by
      have hl : j < 1 := (List.getElem?_eq_some_iff.1 hu).1
      obtain rfl : j = 0 := by omega
      simpa [intV] using hu)

theorem next_any (hp : Prog l) (hr : Rd w w.heap.size 5 A n (l.flatMap Ins.cu)) (k : Nat) :
    Calls Try.prog 59 #[.slice A n c, .int .i64 k] w (NextOut l k w) := by
  have hln := hr.lenU
  have hle := hp.le
  cases hx : l[k]? with
  | none =>
    have : n ≤ k := by have := List.getElem?_eq_none_iff.1 hx; omega
    refine (next_out k (.inr (by omega))).mono ?_
    rintro e w' ⟨rfl, hb⟩
    have e1 : nextL l k = [] := by unfold nextL; rw [hx]
    exact ⟨none, 0, by rw [e1]; rfl, by rw [e1]; exact RdB.none_, hb⟩
  | some x =>
    obtain ⟨xo, ka, kb, kc, kn, rfl, ha, hb, hc, hk, ho, hj⟩ := hp.get hx
    by_cases h0 : xo = 0
    · subst h0; exact next_halt hr hx
    · by_cases h5 : xo = 5
      · subst h5; exact next_jump hr hx hk
      · by_cases h6 : xo = 6
        · subst h6
          rcases Nat.lt_trichotomy kn (k + 1) with h | h | h
          · exact next_if_lt hr hx hk (by omega) h
          · exact next_if_eq hr hx (by omega) h
          · exact next_if_gt hr hx hk (by omega) h
        · exact next_plain hr hx h0 h5 h6 (by omega)
end
end Go.Proofs.Ytmiagijgecgfoaa
