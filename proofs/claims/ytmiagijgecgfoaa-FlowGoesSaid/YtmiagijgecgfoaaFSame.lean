/-
  The walk of bailiwicklaw24.FlowSame.
-/
import Derived.Test.YtmiagijgecgfoaaFSameP
namespace Go.Proofs.Ytmiagijgecgfoaa
open Go.RowKit

theorem RdB.weak {w : World} {lo hi lo' hi' size n : Nat} {A : Option Addr} {xs : List Value} (h : RdB w lo hi size A n xs) (h1 : lo' ≤ lo) (h2 : hi ≤ hi') : RdB w lo' hi' size A n xs :=
  ⟨h.1, fun hn => by obtain ⟨b, o, e, q1, q2, hc⟩ := h.2 hn; exact ⟨b, o, e, by omega, by omega, hc⟩⟩
theorem sizeCall (a b c d e f : Value) : (Try.prog.info? 40).map (·.size) = some (#[a, b, c, d, e, f] : Array Value).size := by
  show _ = some 6
  kernel_rfl

section
variable {l : List Ins} {A A' : Option Addr} {n c c' nx : Nat} {r : Nat → Int} {w : World}
set_option maxRecDepth 100000 in
set_option maxHeartbeats 4000000 in
theorem begins_yesB (hp : Prog l) (hr : Rd w w.heap.size 5 A n (l.flatMap Ins.cu)) :
    Calls Try.prog 40 #[.slice A n c] w fun e w' => ∃ A' c', e = .returned (.tuple #[tskV A' n c' 0 rg0, .bool true]) ∧ RdB w' w.heap.size w'.heap.size 5 A' n (l.flatMap Ins.cu) ∧ Below w.heap.size w w' := by
  have hln := hr.lenU
  have hle := hp.le
  obtain ⟨d1, d2⟩ := decL_enc hp.ok hp.may
  have hdo := decOk_enc hp.ok hp.may
  have hen : encS l = encB l ∧ encE l = 0 := by unfold encS encE; rw [hp.may]; exact ⟨rfl, rfl⟩
  have hlen : (encB l).length ≤ 1000000 := by rw [encB_length]; omega
  have HOF := hide (fun W => of14b_any (encB l) W hlen hdo)
  have HR := hide hr
  have D1 := Lib.hid d1
  have D2 := Lib.hid d2
  have E1 := Lib.hid hen.1
  have E2 := Lib.hid hen.2
  have HLN := Lib.hid hln
  have hok := hp.ok
  clear d1 d2 hen hlen hr hln
  go_enter Try.func40, Try.ntmps40
  go_upto_region 1 with fail
  refine nameW ?_
  intro W0 hW0
  have hb0 : Below w.heap.size w W0 := by rw [hW0]; exact (Below.refl _ _).alloc (Nat.le_refl _) _
  have hx0 : Bx W0 w.heap.size (tskC none 0 0 0 rg0) := by rw [hW0]; exact Bx.new _ _ _ _ rfl
  clear hW0
  go_wp2_with fail
  refine (enc_any A n c l W0 (by have := HLN.out; omega) ((unhide HR).to hb0) hok).mono ?_
  rintro e w1 ⟨rfl, hb1⟩
  rw [E1.out, E2.out]
  go_wp2_with fail
  refine (unhide HOF w1).mono ?_
  rintro e w2 ⟨A', c', rfl, hr2, hb2⟩
  rw [D1.out, D2.out] at *
  rw [HLN.out] at *
  simp only [tskV, tskC]
  have hrz := hr2.to (Nat.le_refl _) (Below.refl _ _)
  have hlo : w.heap.size < w1.heap.size + 1 := by have := (hx0.to hb1).lt; omega
  have hbx := bt hb1 hb2
  have hx2 := hx0.to hbx
  have hb3 := bt hb0 hbx
  clear hrz hx0 hb0 hb1 hb2 hbx
  go_upto_region 3 with fail
  refine nameW ?_
  intro W3 hW3
  have hb4 : Below w2.heap.size w2 W3 := by rw [hW3]; exact (Below.refl _ _).alloc (Nat.le_refl _) _
  have hx3 := hx2.to hb4
  have hy3 : Bx W3 w2.heap.size (tskC A' n c' 0 rg0) := by rw [hW3]; exact Bx.new _ _ _ _ rfl
  have hb5 := bt hb3 hb4
  clear hW3 hx2
  have a0 : (_ : Option Value) = some (.slice A' n c') := hy3.cell 0
  have a1 : (_ : Option Value) = some (.int .i64 (0:Int)) := hy3.cell 1
  have a2 : (_ : Option Value) = some (.int .u64 (rg0 0)) := hy3.cell 2
  have a3 : (_ : Option Value) = some (.int .u64 (rg0 1)) := hy3.cell 3
  have a4 : (_ : Option Value) = some (.int .u64 (rg0 2)) := hy3.cell 4
  have a5 : (_ : Option Value) = some (.int .u64 (rg0 3)) := hy3.cell 5
  have a6 : (_ : Option Value) = some (.int .u64 (rg0 4)) := hy3.cell 6
  have a7 : (_ : Option Value) = some (.int .u64 (rg0 5)) := hy3.cell 7
  have a8 : (_ : Option Value) = some (.int .u64 (rg0 6)) := hy3.cell 8
  have a9 : (_ : Option Value) = some (.int .u64 (rg0 7)) := hy3.cell 9
  have e0 : (_ : Option Value) = some (.slice none 0 0) := hx3.cell 0
  have ef0 := hx3.frozen 0
  have e1 : (_ : Option Value) = some (.int .i64 (0:Int)) := hx3.cell 1
  have ef1 := hx3.frozen 1
  have e2 : (_ : Option Value) = some (.int .u64 (rg0 0)) := hx3.cell 2
  have ef2 := hx3.frozen 2
  have e3 : (_ : Option Value) = some (.int .u64 (rg0 1)) := hx3.cell 3
  have ef3 := hx3.frozen 3
  have e4 : (_ : Option Value) = some (.int .u64 (rg0 2)) := hx3.cell 4
  have ef4 := hx3.frozen 4
  have e5 : (_ : Option Value) = some (.int .u64 (rg0 3)) := hx3.cell 5
  have ef5 := hx3.frozen 5
  have e6 : (_ : Option Value) = some (.int .u64 (rg0 4)) := hx3.cell 6
  have ef6 := hx3.frozen 6
  have e7 : (_ : Option Value) = some (.int .u64 (rg0 5)) := hx3.cell 7
  have ef7 := hx3.frozen 7
  have e8 : (_ : Option Value) = some (.int .u64 (rg0 6)) := hx3.cell 8
  have ef8 := hx3.frozen 8
  have e9 : (_ : Option Value) = some (.int .u64 (rg0 7)) := hx3.cell 9
  have ef9 := hx3.frozen 9
  have hzF := hx3.ten (.slice A' n c') (.int .i64 (0:Int)) (.int .u64 (rg0 0)) (.int .u64 (rg0 1)) (.int .u64 (rg0 2)) (.int .u64 (rg0 3)) (.int .u64 (rg0 4)) (.int .u64 (rg0 5)) (.int .u64 (rg0 6)) (.int .u64 (rg0 7))
  have hbF := below_ten (g := w.heap.size) hb5 (Nat.le_refl _) (.slice A' n c') (.int .i64 (0:Int)) (.int .u64 (rg0 0)) (.int .u64 (rg0 1)) (.int .u64 (rg0 2)) (.int .u64 (rg0 3)) (.int .u64 (rg0 4)) (.int .u64 (rg0 5)) (.int .u64 (rg0 6)) (.int .u64 (rg0 7))
  have HFX := hide hzF
  have HBF := hide hbF
  have hrt := (hr2.to (Nat.le_refl _) hb4).ten (g := w.heap.size) (Or.inl hlo) (.slice A' n c') (.int .i64 (0:Int)) (.int .u64 (rg0 0)) (.int .u64 (rg0 1)) (.int .u64 (rg0 2)) (.int .u64 (rg0 3)) (.int .u64 (rg0 4)) (.int .u64 (rg0 5)) (.int .u64 (rg0 6)) (.int .u64 (rg0 7))
  have hs4 := hb4.size
  have HY := hide (fun (q : Nat) (h : w2.heap.size ≤ q) => hrt.weak (lo' := w.heap.size) (hi' := q) (by omega) h)
  clear hrt hr2 hx3 hy3 hb3 hb4 hb5 hzF hbF
  go_wp2
  have x0 := (unhide HFX).cell 0
  have x1 := (unhide HFX).cell 1
  have x2 := (unhide HFX).cell 2
  have x3 := (unhide HFX).cell 3
  have x4 := (unhide HFX).cell 4
  have x5 := (unhide HFX).cell 5
  have x6 := (unhide HFX).cell 6
  have x7 := (unhide HFX).cell 7
  have x8 := (unhide HFX).cell 8
  have x9 := (unhide HFX).cell 9
  refine bodyPost_ret (v := .tuple #[.agg #[.slice A' n c', .int .i64 (0:Int), .int .u64 (rg0 0), .int .u64 (rg0 1), .int .u64 (rg0 2), .int .u64 (rg0 3), .int .u64 (rg0 4), .int .u64 (rg0 5), .int .u64 (rg0 6), .int .u64 (rg0 7)], .bool true]) (by simp [results, Try.results40, go_sem, x0, x1, x2, x3, x4, x5, x6, x7, x8, x9]) rfl ⟨A', ⟨c', rfl⟩, unhide HY _ (by simpa using hs4), HBF.out⟩

end

section
variable {P : Program} {ops : Array Oper} {Q : Exit → Act → World → Prop} {md : Region.Mode} {S : World → Prop} {N : Nat}
theorem wpAnyG_takeL {i : Nat} {oi : Oper} {v : Value} {fuel : Nat} {listed : Array Bool} {a : Act} {w : World} (hi : ops.toList[i]? = some oi)
    (hB : (Region.sinkB md ops N && Region.chainB md ops N && decide (N < ops.size) && decide (i < N) && invB md ops N listed && Region.noSelect ops && Region.free md ops listed i && (Region.ready md ops listed).contains i) = true)
    (hQ : ∀ c a w, Q (.panic c) (a.put oi.dst v) w → Q (.panic c) a w) (hy : YieldsIf P ops S oi v a) (hS : S w)
    (h : wpAnyG P md ops Q S N fuel (listed.setIfInBounds i true) (a.put oi.dst v) w) : wpAnyG P md ops Q S N (fuel + 1) listed a w :=
  wpAnyG_take (by simpa using hi) hB hQ hy hS h
theorem wpAnyG_oneL {i : Nat} {o : Oper} {fuel : Nat} {listed : Array Bool} {a : Act} {w : World} (hr : Region.ready md ops listed = [i]) (ho : ops.toList[i]? = some o)
    (h : ∀ K' : Act → World → Prop, Shut (∀ a w, ((i < N → S w) ∧ wpAnyG P md ops Q S N fuel (listed.setIfInBounds i true) a w) → K' a w) → if Region.wanted o (yielded ops a.tmps) = true then Oper.wp P o a w K' Q else K' (a.put o.dst undef) w) :
    wpAnyG P md ops Q S N (fuel + 1) listed a w := wpAnyG_one hr (by simpa using ho) h
end
/-- two tasks lie there, and a program -/
structure SameS (w1 : World) (gA gB lo : Nat) (Aa Ab At : Option Addr) (n m ca cb : Nat) (T : List Ins) (na : Nat) (ra : Nat → Int) (nb : Nat) (rb : Nat → Int) (wr : World) : Prop where
  a : Bx wr gA (tskC Aa n ca na ra)
  b : Bx wr gB (tskC Ab m cb nb rb)
  t : RdB wr lo gB 5 At m (T.flatMap Ins.cu)
  ab : RdB wr lo gB 5 Ab m (T.flatMap Ins.cu)
  hh : gB ≤ wr.heap.size
  bel : Below gA w1 wr
section
variable {w1 wr w' : World} {gA gB lo : Nat} {Aa Ab At : Option Addr} {n m ca cb : Nat} {T : List Ins} {na nb : Nat} {ra rb : Nat → Int}
theorem SameS.to (h : SameS w1 gA gB lo Aa Ab At n m ca cb T na ra nb rb wr) (hb : Below wr.heap.size wr w') (hg : gA ≤ w1.heap.size) : SameS w1 gA gB lo Aa Ab At n m ca cb T na ra nb rb w' :=
  ⟨h.a.to hb, h.b.to hb, h.t.to h.hh hb, h.ab.to h.hh hb, Nat.le_trans h.hh hb.size, h.bel.trans (hb.mono (Nat.le_trans hg h.bel.size))⟩
end

/-- and their two calls lie there -/
structure SameC (w1 : World) (gA gB lo gC gD : Nat) (Aa Ab At : Option Addr) (n m ca cb : Nat) (T : List Ins) (na : Nat) (ra : Nat → Int) (nb : Nat) (rb : Nat → Int) (cs : Array Value) (wr : World) : Prop where
  s : SameS w1 gA gB lo Aa Ab At n m ca cb T na ra nb rb wr
  c : Bx wr gC cs
  d : Bx wr gD cs
theorem SameC.to {w1 wr w' : World} {gA gB lo gC gD : Nat} {Aa Ab At : Option Addr} {n m ca cb : Nat} {T : List Ins} {na nb : Nat} {ra rb : Nat → Int} {cs : Array Value} (h : SameC w1 gA gB lo gC gD Aa Ab At n m ca cb T na ra nb rb cs wr) (hb : Below wr.heap.size wr w') (hg : gA ≤ w1.heap.size) : SameC w1 gA gB lo gC gD Aa Ab At n m ca cb T na ra nb rb cs w' :=
  ⟨h.s.to hb hg, h.c.to hb, h.d.to hb⟩


section
variable {l : List Ins} {A : Option Addr} {n c : Nat} {w : World}

set_option maxRecDepth 100000 in
set_option maxHeartbeats 8000000 in
theorem same_any (A2 : Option Addr) (n2 c2 : Nat) (L : List Res) (hok : ∀ x ∈ l, x.ok) (hn : n ≤ 140737488355328) (hr : Rd w w.heap.size 5 A n (l.flatMap Ins.cu)) (hr2 : Rd w w.heap.size 3 A2 n2 (L.flatMap Res.cs)) (hL : ∀ x ∈ L, x.ok) :
    Calls Try.prog 8 #[.slice A n c, .slice A2 n2 c2] w fun e w' => e = .returned (.bool true) ∧ Below w.heap.size w w' := by
  by_cases hg : n ≤ 200 ∧ n2 ≤ 60
  · obtain ⟨hn1, hn2⟩ := hg
    have hd1 : decide (200 < n) = false := decide_eq_false (by omega)
    have hd1' : decide ((200 : Int) < n) = false := decide_eq_false (by omega)
    have hd2 : decide ((60 : Int) < n2) = false := decide_eq_false (by omega)
    cases hm : mayP l with
    | false =>
      have HB := hide (begins_no (c := c) hok hm hn hr)
      clear hm hr hr2 hL hok
      go_enter Try.func8, Try.ntmps8
      go_wp2_with fail
      refine (unhide HB).mono ?_
      rintro e w1 ⟨⟨A', nn, c', rfl⟩, hb1⟩
      simp only [tskV, tskC]
      go_wp2_with fail
      refine (wakes24_any _).mono ?_
      rintro e w2 ⟨rfl, hb2⟩
      go_wp2
      go_ret
      exact ⟨rfl, bt (hb1.alloc hb1.size _) hb2⟩
    | true =>
      have hp : Prog l := ⟨hok, hm⟩
      have hln := hr.lenU
      have hle := hp.le
      have hn64 : n ≤ 64 := by omega
      obtain ⟨rb, hrb⟩ := reached_ex l
      have hpT := trim_prog hp hrb
      obtain ⟨rt, hrt⟩ := reached_ex (trimL l rb)
      have hta := trim_again hp hrb hrt
      have hTl : (trimL l rb).length = numB rb n := by have := trimK_length l rb l.length (Nat.le_refl _); rw [hln] at this; rw [← this]; show (trimK l rb l.length).length = _; rw [hln]
      have hml := numB_le rb n
      have HB := hide (begins_yesB (c := c) hp hr)
      have HTR := hide (fun W h => Trim_yes (w := W) (A := A) (n := n) (c := c) hp h hrb)
      have hTe : trimK l rb n = trimL l rb := by show _ = trimK l rb l.length; rw [hln]
      have HSW := hide (fun (nx : Nat) (h1 : nx ≤ n) (h2 : rb nx = true) => (⟨same_wB hp (by omega) h2, same_halt hp (by omega) h2, fun r => same_wP (r := r) hp (by omega) h2, fun r h3 => same_pN (r := r) hp (by omega) h2 h3, fun r x => same_pR (r := r) hp (by omega) h2 x⟩ : wB (trimL l rb) (numB rb nx) = wB l nx ∧ haltB (trimL l rb) (numB rb nx) = haltB l nx ∧ (∀ r, wP (trimL l rb) (numB rb nx) r = wP l nx r) ∧ (∀ r, haltB l nx = false → pN (trimL l rb) (numB rb nx) r = numB rb (pN l nx r)) ∧ (∀ r x, pR (trimL l rb) (numB rb nx) r x = pR l nx r x)))
      obtain ⟨T, hT⟩ : ∃ T, trimL l rb = T := ⟨_, rfl⟩
      rw [hT] at hpT hrt hTl hTe HSW hta
      obtain ⟨m, hmm⟩ : ∃ m, numB rb n = m := ⟨_, rfl⟩
      rw [hmm] at hTl hml
      have HTR2 := hide (fun W A c h => Trim_yes (w := W) (A := A) (n := m) (c := c) hpT h hrt)
      have hTT : trimK T rt m = T := by have : trimK T rt T.length = T := hta; rwa [hTl] at this
      have HB2 := hide (fun W A c h => begins_yesB (w := W) (A := A) (n := m) (c := c) hpT h)
      have HTE := Lib.hid hTe
      have HTT := Lib.hid hTT
      have HTL := Lib.hid hTl
      have HP := hide hp
      have HPT := hide hpT
      have HRB := hide hrb
      have HLN := Lib.hid hln
      have HMM := Lib.hid hmm
      have HR := hide hr
      have HR2 := hide hr2
      clear hm hr hr2 hok hp hrb hln hpT hrt hta hTl hTe hT hTT hmm
      go_enter Try.func8, Try.ntmps8
      go_wp2_with fail
      refine (unhide HB).mono ?_
      rintro e w1 ⟨Aa, ca, rfl, hra, hb1⟩
      have hrl := (unhide HR).to hb1
      have hrr := (unhide HR2).to hb1
      have hra1 := hra.rd (Nat.le_refl _)
      simp only [tskV, tskC]
      go_upto_region 4 with fail
      refine nameW ?_
      intro W1 hW1
      have hb2 : Below w1.heap.size w1 W1 := by rw [hW1]; exact (Below.refl _ _).alloc (Nat.le_refl _) _
      have hx1 : Bx W1 w1.heap.size (tskC Aa n ca 0 rg0) := by rw [hW1]; exact Bx.new _ _ _ _ rfl
      have hlo : w1.heap.size < W1.heap.size := hx1.lt
      have HRA := hide (fun (W : World) (hb : Below w1.heap.size w1 W) => (hra1.below hb).mono hb.size)
      have HRL := hide (fun (W : World) (hb : Below w1.heap.size w1 W) => (hrl.below hb).mono hb.size)
      have HRR := hide (fun (W : World) (hb : Below w1.heap.size w1 W) => (hrr.below hb).mono hb.size)
      clear hW1 HB HR HR2 hra hra1 hrl hrr
      go_wp2_with fail
      refine (unhide HTR _ (unhide HRL _ hb2)).mono ?_
      rintro e w2 ⟨At, ct, rfl, hown, hb3⟩
      rw [HTE.out] at hown ⊢
      rw [HTL.out] at hown ⊢
      have hrt2 := RdB.of_own hown
      have hx2 := hx1.to hb3
      have hb4 := bt hb2 hb3
      have hs2 := hb3.size
      clear hown hx1 hb2 hb3 HTR
      go_wp2_with fail
      refine (unhide HB2 _ _ _ (hrt2.rd (Nat.le_refl _))).mono ?_
      rintro e w3 ⟨Ab, cb, rfl, hrb3, hb5⟩
      simp only [tskV, tskC]
      have hrt3 := hrt2.to (Nat.le_refl _) hb5
      have hx3 := hx2.to hb5
      have hb6 := bt hb4 hb5
      have hs3 := hb5.size
      clear hrt2 hx2 hb4 hb5 HB2
      go_upto_region 8 with fail
      refine nameW ?_
      intro W3 hW3
      have hbz : Below w3.heap.size w3 W3 := by rw [hW3]; exact (Below.refl _ _).alloc (Nat.le_refl _) _
      have hy3 : Bx W3 w3.heap.size (tskC Ab m cb 0 rg0) := by rw [hW3]; exact Bx.new _ _ _ _ rfl
      have hI : SameS w1 w1.heap.size w3.heap.size W1.heap.size Aa Ab At n m ca cb T 0 rg0 0 rg0 W3 :=
        ⟨hx3.to hbz, hy3, (hrt3.to hs3 hbz).weak (Nat.le_refl _) hs3, (hrb3.to (Nat.le_refl _) hbz).weak hs2 (Nat.le_refl _), hbz.size, bt hb6 hbz⟩
      clear hW3 hbz hy3 hx3 hrt3 hrb3 hb6
      go_wp2_with fail
      refine (unhide HTR2 _ _ _ (hI.t.rd hI.hh)).mono ?_
      rintro e w4 ⟨Au, cu, rfl, hown, hb7⟩
      rw [HTT.out] at hown ⊢
      rw [HTL.out] at hown ⊢
      have hru := Rd.of_own hown
      have hI4 := hI.to hb7 (Nat.le_refl _)
      have HRU := hide (fun (W : World) (hb : Below w4.heap.size w4 W) => hru.below hb)
      have HRT := hide (fun (W : World) (hb : Below w4.heap.size w4 W) => (hI4.t.rd hI4.hh).below hb)
      have HI4 := hide hI4
      clear hown hI hb7 hru hI4 HTR2
      go_wp2
      go_loopw [13] (fun ii wr => ∃ k : Nat, k ≤ m ∧ ii = .int .i64 k ∧ Below w4.heap.size w4 wr) (fun ii _ => m - (intOf ii).toNat)
      case atStart => exact ⟨0, Nat.zero_le _, rfl, Below.refl _ _⟩
      case round =>
        obtain ⟨k, hk, rfl, hbq⟩ := hrel
        by_cases hlt : k < m
        · obtain ⟨bu, ou, xu, rfl, hbu, hxu, g0, g1, g2, g3, g4⟩ := (unhide HRU _ hbq).insU hlt
          obtain ⟨bt2, ot, xt, rfl, hbt, hxt, g0', g1', g2', g3', g4'⟩ := (unhide HRT _ hbq).insU hlt
          obtain rfl := Option.some.inj (hxu.symm.trans hxt)
          have HBQ := hide hbq
          clear hxu hxt hbq
          go_wp2
          go_quiet (fail)
          go_wp2
          go_roundw
          case rel => exact ⟨k + 1, by omega, by go_num, (unhide HBQ).trans ((below_drewN (Below.refl _ _) _ : Below wr.heap.size wr _).mono (unhide HBQ).size)⟩
          case measure => simp [intOf]; omega
        · obtain rfl : m = k := by omega
          obtain ⟨wb, rfl⟩ : ∃ x, x = wr := ⟨_, rfl⟩
          have HI := hide ((unhide HI4).to hbq (Nat.le_refl _))
          clear hbq HI4 HRU HRT
          go_wp2
          go_loopw [14] (fun ii wr => ∃ (k nx : Nat) (r : Nat → Int), k ≤ 300 ∧ ii = .int .i64 k ∧ nx ≤ n ∧ RE l (-1) 0 nx ∧ SameS w1 w1.heap.size w3.heap.size W1.heap.size Aa Ab At n m ca cb T nx r (numB rb nx) r wr) (fun ii _ => 300 - (intOf ii).toNat)
          case atStart => exact ⟨0, 0, rg0, by omega, rfl, Nat.zero_le _, .refl (by omega), unhide HI⟩
          case round =>
            clear HI
            obtain ⟨k, nx, r, hk, rfl, hnx, hre, hI⟩ := hrel
            by_cases hk3 : k < 300
            · have hkd : decide ((k : Int) < 300) = true := decide_eq_true (by omega)
              have hrbn := ((unhide HRB) nx).2 hre
              obtain ⟨sw1, sw2, sw3, sw4, sw5⟩ := (unhide HSW) nx hnx hrbn
              have hWA := wants_any (A := Aa) (n := n) (c := ca) (nx := nx) (r := r) (w := wr) HP.out (unhide HRA wr hI.bel)
              have hHA := fun (W : World) (h : Below w1.heap.size w1 W) => halts_any (A' := Aa) (n' := n) (c' := ca) (nx := nx) (r := r) (A := A) (n := n) (c := c) (w := W) (unhide HRL W h)
              obtain ⟨my, hmy⟩ : ∃ q, numB rb nx = q := ⟨_, rfl⟩
              rw [hmy] at hI sw1 sw2 sw3 sw4 sw5
              have HS4 := hide sw4
              have HS5 := hide sw5
              have hWB := fun W (h : SameS w1 w1.heap.size w3.heap.size W1.heap.size Aa Ab At n m ca cb T nx r my r W) => wants_any (A := Ab) (n := m) (c := cb) (nx := my) (r := r) (w := W) HPT.out (h.ab.rd h.hh)
              have hHB := fun W (h : SameS w1 w1.heap.size w3.heap.size W1.heap.size Aa Ab At n m ca cb T nx r my r W) => halts_any (A' := Ab) (n' := m) (c' := cb) (nx := my) (r := r) (A := At) (n := m) (c := ct) (w := W) (h.t.rd h.hh)
              rw [sw1, sw3] at hWB
              rw [sw2] at hHB
              obtain ⟨⟨p0, p1, p2, p3, p4, p5⟩, hP⟩ : ∃ q, wP l nx r = q := ⟨_, rfl⟩
              obtain ⟨B, hB⟩ : ∃ q, wB l nx = q := ⟨_, rfl⟩
              obtain ⟨hb, hhb⟩ : ∃ q, haltB l nx = q := ⟨_, rfl⟩
              rw [hhb] at hHA hHB
              rw [hP, hB] at hWA hWB
              simp only [tskV, tskC, callP, callV] at hWA hWB hHA hHB
              have HWA := hide hWA
              have HWB := hide hWB
              have HHA := hide hHA
              have HHB := hide hHB
              have HHQ := Lib.hid hhb
              have HMY := Lib.hid hmy
              have HSI := hide hre
              clear hWA hWB hHA hHB hP hB sw1 sw2 sw3 sw4 sw5 hhb hmy hre hrbn
              have a0 : (_ : Option Value) = some (.slice Aa n ca) := hI.a.cell 0
              have a1 : (_ : Option Value) = some (.int .i64 nx) := hI.a.cell 1
              have a2 : (_ : Option Value) = some (.int .u64 (r 0)) := hI.a.cell 2
              have a3 : (_ : Option Value) = some (.int .u64 (r 1)) := hI.a.cell 3
              have a4 : (_ : Option Value) = some (.int .u64 (r 2)) := hI.a.cell 4
              have a5 : (_ : Option Value) = some (.int .u64 (r 3)) := hI.a.cell 5
              have a6 : (_ : Option Value) = some (.int .u64 (r 4)) := hI.a.cell 6
              have a7 : (_ : Option Value) = some (.int .u64 (r 5)) := hI.a.cell 7
              have a8 : (_ : Option Value) = some (.int .u64 (r 6)) := hI.a.cell 8
              have a9 : (_ : Option Value) = some (.int .u64 (r 7)) := hI.a.cell 9
              go_wp2_with fail
              refine (unhide HWA).mono ?_
              rintro e w5 ⟨rfl, hbq⟩
              have hI5 := hI.to hbq (Nat.le_refl _)
              clear hI hbq HWA a0 a1 a2 a3 a4 a5 a6 a7 a8 a9
              go_upto_region 20 with fail
              refine nameW ?_
              intro W5 hW5
              have hbz : Below w5.heap.size w5 W5 := by rw [hW5]; exact (Below.refl _ _).alloc (Nat.le_refl _) _
              have hI6 := hI5.to hbz (Nat.le_refl _)
              have hc6 : Bx W5 w5.heap.size #[.int .u8 p0, .int .u32 p1, .int .u32 p2, .int .u32 p3, .int .u32 p4, .int .u64 p5] := by rw [hW5]; exact Bx.new _ _ _ _ rfl
              clear hW5 hbz hI5
              have a0 : (_ : Option Value) = some (.slice Ab m cb) := hI6.b.cell 0
              have a1 : (_ : Option Value) = some (.int .i64 my) := hI6.b.cell 1
              have a2 : (_ : Option Value) = some (.int .u64 (r 0)) := hI6.b.cell 2
              have a3 : (_ : Option Value) = some (.int .u64 (r 1)) := hI6.b.cell 3
              have a4 : (_ : Option Value) = some (.int .u64 (r 2)) := hI6.b.cell 4
              have a5 : (_ : Option Value) = some (.int .u64 (r 3)) := hI6.b.cell 5
              have a6 : (_ : Option Value) = some (.int .u64 (r 4)) := hI6.b.cell 6
              have a7 : (_ : Option Value) = some (.int .u64 (r 5)) := hI6.b.cell 7
              have a8 : (_ : Option Value) = some (.int .u64 (r 6)) := hI6.b.cell 8
              have a9 : (_ : Option Value) = some (.int .u64 (r 7)) := hI6.b.cell 9
              go_wp2_with fail
              refine (unhide HWB _ hI6).mono ?_
              rintro e w6 ⟨rfl, hbq⟩
              have hI7 := hI6.to hbq (Nat.le_refl _)
              have hc7 := hc6.to hbq
              clear hI6 hc6 hbq HWB a0 a1 a2 a3 a4 a5 a6 a7 a8 a9
              go_upto_region 21 with fail
              refine nameW ?_
              intro W7 hW7
              have hbz : Below w6.heap.size w6 W7 := by rw [hW7]; exact (Below.refl _ _).alloc (Nat.le_refl _) _
              have hd8 : Bx W7 w6.heap.size #[.int .u8 p0, .int .u32 p1, .int .u32 p2, .int .u32 p3, .int .u32 p4, .int .u64 p5] := by rw [hW7]; exact Bx.new _ _ _ _ rfl
              have hHeld := (⟨hI7.to hbz (Nat.le_refl _), hc7.to hbz, hd8⟩ : SameC w1 w1.heap.size w3.heap.size W1.heap.size w5.heap.size w6.heap.size Aa Ab At n m ca cb T nx r my r #[.int .u8 p0, .int .u32 p1, .int .u32 p2, .int .u32 p3, .int .u32 p4, .int .u64 p5] W7).to ((Below.refl _ _).drew) (Nat.le_refl _)
              clear hW7 hbz hI7 hc7 hd8
              have hE := fun w => eq8_same r w
              have hG := guard8
              refine wp_region_G 23 (fun W => SameC w1 w1.heap.size w3.heap.size W1.heap.size w5.heap.size w6.heap.size Aa Ab At n m ca cb T nx r my r #[.int .u8 p0, .int .u32 p1, .int .u32 p2, .int .u32 p3, .int .u32 p4, .int .u64 p5] W) (by kernel_rfl) ?_
              simp only [List.size_toArray, List.length_cons, List.length_nil, Nat.zero_add, Nat.reduceAdd]
              refine wpAnyG_takeL (i := 0) (v := .agg #[.int .u8 p0, .int .u32 p1, .int .u32 p2, .int .u32 p3, .int .u32 p4, .int .u64 p5]) rfl (by kernel_rfl) (fun _ _ _ h => h) (yieldsIf_loadBx (by rfl) _ rfl rfl (fun _ h => h.c) Try.underlying40 rfl (sizeCall _ _ _ _ _ _)) hHeld ?_
              simp only [Act.put, List.setIfInBounds_toArray, List.set_cons_succ, List.set_cons_zero]
              refine wpAnyG_takeL (i := 1) (v := .agg #[.int .u8 p0, .int .u32 p1, .int .u32 p2, .int .u32 p3, .int .u32 p4, .int .u64 p5]) rfl (by kernel_rfl) (fun _ _ _ h => h) (yieldsIf_loadBx (by rfl) _ rfl rfl (fun _ h => h.d) Try.underlying40 rfl (sizeCall _ _ _ _ _ _)) hHeld ?_
              simp only [Act.put, List.setIfInBounds_toArray, List.set_cons_succ, List.set_cons_zero]
              refine wpAnyG_takeL (i := 2) (v := ?_) rfl (by kernel_rfl) (fun _ _ _ h => h) (Or.inl ⟨by rfl, ?_⟩) hHeld ?_
              rotate_left
              · intro w' hSw
                skip
                go_simp
                try with_reducible rfl
              simp only [Act.put, List.setIfInBounds_toArray, List.set_cons_succ, List.set_cons_zero]
              refine wpAnyG_takeL (i := 3) (v := ?_) rfl (by kernel_rfl) (fun _ _ _ h => h) (Or.inl ⟨by rfl, ?_⟩) hHeld ?_
              rotate_left
              · intro w' hSw
                skip
                go_simp
                try with_reducible rfl
              simp only [Act.put, List.setIfInBounds_toArray, List.set_cons_succ, List.set_cons_zero]
              refine wpAnyG_takeL (i := 4) (v := ?_) rfl (by kernel_rfl) (fun _ _ _ h => h) (Or.inl ⟨by rfl, ?_⟩) hHeld ?_
              rotate_left
              · intro w' hSw
                skip
                go_simp
                try with_reducible rfl
              simp only [Act.put, List.setIfInBounds_toArray, List.set_cons_succ, List.set_cons_zero]
              refine wpAnyG_takeL (i := 5) (v := ?_) rfl (by kernel_rfl) (fun _ _ _ h => h) (Or.inl ⟨by rfl, ?_⟩) hHeld ?_
              rotate_left
              · intro w' hSw
                skip
                go_simp
                try with_reducible rfl
              simp only [Act.put, List.setIfInBounds_toArray, List.set_cons_succ, List.set_cons_zero]
              refine wpAnyG_takeL (i := 6) (v := ?_) rfl (by kernel_rfl) (fun _ _ _ h => h) (Or.inl ⟨by rfl, ?_⟩) hHeld ?_
              rotate_left
              · intro w' hSw
                skip
                go_simp
                try with_reducible rfl
              simp only [Act.put, List.setIfInBounds_toArray, List.set_cons_succ, List.set_cons_zero]
              refine wpAnyG_takeL (i := 7) (v := ?_) rfl (by kernel_rfl) (fun _ _ _ h => h) (Or.inl ⟨by rfl, ?_⟩) hHeld ?_
              rotate_left
              · intro w' hSw
                skip
                go_simp
                try with_reducible rfl
              simp only [Act.put, List.setIfInBounds_toArray, List.set_cons_succ, List.set_cons_zero]
              refine wpAnyG_takeL (i := 8) (v := ?_) rfl (by kernel_rfl) (fun _ _ _ h => h) (Or.inl ⟨by rfl, ?_⟩) hHeld ?_
              rotate_left
              · intro w' hSw
                skip
                go_simp
                try with_reducible rfl
              simp only [Act.put, List.setIfInBounds_toArray, List.set_cons_succ, List.set_cons_zero]
              refine wpAnyG_takeL (i := 9) (v := ?_) rfl (by kernel_rfl) (fun _ _ _ h => h) (Or.inl ⟨by rfl, ?_⟩) hHeld ?_
              rotate_left
              · intro w' hSw
                skip
                go_simp
                try with_reducible rfl
              simp only [Act.put, List.setIfInBounds_toArray, List.set_cons_succ, List.set_cons_zero]
              refine wpAnyG_takeL (i := 10) (v := ?_) rfl (by kernel_rfl) (fun _ _ _ h => h) (Or.inl ⟨by rfl, ?_⟩) hHeld ?_
              rotate_left
              · intro w' hSw
                have hSa := hSw.s.a
                have a0 : (_ : Option Value) = some (.slice Aa n ca) := hSa.cell 0
                have a1 : (_ : Option Value) = some (.int .i64 nx) := hSa.cell 1
                have a2 : (_ : Option Value) = some (.int .u64 (r 0)) := hSa.cell 2
                have a3 : (_ : Option Value) = some (.int .u64 (r 1)) := hSa.cell 3
                have a4 : (_ : Option Value) = some (.int .u64 (r 2)) := hSa.cell 4
                have a5 : (_ : Option Value) = some (.int .u64 (r 3)) := hSa.cell 5
                have a6 : (_ : Option Value) = some (.int .u64 (r 4)) := hSa.cell 6
                have a7 : (_ : Option Value) = some (.int .u64 (r 5)) := hSa.cell 7
                have a8 : (_ : Option Value) = some (.int .u64 (r 6)) := hSa.cell 8
                have a9 : (_ : Option Value) = some (.int .u64 (r 7)) := hSa.cell 9
                clear hSa hSw
                go_simp
                try with_reducible rfl
              simp only [Act.put, List.setIfInBounds_toArray, List.set_cons_succ, List.set_cons_zero]
              refine wpAnyG_takeL (i := 11) (v := ?_) rfl (by kernel_rfl) (fun _ _ _ h => h) (Or.inl ⟨by rfl, ?_⟩) hHeld ?_
              rotate_left
              · intro w' hSw
                skip
                go_simp
                try with_reducible rfl
              simp only [Act.put, List.setIfInBounds_toArray, List.set_cons_succ, List.set_cons_zero]
              refine wpAnyG_takeL (i := 12) (v := ?_) rfl (by kernel_rfl) (fun _ _ _ h => h) (Or.inl ⟨by rfl, ?_⟩) hHeld ?_
              rotate_left
              · intro w' hSw
                have hSa := hSw.s.b
                have a0 : (_ : Option Value) = some (.slice Ab m cb) := hSa.cell 0
                have a1 : (_ : Option Value) = some (.int .i64 my) := hSa.cell 1
                have a2 : (_ : Option Value) = some (.int .u64 (r 0)) := hSa.cell 2
                have a3 : (_ : Option Value) = some (.int .u64 (r 1)) := hSa.cell 3
                have a4 : (_ : Option Value) = some (.int .u64 (r 2)) := hSa.cell 4
                have a5 : (_ : Option Value) = some (.int .u64 (r 3)) := hSa.cell 5
                have a6 : (_ : Option Value) = some (.int .u64 (r 4)) := hSa.cell 6
                have a7 : (_ : Option Value) = some (.int .u64 (r 5)) := hSa.cell 7
                have a8 : (_ : Option Value) = some (.int .u64 (r 6)) := hSa.cell 8
                have a9 : (_ : Option Value) = some (.int .u64 (r 7)) := hSa.cell 9
                clear hSa hSw
                go_simp
                try with_reducible rfl
              simp only [Act.put, List.setIfInBounds_toArray, List.set_cons_succ, List.set_cons_zero]
              refine wpAnyG_takeL (i := 13) (v := ?_) rfl (by kernel_rfl) (fun _ _ _ h => h) (Or.inl ⟨by rfl, ?_⟩) hHeld ?_
              rotate_left
              · intro w' hSw
                skip
                go_simp
                try with_reducible rfl
              simp only [Act.put, List.setIfInBounds_toArray, List.set_cons_succ, List.set_cons_zero]
              refine wpAnyG_takeL (i := 14) (v := ?_) rfl (by kernel_rfl) (fun _ _ _ h => h) (Or.inl ⟨by rfl, ?_⟩) hHeld ?_
              rotate_left
              · intro w' hSw
                skip
                go_simp
                try with_reducible rfl
              simp only [Act.put, List.setIfInBounds_toArray, List.set_cons_succ, List.set_cons_zero]
              refine wpAnyG_takeL (i := 15) (v := ?_) rfl (by kernel_rfl) (fun _ _ _ h => h) (Or.inl ⟨by rfl, ?_⟩) hHeld ?_
              rotate_left
              · intro w' hSw
                skip
                go_simp
                try with_reducible rfl
              simp only [Act.put, List.setIfInBounds_toArray, List.set_cons_succ, List.set_cons_zero]
              refine wpAnyG_takeL (i := 16) (v := .agg (tskC Aa n ca nx r)) rfl (by kernel_rfl) (fun _ _ _ h => h) (yieldsIf_loadBx (by rfl) _ rfl rfl (fun _ h => h.s.a) Try.underlying28 rfl (sizeTsk _ _ _ _ _)) hHeld ?_
              simp only [Act.put, List.setIfInBounds_toArray, List.set_cons_succ, List.set_cons_zero]
              refine wpAnyG_takeL (i := 17) (v := ?_) rfl (by kernel_rfl) (fun _ _ _ h => h) (Or.inl ⟨by rfl, ?_⟩) hHeld ?_
              rotate_left
              · intro w' hSw
                skip
                go_simp
                try with_reducible rfl
              simp only [Act.put, List.setIfInBounds_toArray, List.set_cons_succ, List.set_cons_zero]
              refine wpAnyG_takeL (i := 19) (v := .agg (tskC Ab m cb my r)) rfl (by kernel_rfl) (fun _ _ _ h => h) (yieldsIf_loadBx (by rfl) _ rfl rfl (fun _ h => h.s.b) Try.underlying28 rfl (sizeTsk _ _ _ _ _)) hHeld ?_
              simp only [Act.put, List.setIfInBounds_toArray, List.set_cons_succ, List.set_cons_zero]
              refine wpAnyG_takeL (i := 20) (v := ?_) rfl (by kernel_rfl) (fun _ _ _ h => h) (Or.inl ⟨by rfl, ?_⟩) hHeld ?_
              rotate_left
              · intro w' hSw
                skip
                go_simp
                try with_reducible rfl
              simp only [Act.put, List.setIfInBounds_toArray, List.set_cons_succ, List.set_cons_zero]
              refine wpAnyG_oneL (i := 18) (by kernel_rfl) rfl (fun K hK => ?_)
              go_simp
              refine (unhide HHA _ hHeld.s.bel).mono ?_
              rintro e w8 ⟨rfl, hbq⟩
              have hHeld := hHeld.to hbq (Nat.le_refl _)
              refine hK.out _ _ ⟨fun _ => hHeld, ?_⟩
              clear hK K hbq
              refine wpAnyG_oneL (i := 21) (by kernel_rfl) rfl (fun K hK => ?_)
              go_simp
              refine (unhide HHB _ hHeld.s).mono ?_
              rintro e w9 ⟨rfl, hbq⟩
              have hHeld := hHeld.to hbq (Nat.le_refl _)
              refine hK.out _ _ ⟨fun _ => hHeld, ?_⟩
              clear hK K hbq
              refine wpAnyG_oneL (i := 22) (by kernel_rfl) rfl (fun K hK => ?_)
              go_simp
              refine hK.out _ _ ⟨fun _ => hHeld, ?_⟩
              clear hK K
              refine wpAnyG_oneL (i := 23) (by kernel_rfl) rfl (fun K hK => ?_)
              go_simp
              refine hK.out _ _ ⟨fun h => absurd h (by decide), ?_⟩
              clear hK K
              refine wpAnyG_done (by kernel_rfl) ?_ _
              obtain ⟨hI, -, -⟩ := hHeld
              clear hE hG
              have a0 : (_ : Option Value) = some (.slice Aa n ca) := hI.a.cell 0
              have a1 : (_ : Option Value) = some (.int .i64 nx) := hI.a.cell 1
              have a2 : (_ : Option Value) = some (.int .u64 (r 0)) := hI.a.cell 2
              have a3 : (_ : Option Value) = some (.int .u64 (r 1)) := hI.a.cell 3
              have a4 : (_ : Option Value) = some (.int .u64 (r 2)) := hI.a.cell 4
              have a5 : (_ : Option Value) = some (.int .u64 (r 3)) := hI.a.cell 5
              have a6 : (_ : Option Value) = some (.int .u64 (r 4)) := hI.a.cell 6
              have a7 : (_ : Option Value) = some (.int .u64 (r 5)) := hI.a.cell 7
              have a8 : (_ : Option Value) = some (.int .u64 (r 6)) := hI.a.cell 8
              have a9 : (_ : Option Value) = some (.int .u64 (r 7)) := hI.a.cell 9
              go_wp2_with fail
              refine (unhide HHA _ hI.bel).mono ?_
              rintro e wa ⟨rfl, hbq⟩
              have hIa := hI.to hbq (Nat.le_refl _)
              clear hI hbq HHA HHB a0 a1 a2 a3 a4 a5 a6 a7 a8 a9
              cases hb
              · have hnx2 := run_next HP.out r HHQ.out
                have hok := resAt_ok hL k
                obtain ⟨x, hxx⟩ : ∃ q, resAt L k = q := ⟨_, rfl⟩
                rw [hxx] at hok
                have hRS := fun W h => result_any (w := W) (A2 := A2) (n2 := n2) (c2 := c2) (L := L) h k (by omega)
                rw [hxx] at hRS
                have hSA := fun W h => steps_any (w := W) (A := Aa) (n := n) (c := ca) (nx := nx) (r := r) HP.out h x hok
                have hSB := fun W h => steps_any (w := W) (A := Ab) (n := m) (c := cb) (nx := my) (r := r) HPT.out h x hok
                rw [(unhide HS4) r HHQ.out, (unhide HS5) r x] at hSB
                have hnn := nextL_le HP.out hnx2
                rw [HLN.out] at hnn
                have hre2 : RE l (-1) 0 (pN l nx r) := .step HSI.out hnx2 (by omega)
                obtain ⟨ny, hny⟩ : ∃ q, pN l nx r = q := ⟨_, rfl⟩
                obtain ⟨ry, hry⟩ : ∃ q, pR l nx r x = q := ⟨_, rfl⟩
                rw [hny] at hSA hSB hnn hre2
                rw [hry] at hSA hSB
                obtain ⟨mz, hmz⟩ : ∃ q, numB rb ny = q := ⟨_, rfl⟩
                rw [hmz] at hSB
                obtain ⟨xe, xv, xh⟩ := x
                simp only [tskV, tskC, resV] at hRS hSA hSB
                have HRS := hide hRS
                have HSA := hide hSA
                have HSB := hide hSB
                have HRE2 := hide hre2
                have HMZ := Lib.hid hmz
                clear hRS hSA hSB hre2 hnx2 hny hry hmz hxx hok HS4 HS5 HHQ HSI
                have a0 : (_ : Option Value) = some (.slice Aa n ca) := hIa.a.cell 0
                have a1 : (_ : Option Value) = some (.int .i64 nx) := hIa.a.cell 1
                have a2 : (_ : Option Value) = some (.int .u64 (r 0)) := hIa.a.cell 2
                have a3 : (_ : Option Value) = some (.int .u64 (r 1)) := hIa.a.cell 3
                have a4 : (_ : Option Value) = some (.int .u64 (r 2)) := hIa.a.cell 4
                have a5 : (_ : Option Value) = some (.int .u64 (r 3)) := hIa.a.cell 5
                have a6 : (_ : Option Value) = some (.int .u64 (r 4)) := hIa.a.cell 6
                have a7 : (_ : Option Value) = some (.int .u64 (r 5)) := hIa.a.cell 7
                have a8 : (_ : Option Value) = some (.int .u64 (r 6)) := hIa.a.cell 8
                have a9 : (_ : Option Value) = some (.int .u64 (r 7)) := hIa.a.cell 9
                go_upto_region 24 with fail
                clear a0 a1 a2 a3 a4 a5 a6 a7 a8 a9
                have hHeld := hIa.to ((Below.refl _ _).drew) (Nat.le_refl _)
                clear hIa
                refine wp_region_G 4 (fun W => SameS w1 w1.heap.size w3.heap.size W1.heap.size Aa Ab At n m ca cb T nx r my r W) (by kernel_rfl) ?_
                simp only [List.size_toArray, List.length_cons, List.length_nil, Nat.zero_add, Nat.reduceAdd]
                refine wpAnyG_takeL (i := 0) (v := .agg (tskC Aa n ca nx r)) rfl (by kernel_rfl) (fun _ _ _ h => h) (yieldsIf_loadBx (by rfl) _ rfl rfl (fun _ h => h.a) Try.underlying28 rfl (sizeTsk _ _ _ _ _)) hHeld ?_
                simp only [Act.put, List.setIfInBounds_toArray, List.set_cons_succ, List.set_cons_zero]
                refine wpAnyG_takeL (i := 1) (v := ?_) rfl (by kernel_rfl) (fun _ _ _ h => h) (Or.inl ⟨by rfl, ?_⟩) hHeld ?_
                rotate_left
                · intro w' hSw
                  skip
                  go_simp
                  try with_reducible rfl
                simp only [Act.put, List.setIfInBounds_toArray, List.set_cons_succ, List.set_cons_zero]
                refine wpAnyG_takeL (i := 2) (v := ?_) rfl (by kernel_rfl) (fun _ _ _ h => h) (Or.inl ⟨by rfl, ?_⟩) hHeld ?_
                rotate_left
                · intro w' hSw
                  skip
                  go_simp
                  try with_reducible rfl
                simp only [Act.put, List.setIfInBounds_toArray, List.set_cons_succ, List.set_cons_zero]
                refine wpAnyG_oneL (i := 3) (by kernel_rfl) rfl (fun K hK => ?_)
                go_simp
                refine (unhide HRS _ (unhide HRR _ hHeld.bel)).mono ?_
                rintro e w11 ⟨rfl, hbq⟩
                have hHeld := hHeld.to hbq (Nat.le_refl _)
                refine hK.out _ _ ⟨fun _ => hHeld, ?_⟩
                clear hK K hbq
                refine wpAnyG_oneL (i := 4) (by kernel_rfl) rfl (fun K hK => ?_)
                go_simp
                refine (unhide HSA _ (unhide HRA _ hHeld.bel)).mono ?_
                rintro e w12 ⟨rfl, hbq⟩
                have hHeld := hHeld.to hbq (Nat.le_refl _)
                refine hK.out _ _ ⟨fun h => absurd h (by decide), ?_⟩
                clear hK K hbq HSA
                have hne : w1.heap.size ≠ w3.heap.size := by omega
                obtain ⟨ha7, hb7, ht7, hab7, hh7, hbr7⟩ := hHeld
                have a0 : (_ : Option Value) = some (.slice Aa n ca) := ha7.cell 0
                have af0 := ha7.frozen 0
                have a1 : (_ : Option Value) = some (.int .i64 nx) := ha7.cell 1
                have af1 := ha7.frozen 1
                have a2 : (_ : Option Value) = some (.int .u64 (r 0)) := ha7.cell 2
                have af2 := ha7.frozen 2
                have a3 : (_ : Option Value) = some (.int .u64 (r 1)) := ha7.cell 3
                have af3 := ha7.frozen 3
                have a4 : (_ : Option Value) = some (.int .u64 (r 2)) := ha7.cell 4
                have af4 := ha7.frozen 4
                have a5 : (_ : Option Value) = some (.int .u64 (r 3)) := ha7.cell 5
                have af5 := ha7.frozen 5
                have a6 : (_ : Option Value) = some (.int .u64 (r 4)) := ha7.cell 6
                have af6 := ha7.frozen 6
                have a7 : (_ : Option Value) = some (.int .u64 (r 5)) := ha7.cell 7
                have af7 := ha7.frozen 7
                have a8 : (_ : Option Value) = some (.int .u64 (r 6)) := ha7.cell 8
                have af8 := ha7.frozen 8
                have a9 : (_ : Option Value) = some (.int .u64 (r 7)) := ha7.cell 9
                have af9 := ha7.frozen 9
                refine wpAnyG_oneL (i := 5) (by kernel_rfl) rfl (fun K hK => ?_)
                go_simp
                refine hK.out _ _ ⟨fun h => absurd h (by decide), ?_⟩
                clear hK K
                refine wpAnyG_done (by kernel_rfl) ?_ _
                go_upto_region 25 with fail
                refine nameW ?_
                intro W8 hW8
                have haz := ha7.ten (.slice Aa n ca) (.int .i64 (ny:Int)) (.int .u64 (ry 0)) (.int .u64 (ry 1)) (.int .u64 (ry 2)) (.int .u64 (ry 3)) (.int .u64 (ry 4)) (.int .u64 (ry 5)) (.int .u64 (ry 6)) (.int .u64 (ry 7))
                have hbz := hb7.far10 hne (.slice Aa n ca) (.int .i64 (ny:Int)) (.int .u64 (ry 0)) (.int .u64 (ry 1)) (.int .u64 (ry 2)) (.int .u64 (ry 3)) (.int .u64 (ry 4)) (.int .u64 (ry 5)) (.int .u64 (ry 6)) (.int .u64 (ry 7))
                have htz := ht7.ten (g := w1.heap.size) (Or.inl hlo) (.slice Aa n ca) (.int .i64 (ny:Int)) (.int .u64 (ry 0)) (.int .u64 (ry 1)) (.int .u64 (ry 2)) (.int .u64 (ry 3)) (.int .u64 (ry 4)) (.int .u64 (ry 5)) (.int .u64 (ry 6)) (.int .u64 (ry 7))
                have habz := hab7.ten (g := w1.heap.size) (Or.inl hlo) (.slice Aa n ca) (.int .i64 (ny:Int)) (.int .u64 (ry 0)) (.int .u64 (ry 1)) (.int .u64 (ry 2)) (.int .u64 (ry 3)) (.int .u64 (ry 4)) (.int .u64 (ry 5)) (.int .u64 (ry 6)) (.int .u64 (ry 7))
                have hblz := below_ten (w0 := w1) (g := w1.heap.size) hbr7 (Nat.le_refl _) (.slice Aa n ca) (.int .i64 (ny:Int)) (.int .u64 (ry 0)) (.int .u64 (ry 1)) (.int .u64 (ry 2)) (.int .u64 (ry 3)) (.int .u64 (ry 4)) (.int .u64 (ry 5)) (.int .u64 (ry 6)) (.int .u64 (ry 7))
                have hhz : w3.heap.size ≤ W8.heap.size := by rw [hW8]; simpa using hh7
                rw [← hW8] at haz hbz htz habz hblz
                have hIb : SameS w1 w1.heap.size w3.heap.size W1.heap.size Aa Ab At n m ca cb T ny ry my r W8 := ⟨haz, hbz, htz, habz, hhz, hblz⟩
                clear hW8 haz hbz htz habz hblz hhz ha7 hb7 ht7 hab7 hh7 hbr7 a0 a1 a2 a3 a4 a5 a6 a7 a8 a9 af0 af1 af2 af3 af4 af5 af6 af7 af8 af9
                have hHeld := hIb.to ((Below.refl _ _).drew) (Nat.le_refl _)
                clear hIb
                refine wp_region_G 4 (fun W => SameS w1 w1.heap.size w3.heap.size W1.heap.size Aa Ab At n m ca cb T ny ry my r W) (by kernel_rfl) ?_
                simp only [List.size_toArray, List.length_cons, List.length_nil, Nat.zero_add, Nat.reduceAdd]
                refine wpAnyG_takeL (i := 0) (v := .agg (tskC Ab m cb my r)) rfl (by kernel_rfl) (fun _ _ _ h => h) (yieldsIf_loadBx (by rfl) _ rfl rfl (fun _ h => h.b) Try.underlying28 rfl (sizeTsk _ _ _ _ _)) hHeld ?_
                simp only [Act.put, List.setIfInBounds_toArray, List.set_cons_succ, List.set_cons_zero]
                refine wpAnyG_takeL (i := 1) (v := ?_) rfl (by kernel_rfl) (fun _ _ _ h => h) (Or.inl ⟨by rfl, ?_⟩) hHeld ?_
                rotate_left
                · intro w' hSw
                  skip
                  go_simp
                  try with_reducible rfl
                simp only [Act.put, List.setIfInBounds_toArray, List.set_cons_succ, List.set_cons_zero]
                refine wpAnyG_takeL (i := 2) (v := ?_) rfl (by kernel_rfl) (fun _ _ _ h => h) (Or.inl ⟨by rfl, ?_⟩) hHeld ?_
                rotate_left
                · intro w' hSw
                  skip
                  go_simp
                  try with_reducible rfl
                simp only [Act.put, List.setIfInBounds_toArray, List.set_cons_succ, List.set_cons_zero]
                refine wpAnyG_oneL (i := 3) (by kernel_rfl) rfl (fun K hK => ?_)
                go_simp
                refine (unhide HRS _ (unhide HRR _ hHeld.bel)).mono ?_
                rintro e w11 ⟨rfl, hbq⟩
                have hHeld := hHeld.to hbq (Nat.le_refl _)
                refine hK.out _ _ ⟨fun _ => hHeld, ?_⟩
                clear hK K hbq
                refine wpAnyG_oneL (i := 4) (by kernel_rfl) rfl (fun K hK => ?_)
                go_simp
                refine (unhide HSB _ (hHeld.ab.rd hHeld.hh)).mono ?_
                rintro e w12 ⟨rfl, hbq⟩
                have hHeld := hHeld.to hbq (Nat.le_refl _)
                refine hK.out _ _ ⟨fun h => absurd h (by decide), ?_⟩
                clear hK K hbq HSB
                obtain ⟨ha7, hb7, ht7, hab7, hh7, hbr7⟩ := hHeld
                have a0 : (_ : Option Value) = some (.slice Ab m cb) := hb7.cell 0
                have af0 := hb7.frozen 0
                have a1 : (_ : Option Value) = some (.int .i64 my) := hb7.cell 1
                have af1 := hb7.frozen 1
                have a2 : (_ : Option Value) = some (.int .u64 (r 0)) := hb7.cell 2
                have af2 := hb7.frozen 2
                have a3 : (_ : Option Value) = some (.int .u64 (r 1)) := hb7.cell 3
                have af3 := hb7.frozen 3
                have a4 : (_ : Option Value) = some (.int .u64 (r 2)) := hb7.cell 4
                have af4 := hb7.frozen 4
                have a5 : (_ : Option Value) = some (.int .u64 (r 3)) := hb7.cell 5
                have af5 := hb7.frozen 5
                have a6 : (_ : Option Value) = some (.int .u64 (r 4)) := hb7.cell 6
                have af6 := hb7.frozen 6
                have a7 : (_ : Option Value) = some (.int .u64 (r 5)) := hb7.cell 7
                have af7 := hb7.frozen 7
                have a8 : (_ : Option Value) = some (.int .u64 (r 6)) := hb7.cell 8
                have af8 := hb7.frozen 8
                have a9 : (_ : Option Value) = some (.int .u64 (r 7)) := hb7.cell 9
                have af9 := hb7.frozen 9
                refine wpAnyG_oneL (i := 5) (by kernel_rfl) rfl (fun K hK => ?_)
                go_simp
                refine hK.out _ _ ⟨fun h => absurd h (by decide), ?_⟩
                clear hK K
                refine wpAnyG_done (by kernel_rfl) ?_ _
                go_upto_region 18 with fail
                refine nameW ?_
                intro W9 hW9
                have hbz := hb7.ten (.slice Ab m cb) (.int .i64 (mz:Int)) (.int .u64 (ry 0)) (.int .u64 (ry 1)) (.int .u64 (ry 2)) (.int .u64 (ry 3)) (.int .u64 (ry 4)) (.int .u64 (ry 5)) (.int .u64 (ry 6)) (.int .u64 (ry 7))
                have haz := ha7.far10 hne.symm (.slice Ab m cb) (.int .i64 (mz:Int)) (.int .u64 (ry 0)) (.int .u64 (ry 1)) (.int .u64 (ry 2)) (.int .u64 (ry 3)) (.int .u64 (ry 4)) (.int .u64 (ry 5)) (.int .u64 (ry 6)) (.int .u64 (ry 7))
                have htz := ht7.ten (g := w3.heap.size) (Or.inr (Nat.le_refl _)) (.slice Ab m cb) (.int .i64 (mz:Int)) (.int .u64 (ry 0)) (.int .u64 (ry 1)) (.int .u64 (ry 2)) (.int .u64 (ry 3)) (.int .u64 (ry 4)) (.int .u64 (ry 5)) (.int .u64 (ry 6)) (.int .u64 (ry 7))
                have habz := hab7.ten (g := w3.heap.size) (Or.inr (Nat.le_refl _)) (.slice Ab m cb) (.int .i64 (mz:Int)) (.int .u64 (ry 0)) (.int .u64 (ry 1)) (.int .u64 (ry 2)) (.int .u64 (ry 3)) (.int .u64 (ry 4)) (.int .u64 (ry 5)) (.int .u64 (ry 6)) (.int .u64 (ry 7))
                have hblz := below_ten (w0 := w1) (g := w3.heap.size) hbr7 (by omega) (.slice Ab m cb) (.int .i64 (mz:Int)) (.int .u64 (ry 0)) (.int .u64 (ry 1)) (.int .u64 (ry 2)) (.int .u64 (ry 3)) (.int .u64 (ry 4)) (.int .u64 (ry 5)) (.int .u64 (ry 6)) (.int .u64 (ry 7))
                have hhz : w3.heap.size ≤ W9.heap.size := by rw [hW9]; simpa using hh7
                rw [← hW9] at haz hbz htz habz hblz
                have HIc := hide (⟨haz, hbz, htz, habz, hhz, hblz⟩ : SameS w1 w1.heap.size w3.heap.size W1.heap.size Aa Ab At n m ca cb T ny ry mz ry W9)
                clear hW9 haz hbz htz habz hblz hhz ha7 hb7 ht7 hab7 hh7 hbr7 a0 a1 a2 a3 a4 a5 a6 a7 a8 a9 af0 af1 af2 af3 af4 af5 af6 af7 af8 af9
                go_wp2
                go_roundw
                case rel => exact ⟨k + 1, ny, ry, by omega, by go_num, by omega, HRE2.out, by rw [HMZ.out]; exact HIc.out⟩
                case measure => simp [intOf]; omega
              · go_wp2_with fail
                refine (wakes24_any _).mono ?_
                rintro e w9 ⟨rfl, hb9⟩
                go_wp2
                go_ret
                exact ⟨rfl, bt (bt hb1 hIa.bel) hb9⟩
            · go_wp2_with fail
              refine (wakes24_any _).mono ?_
              rintro e w9 ⟨rfl, hb9⟩
              go_wp2
              go_ret
              exact ⟨rfl, bt (bt hb1 hI.bel) hb9⟩
  · go_enter Try.func8, Try.ntmps8
    go_wp2_with fail
    all_goals
      refine (wakes24_any w).mono ?_
      rintro e w1 ⟨rfl, hb1⟩
      go_wp2
      go_ret
      exact ⟨rfl, hb1⟩
end
end Go.Proofs.Ytmiagijgecgfoaa
