/-
  The walk of flow's graph.from: the search.
-/
import Derived.Test.YtmiagijgecgfoaaFDfs
namespace Go.Proofs.Ytmiagijgecgfoaa
open Go.RowKit

theorem grown_refl (w : World) (r : Option Nat) : w.grownBy w r := ⟨rfl, rfl, rfl, Nat.le_refl _, fun _ _ _ => rfl⟩
theorem grown_trans {w w1 w2 : World} {r : Option Nat} (h : w.grownBy w1 r) (h2 : w1.grownBy w2 r) : w.grownBy w2 r :=
  ⟨h2.os.trans h.os, h2.tape.trans h.tape, h2.output.trans h.output, Nat.le_trans h.size h2.size, fun k hk hr => (h2.block k (Nat.lt_of_lt_of_le hk h.size) hr).trans (h.block k hk hr)⟩
theorem Below.grownBy {w w1 : World} {r : Option Nat} (h : Below w.heap.size w w1) : w.grownBy w1 r := ⟨h.os, h.tape, h.output, h.size, fun k hk _ => h.block k hk⟩
theorem setCell_grown (w : World) (g o : Nat) (v : Value) : w.grownBy (w.setCell ⟨g, o, none⟩ v) (some g) := by
  have hb := (Below.refl g w).setCell (p := ⟨g, o, none⟩) (Nat.le_refl _) v
  refine ⟨hb.os, hb.tape, hb.output, hb.size, fun k hk hr => ?_⟩
  exact Below.heap_setCell w ⟨g, o, none⟩ v k (fun e => hr (by rw [e]))
theorem RdB.grown {w w' : World} {lo hi size n gm : Nat} {A : Option Addr} {xs : List Value} (h : RdB w lo hi size A n xs) (hh : hi ≤ w.heap.size) (hg : w.grownBy w' (some gm)) (hm : gm < lo) : RdB w' lo hi size A n xs :=
  ⟨h.1, fun hn => by
    obtain ⟨b, o, e, h1, h2, hc⟩ := h.2 hn
    refine ⟨b, o, e, h1, h2, fun j u hu => ?_⟩
    have hk := hg.block b (by omega) (by simp; omega)
    have := hc j u hu
    unfold World.cell? at this ⊢
    simp only at this ⊢
    rw [hk]
    exact this⟩

/-- what lies there while one searches -/
structure FL (w0 : World) (gg go gm gw : Nat) (A : Option Addr) (n c : Nat) (out : Int) (m : Nat → Bool) (w : World) : Prop where
  g : Bx w gg #[.slice A n c]
  o : Bx w go #[.int .i64 out]
  mt : Bx w gm (mC m)
  wk : Bx w gw #[.func (.func 70) #[] #[.pointer (some ⟨go, 0, none⟩), .pointer (some ⟨gm, 0, none⟩), .pointer (some ⟨gg, 0, none⟩), .pointer (some ⟨gw, 0, none⟩)]]
  b : Below w0.heap.size w0 w
theorem FL.to {w0 w w' : World} {gg go gm gw : Nat} {A : Option Addr} {n c : Nat} {out : Int} {m : Nat → Bool} (h : FL w0 gg go gm gw A n c out m w) (hb : Below w.heap.size w w') : FL w0 gg go gm gw A n c out m w' :=
  ⟨h.g.to hb, h.o.to hb, h.mt.to hb, h.wk.to hb, h.b.trans (hb.mono h.b.size)⟩
theorem FL.met {w0 w : World} {gg go gm gw : Nat} {A : Option Addr} {n c : Nat} {out : Int} {m : Nat → Bool} (h : FL w0 gg go gm gw A n c out m w) (h1 : gm ≠ gg) (h2 : gm ≠ go) (h3 : gm ≠ gw) (hm : w0.heap.size ≤ gm) (a : Nat) :
    FL w0 gg go gm gw A n c out (updB m a) (w.setCell ⟨gm, a, none⟩ (.bool true)) :=
  ⟨h.g.far (p := ⟨gm, a, none⟩) h1 _, h.o.far (p := ⟨gm, a, none⟩) h2 _, by have := h.mt.set_ a (.bool true); rwa [mC_set] at this, h.wk.far (p := ⟨gm, a, none⟩) h3 _, h.b.setCell (p := ⟨gm, a, none⟩) hm _⟩

section
variable {l : List Ins} {A : Option Addr} {n c : Nat} {w0 : World} {gg go gm gw : Nat} {out : Int}

def WalkOut (l : List Ins) (w0 : World) (gg go gm gw : Nat) (A : Option Addr) (n c : Nat) (out : Int) (a : Nat) (m : Nat → Bool) (w : World) (e : Ending) (w' : World) : Prop :=
  (∃ v, e = .returned v) ∧ ∃ m', DfsL l out [a] m m' ∧ FL w0 gg go gm gw A n c out m' w' ∧ w.grownBy w' (some gm)

set_option maxRecDepth 100000 in
set_option maxHeartbeats 4000000 in
theorem walk_stay {m : Nat → Bool} {a : Nat} {w : World} (ha : a ≤ 64) (hF : FL w0 gg go gm gw A n c out m w) (h : (a : Int) = out ∨ m a = true) :
    Calls Try.prog 70 #[.int .i64 a, .pointer (some ⟨go, 0, none⟩), .pointer (some ⟨gm, 0, none⟩), .pointer (some ⟨gg, 0, none⟩), .pointer (some ⟨gw, 0, none⟩)] w (WalkOut l w0 gg go gm gw A n c out a m w) := by
  have hfin := DfsL.stay (l := l) h
  have o0 := hF.o.cell 0
  have m0 := (hF.mt.cell a).trans (mC_get m (by omega))
  by_cases ho : (a : Int) = out
  · subst ho
    have HF := hide hF
    have HD := hide hfin
    clear h hF hfin
    go_enter Try.func70, Try.ntmps70
    go_wp2
    refine bodyPost_ret (results_none rfl _ _ _) rfl ?_
    exact ⟨⟨_, rfl⟩, m, HD.out, HF.out, grown_refl _ _⟩
  · have hm : m a = true := by rcases h with h | h; exact absurd h ho; exact h
    rw [hm] at m0
    have d1 : ((a : Int) == out) = false := by simpa using ho
    have d2 : decide ((a : Int) = out) = false := decide_eq_false ho
    have ja : (a : Int) < 65 := by omega
    have HF := hide hF
    have HD := hide hfin
    clear h hF hfin hm
    go_enter Try.func70, Try.ntmps70
    go_wp2
    refine bodyPost_ret (results_none rfl _ _ _) rfl ?_
    exact ⟨⟨_, rfl⟩, m, HD.out, HF.out, grown_refl _ _⟩

set_option maxRecDepth 100000 in
set_option maxHeartbeats 4000000 in
theorem walk_any (hp : Prog l) (hln : l.length = n) (hr : Rd w0 w0.heap.size 5 A n (l.flatMap Ins.cu)) (h1 : gm ≠ gg) (h2 : gm ≠ go) (h3 : gm ≠ gw) (hm0 : w0.heap.size ≤ gm) : ∀ (fuel : Nat) (m : Nat → Bool) (a : Nat) (w : World),
    cntF m ≤ fuel → a ≤ n → FL w0 gg go gm gw A n c out m w →
    Calls Try.prog 70 #[.int .i64 a, .pointer (some ⟨go, 0, none⟩), .pointer (some ⟨gm, 0, none⟩), .pointer (some ⟨gg, 0, none⟩), .pointer (some ⟨gw, 0, none⟩)] w (WalkOut l w0 gg go gm gw A n c out a m w) := by
  intro fuel
  induction fuel with
  | zero =>
    intro m a w hc ha hF
    have hle := hp.le
    cases hm : m a with
    | true => exact walk_stay (by omega) hF (.inr hm)
    | false => have := cntF_upd (a := a) (by omega) hm; omega
  | succ fuel ih =>
    intro m a w hc ha hF
    have hle := hp.le
    by_cases hst : (a : Int) = out ∨ m a = true
    · exact walk_stay (by omega) hF hst
    · have ho : ¬ (a : Int) = out := fun h => hst (.inl h)
      have hm : m a = false := by cases h : m a; rfl; exact absurd (.inr h) hst
      have hcu := cntF_upd (a := a) (by omega) hm
      have o0 := hF.o.cell 0
      have m0 := (hF.mt.cell a).trans (mC_get m (by omega))
      rw [hm] at m0
      have f0 := hF.mt.frozen a
      have d1 : ((a : Int) == out) = false := by simpa using ho
      have d2 : decide ((a : Int) = out) = false := decide_eq_false ho
      have ja : (a : Int) < 65 := by omega
      have hF1 := hF.met h1 h2 h3 hm0 a
      have hgr1 := setCell_grown w gm a (.bool true)
      have hN := fun W h => next_any (l := l) (A := A) (n := n) (c := c) (w := W) hp h a
      have hgl := hF.mt.lt
      have HF1 := hide hF1
      have HG1 := hide hgr1
      have HN := hide hN
      have HO := hide ho
      have HIH := hide ih
      have HHP := hide hp
      have HLN := Lib.hid hln
      clear hF hF1 hgr1 hN hst ho hm ih hp hln
      go_enter Try.func70, Try.ntmps70
      go_upto_region 2 with fail
      refine nameW ?_
      intro W1 hW1
      have hF1 := unhide HF1
      have hg1 := unhide HG1
      rw [← hW1] at hF1 hg1
      have g0 := hF1.g.cell 0
      have hgm1 := hF1.mt.lt
      have HF := hide hF1
      clear hW1 HF1 HG1 o0 m0 f0
      go_wp2_with fail
      refine (unhide HN _ ((hr.below (unhide HF).b).mono (unhide HF).b.size)).mono ?_
      rintro e w2 ⟨A', cap, rfl, hrd, hb⟩
      have hF2 := (unhide HF).to hb
      have hg2 := grown_trans hg1 (Below.grownBy (r := some gm) hb)
      have hnl : ∀ j ∈ nextL l a, j ≤ n := fun j hj => by have := nextL_le HHP.out hj; rw [HLN.out] at this; exact this
      have hnlen : (nextL l a).length ≤ 2 := by
        unfold nextL
        split
        · simp
        · split
          · simp
          · split
            · simp
            · split
              · split
                · simp
                · split <;> simp
              · simp
      obtain ⟨N, hNN⟩ : ∃ N, nextL l a = N := ⟨_, rfl⟩
      have hgo := fun m2 (h : DfsL l out (nextL l a) (updB m a) m2) => DfsL.go (HO.out) h
      rw [hNN] at hrd hnl hnlen hgo ⊢
      have HGO := hide hgo
      have HNL := hide hnl
      have HI := hide (⟨DfsL.nil l out (updB m a), hF2, hg2⟩ : DfsL l out [] (updB m a) (updB m a) ∧ FL w0 gg go gm gw A n c out (updB m a) w2 ∧ w.grownBy w2 (some gm))
      have hlo : gm < W1.heap.size := hgm1
      clear hF2 hg2 hg1 hnl hgo g0 HF HN hNN
      obtain ⟨lN, hlN⟩ : ∃ q, N.length = q := ⟨_, rfl⟩
      rw [hlN] at hrd ⊢
      rw [hlN] at hnlen
      have HLN2 := Lib.hid hlN
      have hrd2 := hrd
      have HRD := hide hrd2
      clear hlN hrd hrd2
      go_wp2
      go_loopw [22] (fun i wr => ∃ (j : Nat) (m2 : Nat → Bool), j ≤ lN ∧ i = .int .i64 j ∧ (DfsL l out (N.take j) (updB m a) m2 ∧ FL w0 gg go gm gw A n c out m2 wr ∧ w.grownBy wr (some gm)) ∧ w2.grownBy wr (some gm)) (fun i _ => lN - (intOf i).toNat)
      case atStart => exact ⟨0, updB m a, Nat.zero_le _, rfl, unhide HI, grown_refl _ _⟩
      case round =>
        clear HI
        obtain ⟨j, m2, hj, rfl, ⟨hD, hF2, hgw⟩, hg2⟩ := hrel
        by_cases hlt : j < lN
        · obtain ⟨b2, o2, rfl, hb2a, hb2b, hcs⟩ := ((unhide HRD).grown (Nat.le_refl _) hg2 hlo).2 (by omega)
          have hjN : j < N.length := by rw [HLN2.out]; exact hlt
          obtain ⟨x, hx⟩ : ∃ x, N[j]? = some x := ⟨_, List.getElem?_eq_getElem hjN⟩
          have q0 := hcs j (intV x) (by rw [List.getElem?_map, hx]; rfl)
          have hxn := (unhide HNL) x (mem_of_get hx)
          have hts := take_snoc hx
          have hcm := cntF_mono hD.mono
          have hw0 := hF2.wk.cell 0
          have HDD := hide hD
          have HF2 := hide hF2
          have HGW := hide hgw
          have HG2 := hide hg2
          have HTS := Lib.hid hts
          simp only [intV] at q0
          clear hD hF2 hgw hg2 hcs hx hts hjN
          go_wp2_with fail
          refine (HIH.out m2 x wr (by omega) hxn (unhide HF2)).mono ?_
          rintro e w3 ⟨⟨v3, rfl⟩, m3, hD3, hF3, hg3⟩
          have hDD := (unhide HDD).snoc hD3
          rw [← HTS.out] at hDD
          have HD4 := hide hDD
          have HF4 := hide hF3
          have HG4 := hide (grown_trans (unhide HGW) hg3)
          have HG5 := hide (grown_trans (unhide HG2) hg3)
          clear hDD hD3 hF3 hg3 q0 hw0
          go_wp2
          go_roundw
          case rel => exact ⟨j + 1, m3, by omega, by go_num, ⟨unhide HD4, unhide HF4, unhide HG4⟩, unhide HG5⟩
          case measure => simp [intOf]; omega
        · have e1 : N.take j = N := List.take_of_length_le (by rw [HLN2.out]; omega)
          rw [e1] at hD
          have HDD := hide (unhide HGO _ hD)
          have HF2 := hide hF2
          have HGW := hide hgw
          clear hD hF2 hgw hg2 e1
          go_wp2
          go_end0
          exact ⟨⟨_, rfl⟩, m2, HDD.out, HF2.out, HGW.out⟩
end
end Go.Proofs.Ytmiagijgecgfoaa
