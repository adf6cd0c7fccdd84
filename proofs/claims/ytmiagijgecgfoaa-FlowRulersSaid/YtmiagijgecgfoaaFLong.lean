/-
  The walk of flow.Longest.
-/
import Derived.Test.YtmiagijgecgfoaaFLongP
import Derived.Lib.MinMax
namespace Go.Proofs.Ytmiagijgecgfoaa
open Go.RowKit

/-- what lies there while one looks for the longest way -/
structure FW (w0 : World) (gg gk gw : Nat) (A : Option Addr) (n c : Nat) (f : Nat → Nat) (w : World) : Prop where
  g : Bx w gg #[.slice A n c]
  k : Bx w gk (nC f)
  wy : Bx w gw #[.func (.func 58) #[] #[.pointer (some ⟨gg, 0, none⟩), .pointer (some ⟨gk, 0, none⟩), .pointer (some ⟨gw, 0, none⟩)]]
  b : Below w0.heap.size w0 w
theorem FW.to {w0 w w' : World} {gg gk gw : Nat} {A : Option Addr} {n c : Nat} {f : Nat → Nat} (h : FW w0 gg gk gw A n c f w) (hb : Below w.heap.size w w') : FW w0 gg gk gw A n c f w' :=
  ⟨h.g.to hb, h.k.to hb, h.wy.to hb, h.b.trans (hb.mono h.b.size)⟩
theorem FW.put {w0 w : World} {gg gk gw : Nat} {A : Option Addr} {n c : Nat} {f : Nat → Nat} (h : FW w0 gg gk gw A n c f w) (h1 : gk ≠ gg) (h3 : gk ≠ gw) (hm : w0.heap.size ≤ gk) (a v : Nat) :
    FW w0 gg gk gw A n c (updN f a v) (w.setCell ⟨gk, a, none⟩ (.int .i64 v)) :=
  ⟨h.g.far (p := ⟨gk, a, none⟩) h1 _, by have := h.k.set_ a (.int .i64 v); rwa [nC_set] at this, h.wy.far (p := ⟨gk, a, none⟩) h3 _, h.b.setCell (p := ⟨gk, a, none⟩) hm _⟩

section
variable {l : List Ins} {A : Option Addr} {n c : Nat} {w0 : World} {gg gk gw : Nat}

def WayOut (l : List Ins) (w0 : World) (gg gk gw : Nat) (A : Option Addr) (n c : Nat) (a : Nat) (w : World) (e : Ending) (w' : World) : Prop :=
  ∃ (k : Nat) (f' : Nat → Nat), e = .returned (.int .i64 k) ∧ Long l a k ∧ KN l f' ∧ FW w0 gg gk gw A n c f' w' ∧ w.grownBy w' (some gk)

set_option maxRecDepth 100000 in
set_option maxHeartbeats 4000000 in
theorem way_known {f : Nat → Nat} {a : Nat} {w : World} (hln : l.length = n) (ha : a ≤ 64) (hK : KN l f) (hF : FW w0 gg gk gw A n c f w) (h : n ≤ a ∨ 0 < f a) :
    Calls Try.prog 58 #[.int .i64 a, .pointer (some ⟨gg, 0, none⟩), .pointer (some ⟨gk, 0, none⟩), .pointer (some ⟨gw, 0, none⟩)] w (WayOut l w0 gg gk gw A n c a w) := by
  have g0 := hF.g.cell 0
  have k0 := (hF.k.cell a).trans (nC_get f (show a < 65 by omega))
  have ja : (a : Int) < 65 := by omega
  by_cases hn : n ≤ a
  · have hfa : f a = 0 := by
      rcases Nat.eq_zero_or_pos (f a) with h0 | h0
      · exact h0
      · have := (hK a h0).2.1; omega
    have hL : Long l a 0 := .out (by omega)
    rw [hfa] at k0
    have HF := hide hF
    have HK := hide hK
    have HL := hide hL
    clear h hF hK hL hfa hln
    go_enter Try.func58, Try.ntmps58
    go_wp2
    go_ret
    exact ⟨0, f, rfl, HL.out, HK.out, HF.out, grown_refl _ _⟩
  · have hf : 0 < f a := by omega
    have hL := (hK a hf).1
    have hfI : (0 : Int) < (f a : Int) := by omega
    have HF := hide hF
    have HK := hide hK
    have HL := hide hL
    clear h hF hK hL hln
    go_enter Try.func58, Try.ntmps58
    go_wp2
    go_ret
    exact ⟨f a, f, rfl, HL.out, HK.out, HF.out, grown_refl _ _⟩

set_option maxRecDepth 100000 in
set_option maxHeartbeats 4000000 in
theorem way_any (hp : Prog l) (hln : l.length = n) (hnl : NoLoop l) (hr : Rd w0 w0.heap.size 5 A n (l.flatMap Ins.cu)) (h1 : gk ≠ gg) (h3 : gk ≠ gw) (hm0 : w0.heap.size ≤ gk) : ∀ (N : Nat) (m : Nat → Bool) (f : Nat → Nat) (a : Nat) (w : World),
    cntF m = N → a ≤ n → Gone l m a → KN l f → FW w0 gg gk gw A n c f w →
    Calls Try.prog 58 #[.int .i64 a, .pointer (some ⟨gg, 0, none⟩), .pointer (some ⟨gk, 0, none⟩), .pointer (some ⟨gw, 0, none⟩)] w (WayOut l w0 gg gk gw A n c a w) := by
  intro N
  induction N using Nat.strongRecOn with
  | _ N ih =>
    intro m f a w hc ha hg hK hF
    have hle := hp.le
    by_cases hst : n ≤ a ∨ 0 < f a
    · exact way_known hln (by omega) hK hF hst
    · have hf0 : f a = 0 := by omega
      have han : a < n := by omega
      have hd1 : decide (n ≤ a) = false := decide_eq_false (by omega)
      have g0 := hF.g.cell 0
      have k0 := (hF.k.cell a).trans (nC_get f (show a < 65 by omega))
      rw [hf0] at k0
      have ja : (a : Int) < 65 := by omega
      have hN := fun W h => next_any (l := l) (A := A) (n := n) (c := c) (w := W) hp h a
      have HF := hide hF
      have HN := hide hN
      have HIH := hide ih
      have HHP := hide hp
      have HLN := Lib.hid hln
      have HG := hide hg
      have HNL := hide hnl
      have HK := hide hK
      have hgl := hF.k.lt
      clear hF hN hst ih hp hln hg hnl hK hf0
      go_enter Try.func58, Try.ntmps58
      go_wp2_with fail
      refine (unhide HN _ ((hr.below (unhide HF).b).mono (unhide HF).b.size)).mono ?_
      rintro e w2 ⟨A', cap, rfl, hrd, hb⟩
      have hF2 := (unhide HF).to hb
      have hg2 := Below.grownBy (r := some gk) hb
      have hsh := nextL_short l a
      have hjs : ∀ j ∈ nextL l a, j ≤ n ∧ Gone l (updB m j) j ∧ cntF (updB m j) < N := fun j hj => by
        have h1 := nextL_le HHP.out hj
        rw [HLN.out] at h1
        have h2 := HG.out.new HNL.out hj
        have h3 := cntF_upd (m := m) (a := j) (by have := HLN.out; omega) h2
        exact ⟨h1, HG.out.next hj, by omega⟩
      have hgo := fun (vs : List Nat) (h1 : vs.length = (nextL l a).length) (h2 : ∀ (i x y : Nat), (nextL l a)[i]? = some x → vs[i]? = some y → Long l x y) => Long.into (l := l) vs (by rw [HLN.out]; exact han) h1 h2
      obtain ⟨Ns, hNN⟩ : ∃ Ns, nextL l a = Ns := ⟨_, rfl⟩
      rw [hNN] at hrd hjs hsh hgo ⊢
      have HGO := hide hgo
      have HJS := hide hjs
      have HI := hide (⟨HK.out, hF2, hg2⟩ : KN l f ∧ FW w0 gg gk gw A n c f w2 ∧ w.grownBy w2 (some gk))
      clear hF2 hg2 hjs hgo g0 HF HN hNN k0 HK
      obtain ⟨lN, hlN⟩ : ∃ q, Ns.length = q := ⟨_, rfl⟩
      rw [hlN] at hrd hsh ⊢
      have HLN2 := Lib.hid hlN
      have HRD := hide hrd
      clear hlN hrd
      go_wp2
      go_loopw [6, 26] (fun bb i wr => ∃ (j : Nat) (vs : List Nat) (f2 : Nat → Nat), j ≤ lN ∧ i = .int .i64 j ∧ bb = .int .i64 (bestL vs) ∧ vs.length = j ∧ (∀ (i x y : Nat), Ns[i]? = some x → vs[i]? = some y → Long l x y) ∧ (KN l f2 ∧ FW w0 gg gk gw A n c f2 wr ∧ w.grownBy wr (some gk)) ∧ w2.grownBy wr (some gk)) (fun _ i _ => lN - (intOf i).toNat)
      case atStart => exact ⟨0, [], f, Nat.zero_le _, rfl, rfl, rfl, (fun i x y _ h => by simp at h), unhide HI, grown_refl _ _⟩
      case round =>
        clear HI
        obtain ⟨j, vs, f2, hj, rfl, rfl, hvl, hvs, ⟨hK2, hF2, hgw⟩, hg2⟩ := hrel
        have hv66 : ∀ v ∈ vs, v ≤ 66 := fun v hv => by
          obtain ⟨i, hi, rfl⟩ := List.mem_iff_getElem.1 hv
          have hiN : i < Ns.length := by rw [HLN2.out]; omega
          have h5 := hvs i _ _ (List.getElem?_eq_getElem hiN) (List.getElem?_eq_getElem hi)
          exact h5.le66 HHP.out HNL.out ((HJS.out _ (List.getElem_mem hiN)).2.1.from0)
        have hb66 := bestL_le hv66
        by_cases hlt : j < lN
        · obtain ⟨b2, o2, rfl, hb2a, hb2b, hcs⟩ := ((unhide HRD).grown (Nat.le_refl _) hg2 hgl).2 (by omega)
          have hjN : j < Ns.length := by rw [HLN2.out]; exact hlt
          obtain ⟨x, hx⟩ : ∃ x, Ns[j]? = some x := ⟨_, List.getElem?_eq_getElem hjN⟩
          have q0 := hcs j (intV x) (by rw [List.getElem?_map, hx]; rfl)
          obtain ⟨hxn, hxg, hxc⟩ := (unhide HJS) x (mem_of_get hx)
          have hw0 := hF2.wy.cell 0
          have HX := Lib.hid hx
          have HVS := hide hvs
          have HVL := Lib.hid hvl
          have HF2 := hide hF2
          have HGW := hide hgw
          have HG2 := hide hg2
          have HK2 := hide hK2
          have HXG := hide hxg
          simp only [intV] at q0
          clear hvs hF2 hgw hg2 hcs hx hjN hK2 hvl hxg hv66
          go_wp2_with fail
          refine (HIH.out _ hxc (updB m x) f2 x wr rfl hxn HXG.out (unhide HK2) (unhide HF2)).mono ?_
          rintro e w3 ⟨kx, f3, rfl, hL3, hK3, hF3, hg3⟩
          have hkx := hL3.le66 HHP.out HNL.out HXG.out.from0
          have hvs3 : ∀ (i x y : Nat), Ns[i]? = some x → (vs ++ [kx])[i]? = some y → Long l x y := by
            intro i x' y hx' hy
            by_cases hi : i < j
            · rw [List.getElem?_append_left (by rw [HVL.out]; exact hi)] at hy
              exact (unhide HVS) i x' y hx' hy
            · have hl : i < (vs ++ [kx]).length := (List.getElem?_eq_some_iff.1 hy).1
              rw [List.length_append, HVL.out, List.length_singleton] at hl
              obtain rfl : i = j := by omega
              rw [List.getElem?_append_right (by rw [HVL.out]; exact Nat.le_refl _), HVL.out, Nat.sub_self] at hy
              rw [HX.out] at hx'
              obtain rfl := Option.some.inj hx'
              obtain rfl := Option.some.inj hy
              exact hL3
          have hvl3 : (vs ++ [kx]).length = j + 1 := by rw [List.length_append, HVL.out, List.length_singleton]
          have hbs := bestL_snoc vs kx
          have HBS := Lib.hid hbs
          have HV3 := hide hvs3
          have HVL3 := Lib.hid hvl3
          have HK4 := hide hK3
          have HF4 := hide hF3
          have HG4 := hide (grown_trans (unhide HGW) hg3)
          have HG5 := hide (grown_trans (unhide HG2) hg3)
          clear hvs3 hvl3 hbs hK3 hF3 hg3 hL3 q0 hw0
          go_wp2
          go_roundw
          case rel => exact ⟨j + 1, vs ++ [kx], f3, by omega, by go_num, by rw [HBS.out]; congr 1; omega, HVL3.out, HV3.out, ⟨unhide HK4, unhide HF4, unhide HG4⟩, unhide HG5⟩
          case measure => simp [intOf]; omega
        · have hLg := (unhide HGO) vs (by rw [hvl, HLN2.out]; omega) hvs
          have k0 := (hF2.k.cell a).trans (nC_get f2 (show a < 65 by omega))
          have kf := hF2.k.frozen a
          have hF3 := hF2.put h1 h3 hm0 a (bestL vs + 1)
          have hg3 := grown_trans hgw (setCell_grown wr gk a (.int .i64 ((bestL vs + 1 : Nat))))
          have hK3 := hK2.upd hLg (by rw [HLN.out]; exact han) (hLg.le66 HHP.out HNL.out HG.out.from0)
          rw [show (((bestL vs + 1 : Nat)) : Int) = (bestL vs : Int) + 1 from by omega] at hF3 hg3
          have HF3 := hide hF3
          have HG3 := hide hg3
          have HK3 := hide hK3
          have HLG := hide hLg
          clear hF2 hgw hg2 hK2 hF3 hg3 hK3 hLg hvs hvl hv66
          go_upto_region 10 with fail
          refine nameW ?_
          intro W9 hW9
          rw [← hW9] at HF3 HG3
          clear hW9 k0 kf
          go_wp2
          go_ret
          exact ⟨bestL vs + 1, _, by congr 1, HLG.out, HK3.out, HF3.out, HG3.out⟩
end
end Go.Proofs.Ytmiagijgecgfoaa
