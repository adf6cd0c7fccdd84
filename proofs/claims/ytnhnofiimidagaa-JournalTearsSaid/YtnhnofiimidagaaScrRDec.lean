/-
  The walk of bailiwickref18.Decode.
-/
import Derived.Test.YtnhnofiimidagaaScrRMay
import Derived.Test.YtnhnofiimidagaaScrDec
import Derived.Deep.RegionLaw
import Derived.Laws.DeepStrings4
namespace Go.Proofs.Ytnhnofiimidagaa
open Go.RowKit

theorem S_nil : S [] = ByteArray.mk #[] := rfl
/-- how many programs the second byte tells -/
def cntR (l : List UInt8) : Nat := (numOf (l.drop 1)).toNat
def rscO (l : List UInt8) : Option (Int × List (List UInt8) × List UInt8) :=
  if l.length < 2 then none else
    match takeP (cntR l) (l.drop 2) with
    | none => none
    | some q => if mayS (numOf l) q.1 q.2 then some (numOf l, q.1, q.2) else none
def rscD (l : List UInt8) : Int × List (List UInt8) × List UInt8 := (rscO l).getD (0, [], [])
theorem rscO_yes {l : List UInt8} {ps : List (List UInt8)} {pk : List UInt8} (h0 : ¬ l.length < 2) (ht : takeP (cntR l) (l.drop 2) = some (ps, pk)) (hm : mayS (numOf l) ps pk = true) : rscO l = some (numOf l, ps, pk) := by
  unfold rscO
  rw [if_neg h0, ht]
  simp [hm]
theorem rscO_no2 {l : List UInt8} (ht : takeP (cntR l) (l.drop 2) = none) : rscO l = none := by unfold rscO; rw [ht]; split <;> rfl
theorem rscO_no3 {l : List UInt8} {ps : List (List UInt8)} {pk : List UInt8} (ht : takeP (cntR l) (l.drop 2) = some (ps, pk)) (hm : mayS (numOf l) ps pk = false) : rscO l = none := by
  unfold rscO
  rw [ht]
  split
  · rfl
  · simp [hm]

set_option maxRecDepth 100000 in
set_option maxHeartbeats 8000000 in
theorem rscDec_any (l : List UInt8) (w : World) (hl : l.length ≤ 1000000) :
    Calls Try.prog 28 #[.string (S l)] w
      fun e w' => ∃ A n c, e = .returned (.tuple #[rscrV (rscD l).1 A n c (rscD l).2.2, .bool (rscO l).isSome]) ∧
        Rd w' w'.heap.size 1 A n ((rscD l).2.1.map strV) ∧ Below w.heap.size w w' := by
  obtain ⟨i0, hi, hz0, hz1, hz2⟩ := info_parts Try.infoString
  simp only [rscD, rscrV]
  have hb0 : Below w.heap.size w (w.alloc (.cells #[.int .i64 0, .slice none 0 0, .string (ByteArray.mk #[])] 44)) := (Below.refl _ _).alloc (Nat.le_refl _) _
  have hr0 : Bx (w.alloc (.cells #[.int .i64 0, .slice none 0 0, .string (ByteArray.mk #[])] 44)) w.heap.size #[.int .i64 0, .slice none 0 0, .string (ByteArray.mk #[])] := Bx.new _ _ _ _ rfl
  match l, hl with
  | [], _ =>
    have hno : rscO [] = none := rfl
    have HNo := Lib.hid hno
    clear hno
    have hFX := hr0
    have hFB := hb0
    go_enter Try.func28, Try.ntmps28
    go_wp2
    have cF0 := hFX.cell 0
    have cF1 := hFX.cell 1
    have cF2 := hFX.cell 2
    refine bodyPost_ret (v := .tuple #[.agg #[.int .i64 0, .slice none 0 0, .string (S [])], .bool false]) (by simp [results, Try.results28, go_sem, S_nil, *]) rfl ?_
    rw [HNo.out]
    exact ⟨none, 0, 0, rfl, Rd.none_, hFB⟩
  | [b0], _ =>
    have hno : rscO [b0] = none := rfl
    have HNo := Lib.hid hno
    clear hno
    have hFX := hr0
    have hFB := hb0
    go_enter Try.func28, Try.ntmps28
    go_wp2
    have cF0 := hFX.cell 0
    have cF1 := hFX.cell 1
    have cF2 := hFX.cell 2
    refine bodyPost_ret (v := .tuple #[.agg #[.int .i64 0, .slice none 0 0, .string (S [])], .bool false]) (by simp [results, Try.results28, go_sem, S_nil, *]) rfl ?_
    rw [HNo.out]
    exact ⟨none, 0, 0, rfl, Rd.none_, hFB⟩
  | b0 :: b1 :: r0, hl =>
    obtain ⟨n, hn⟩ : ∃ n : Nat, b1.toNat = n := ⟨_, rfl⟩
    have hn255 : n ≤ 255 := by have := b1.toNat_lt; omega
    have HC : Hid (cntR (b0 :: b1 :: r0) = n) := by
      show cntR (b0 :: b1 :: r0) = n
      simp [cntR, numOf, hn]
    obtain ⟨pg, hpg⟩ : ∃ pg : Int, (b0.toNat : Int) = pg := ⟨_, rfl⟩
    have HPG : Hid (numOf (b0 :: b1 :: r0) = pg) := hpg
    have hpgb : 0 ≤ pg ∧ pg ≤ 255 := by have := b0.toNat_lt; omega
    obtain ⟨hpg0, hpg1⟩ := hpgb
    obtain ⟨l, hle⟩ : ∃ l, b0 :: b1 :: r0 = l := ⟨_, rfl⟩
    have h20 : r0 = l.drop 2 := by rw [← hle]; rfl
    have hlen : l.length = r0.length + 2 := by rw [← hle]; simp
    have hn2 : ¬ l.length < 2 := by omega
    have HN2 := Lib.hid hn2
    clear hn2
    have hg0 : ∀ h, l[0]'h = b0 := by subst hle; intro h; rfl
    have hg1 : ∀ h, l[1]'h = b1 := by subst hle; intro h; rfl
    rw [hle] at hl HC HPG ⊢
    have HLE : Hid (r0 = l.drop 2) := h20
    clear hle h20
    go_enter Try.func28, Try.ntmps28
    go_wp2
    have hbw : Below w.heap.size w ((w.alloc (.cells #[.int .i64 0, .slice none 0 0, .string (ByteArray.mk #[])] 44)).alloc (.cells #[.int .i64 pg, .slice none 0 0, .string (ByteArray.mk #[])] 44)) := hb0.alloc (by simp) _
    have hrw := hr0.alloc (.cells #[.int .i64 pg, .slice none 0 0, .string (ByteArray.mk #[])] 44)
    have hsxw : Bx ((w.alloc (.cells #[.int .i64 0, .slice none 0 0, .string (ByteArray.mk #[])] 44)).alloc (.cells #[.int .i64 pg, .slice none 0 0, .string (ByteArray.mk #[])] 44)) (w.heap.size + 1) #[.int .i64 pg, .slice none 0 0, .string (ByteArray.mk #[])] := Bx.new _ _ _ _ (by simp)
    clear hb0 hr0
    go_loopw [7, 6] (fun i at_ wr => ∃ (k a : Nat) (v : Value) (r : List UInt8) (ps : List (List UInt8)), k ≤ n ∧ i = .int .i64 k ∧ at_ = .int .i64 a ∧ a + r.length = l.length ∧ Hid (r = l.drop a) ∧ Bx wr w.heap.size #[.int .i64 0, .slice none 0 0, .string (ByteArray.mk #[])] ∧
        Bx wr (w.heap.size + 1) #[.int .i64 pg, v, .string (ByteArray.mk #[])] ∧ wr.ownsRow (w.heap.size + 2) 9 1 v k (ps.map strV) ∧ Below w.heap.size w wr ∧
        Hid (takeP n (l.drop 2) = (takeP (n - k) r).map fun q => (ps ++ q.1, q.2)) ∧ Hid (∀ x ∈ ps, x.length ≤ 1000000) ∧ w.heap.size + 2 ≤ wr.heap.size) (fun i _ _ => n - (intOf i).toNat)
    case atStart =>
      refine ⟨0, 2, .slice none 0 0, r0, [], Nat.zero_le _, rfl, rfl, by omega, HLE, hrw, hsxw, ⟨rfl, .inl ⟨rfl, rfl⟩⟩, hbw, ?_, noneLong, by simp⟩
      show takeP n (l.drop 2) = _
      rw [HLE.out]
      cases takeP (n - 0) (l.drop 2) <;> simp
    case round =>
      obtain ⟨k, a, v, r, ps, hk, rfl, rfl, har, HRA, hr, hsx, hown, hb, HT, HL, hsz⟩ := hrel
      obtain ⟨A, c, rfl⟩ := own_shape hown
      clear hbw hrw hsxw hg0 hg1 hlen
      by_cases hlt : k < n
      · cases r with
        | nil =>
          have hal : a = l.length := by simpa using har
          have hno : rscO l = none := rscO_no2 (by
            rw [HC.out, HT.out, show n - k = (n - k - 1) + 1 from by omega]
            rfl)
          have HNo := Lib.hid hno
          have cr0 := hr.cell 0
          have fr0 := hr.frozen 0
          have cr1 := hr.cell 1
          have fr1 := hr.frozen 1
          have cr2 := hr.cell 2
          have fr2 := hr.frozen 2
          have hFX := (((hr).set_ 0 (.int .i64 0)).set_ 1 (.slice none 0 0)).set_ 2 (.string (ByteArray.mk #[]))
          have hFB := (((hb).setCell (show w.heap.size ≤ (⟨w.heap.size, 0, none⟩ : Addr).block by simp) (.int .i64 0)).setCell (show w.heap.size ≤ (⟨w.heap.size, 1, none⟩ : Addr).block by simp) (.slice none 0 0)).setCell (show w.heap.size ≤ (⟨w.heap.size, 2, none⟩ : Addr).block by simp) (.string (ByteArray.mk #[]))
          clear hno hown hb hr hsx
          go_wp2
          have cF0 := hFX.cell 0
          have cF1 := hFX.cell 1
          have cF2 := hFX.cell 2
          refine bodyPost_ret (v := .tuple #[.agg #[.int .i64 0, .slice none 0 0, .string (S [])], .bool false]) (by simp [results, Try.results28, go_sem, S_nil, *]) rfl ?_
          rw [HNo.out]
          exact ⟨none, 0, 0, rfl, Rd.none_, hFB⟩
        | cons b r =>
          have hlt2 : a < l.length := by simp at har; omega
          have hgb : l[a] = b := by
            have h0 : (l.drop a)[0]? = some b := by rw [← HRA.out]; rfl
            rw [List.getElem?_drop, Nat.add_zero, List.getElem?_eq_getElem hlt2] at h0
            exact Option.some.inj h0
          have har2 : a + 1 + r.length = l.length := by simp at har; omega
          have hr1 : r = l.drop (a + 1) := by rw [← List.drop_drop, ← HRA.out]; rfl
          obtain ⟨q, hq⟩ : ∃ q : Nat, b.toNat = q := ⟨_, rfl⟩
          have hq255 : q ≤ 255 := by have := b.toNat_lt; omega
          have HQ := Lib.hid hq
          by_cases hsh : r.length < q * 6
          · have hno : rscO l = none := rscO_no2 (by
              rw [HC.out, HT.out, show n - k = (n - k - 1) + 1 from by omega]
              simp only [takeP, HQ.out, if_pos hsh]
              rfl)
            have HNo := Lib.hid hno
            have cr0 := hr.cell 0
            have fr0 := hr.frozen 0
            have cr1 := hr.cell 1
            have fr1 := hr.frozen 1
            have cr2 := hr.cell 2
            have fr2 := hr.frozen 2
            have hFX := (((hr).set_ 0 (.int .i64 0)).set_ 1 (.slice none 0 0)).set_ 2 (.string (ByteArray.mk #[]))
            have hFB := (((hb).setCell (show w.heap.size ≤ (⟨w.heap.size, 0, none⟩ : Addr).block by simp) (.int .i64 0)).setCell (show w.heap.size ≤ (⟨w.heap.size, 1, none⟩ : Addr).block by simp) (.slice none 0 0)).setCell (show w.heap.size ≤ (⟨w.heap.size, 2, none⟩ : Addr).block by simp) (.string (ByteArray.mk #[]))
            clear hno hown hb hr hsx hr1
            go_wp2
            have cF0 := hFX.cell 0
            have cF1 := hFX.cell 1
            have cF2 := hFX.cell 2
            refine bodyPost_ret (v := .tuple #[.agg #[.int .i64 0, .slice none 0 0, .string (S [])], .bool false]) (by simp [results, Try.results28, go_sem, S_nil, *]) rfl ?_
            rw [HNo.out]
            exact ⟨none, 0, 0, rfl, Rd.none_, hFB⟩
          · have HP : Hid ((l.take (a + 1 + q * 6)).drop (a + 1) = r.take (q * 6)) := by
              show (l.take (a + 1 + q * 6)).drop (a + 1) = r.take (q * 6)
              rw [hr1, List.drop_take, show a + 1 + q * 6 - (a + 1) = q * 6 from by omega]
            have HR2 : Hid (r.drop (q * 6) = l.drop (a + 1 + q * 6)) := by
              show r.drop (q * 6) = l.drop (a + 1 + q * 6)
              rw [hr1, List.drop_drop]
            have HT2 : Hid (takeP n (l.drop 2) = (takeP (n - (k + 1)) (r.drop (q * 6))).map fun x => ((ps ++ [r.take (q * 6)]) ++ x.1, x.2)) := by
              show takeP n (l.drop 2) = _
              rw [HT.out, show n - k = (n - (k + 1)) + 1 from by omega]
              simp only [takeP, HQ.out, if_neg hsh]
              cases takeP (n - (k + 1)) (r.drop (q * 6)) <;> simp
            obtain ⟨p, hp⟩ : ∃ p, (l.take (a + 1 + q * 6)).drop (a + 1) = p := ⟨_, rfl⟩
            have hpp : r.take (q * 6) = p := by rw [← HP.out, hp]
            rw [hpp] at HT2
            have hpl : p.length ≤ 1000000 := by rw [← hpp, List.length_take]; omega
            have hda : a + 1 + q * 6 + (r.drop (q * 6)).length = l.length := by rw [List.length_drop]; omega
            clear hr1 HP hpp
            have cs1 := hsx.cell 1
            have hne : ∀ g, g < w.heap.size + 2 → some g ≠ (Value.slice A k c).ownBlock := fun g hg he => by
              have := (hown.lt _ he.symm).1
              omega
            have HNE := hide hne
            clear hne
            go_wp2
            have t1 : ((a : Int) + 1).toNat = a + 1 := by omega
            have t2 : ((a : Int) + 1 + 6 * (q : Int)).toNat = a + 1 + q * 6 := by omega
            have t3 : (a : Int) + 1 ≤ (a : Int) + 1 + 6 * (q : Int) := by omega
            have t4 : (a : Int) + 1 + 6 * (q : Int) ≤ l.length := by omega
            have t5 : IntKind.i64.wrap ((a : Int) + 1) = (a : Int) + 1 := IntWalk.i64_in _ (by omega)
            have t6 : IntKind.i64.wrap ((a : Int) + 1 + 6 * (q : Int)) = (a : Int) + 1 + 6 * (q : Int) := IntWalk.i64_in _ (by omega)
            have hsl : ∀ w' : World, (Instr.slice 9 (.string (S l)) (some (.int .i64 ((a : Int) + 1))) (some (.int .i64 ((a : Int) + 1 + 6 * (q : Int)))) none).run Try.prog w' = .ok (.string (S p)) w' := by
              intro w'
              rw [run_slice_string_if _ _ _ _ _ _ _ Try.underlying9, S_size, if_pos ⟨by omega, t4⟩, if_pos ⟨by omega, t3⟩, t1, t2, S_extract, hp]
            have hsxd : Bx wr.drew (w.heap.size + 1) #[.int .i64 pg, .slice A k c, .string (ByteArray.mk #[])] := hsx
            have hrd : Bx wr.drew w.heap.size #[.int .i64 0, .slice none 0 0, .string (ByteArray.mk #[])] := hr
            have cs1d : wr.drew.cell? ⟨w.heap.size + 1, 1, none⟩ = some (.slice A k c) := hsxd.cell 1
            have cs1a : ∀ o, (wr.alloc o).cell? ⟨w.heap.size + 1, 1, none⟩ = some (.slice A k c) := fun o => (hsx.alloc o).cell 1
            go_region_law
              ((refine step_append_lies _ (by rfl) (.tmp 44) (.tmp 53) 42 (by rfl) (w.heap.size + 2) 9 i0 _ 1 16 Try.underlying42 hi hz0 hz1 hz2 rfl (by omega) _ k _ (by rfl) (hown.alloc _) ⟨wr.heap.size, 0, none⟩ 1 1 [.string (S p)] (by rfl) rfl (news_at _ _ _ _ (by simp)) (by intro u hu; simp at hu; subst hu; rfl) (by omega) (by unfold maxLen; omega) (by omega) (by simp; omega) (wr.heap.size + 1) (by simp) ?_; intro g cap w1 hown1 hgrow hat hlt1; have fs1 := ((hsxd.alloc _).grown hgrow (unhide HNE _ (by omega))).frozen 1; have cs11 := ((hsxd.alloc _).grown hgrow (unhide HNE _ (by omega))).cell 1))
            all_goals (
              have hsx1 := (hsxd.alloc _).grown hgrow (unhide HNE _ (by omega))
              have hr1 := (hrd.alloc _).grown hgrow (unhide HNE _ (by omega))
              have hb1 := grown1 (B := w.heap.size) (w := wr.drew) hb.drew (own_mono hown (by omega)) (by simp; omega) hgrow
              have hsz1 : w.heap.size + 2 ≤ w1.heap.size := by have := hgrow.size; simp at this; omega
              go_wp2
              go_roundw
              case rel =>
                refine ⟨k + 1, a + 1 + q * 6, _, r.drop (q * 6), ps ++ [p], by omega, by go_num, by go_num, hda, HR2, hr1.far (by simp) _, hsx1.set_ 1 _, ?_, hb1.setCell (by simp) _, HT2, moreLong HL hpl, by simp; omega⟩
                rw [List.map_append]
                exact ownsRow_setCell_below hown1 (by simp) _
              case measure => simp [intOf]; omega)
      · obtain rfl : k = n := by omega
        have HT2 : Hid (takeP k (l.drop 2) = some (ps, r)) := by
          show takeP k (l.drop 2) = _
          rw [HT.out, Nat.sub_self]
          simp [takeP]
        have hda : l.drop a = r := HRA.out.symm
        have hal : (a : Int) ≤ l.length := by omega
        have cs2 := hsx.cell 2
        have fs2 := hsx.frozen 2
        have hown6 := ownsRow_setCell_below hown (a := ⟨w.heap.size + 1, 2, none⟩) (by simp) (.string (S r))
        have hr6 := hr.far (p := ⟨w.heap.size + 1, 2, none⟩) (by simp) (.string (S r))
        have hsx6 := hsx.set_ 2 (.string (S r))
        have hb6 := hb.setCell (show w.heap.size ≤ (⟨w.heap.size + 1, 2, none⟩ : Addr).block by simp) (.string (S r))
        have c60 := hsx6.cell 0
        have c61 := hsx6.cell 1
        have c62 := hsx6.cell 2
        have hrA := Rd.of_own hown6
        clear hr hsx hb hown hn
        go_wp2_with fail
        refine (rmayS_any pg ps r A k c _ hrA HL.out).mono ?_
        rintro e w7 ⟨rfl, hb7⟩
        have hr7 := hr6.to hb7
        have hsx7 := hsx6.to hb7
        have hown7 := own_below hown6 hb7 (Nat.le_refl _)
        have hb77 := bt hb6 hb7
        have cr0 := hr7.cell 0
        have fr0 := hr7.frozen 0
        have cr1 := hr7.cell 1
        have fr1 := hr7.frozen 1
        have cr2 := hr7.cell 2
        have fr2 := hr7.frozen 2
        have c70 := hsx7.cell 0
        have c71 := hsx7.cell 1
        have c72 := hsx7.cell 2
        clear c60 c61 c62 hrA hr6 hsx6 hown6 hb6 hb7 cs2 fs2 hsx7
        by_cases hm : mayS pg ps r = true
        · have hy := rscO_yes HN2.out (by rw [HC.out]; exact HT2.out) (by rw [HPG.out]; exact hm)
          rw [HPG.out] at hy
          have HY := Lib.hid hy
          have HM := Lib.hid hm
          clear hy hm
          have hrF := ((hr7.set_ 0 (.int .i64 pg)).set_ 1 (.slice A k c)).set_ 2 (.string (S r))
          have hownF := ownsRow_setCell_below (ownsRow_setCell_below (ownsRow_setCell_below hown7 (show (⟨w.heap.size, 0, none⟩ : Addr).block < w.heap.size + 2 by simp) (.int .i64 pg)) (show (⟨w.heap.size, 1, none⟩ : Addr).block < w.heap.size + 2 by simp) (.slice A k c)) (show (⟨w.heap.size, 2, none⟩ : Addr).block < w.heap.size + 2 by simp) (.string (S r))
          have hbF := ((hb77.setCell (show w.heap.size ≤ (⟨w.heap.size, 0, none⟩ : Addr).block by simp) (.int .i64 pg)).setCell (show w.heap.size ≤ (⟨w.heap.size, 1, none⟩ : Addr).block by simp) (.slice A k c)).setCell (show w.heap.size ≤ (⟨w.heap.size, 2, none⟩ : Addr).block by simp) (.string (S r))
          clear hr7 hown7 hb77
          rw [HM.out]
          go_wp2
          have cF0 := hrF.cell 0
          have cF1 := hrF.cell 1
          have cF2 := hrF.cell 2
          refine bodyPost_ret (v := .tuple #[.agg #[.int .i64 pg, .slice A k c, (.string (S r))], .bool true]) (by simp [results, Try.results28, go_sem, *]) rfl ?_
          rw [HY.out]
          exact ⟨_, _, _, rfl, Rd.of_own hownF, hbF⟩
        · have hm' : mayS pg ps r = false := by simpa using hm
          have HNo := Lib.hid (rscO_no3 (by rw [HC.out]; exact HT2.out) (by rw [HPG.out]; exact hm'))
          have HM := Lib.hid hm'
          clear hm hm' hown7
          have hFX := ((hr7.set_ 0 (.int .i64 0)).set_ 1 (.slice none 0 0)).set_ 2 (.string (ByteArray.mk #[]))
          have hFB := ((hb77.setCell (show w.heap.size ≤ (⟨w.heap.size, 0, none⟩ : Addr).block by simp) (.int .i64 0)).setCell (show w.heap.size ≤ (⟨w.heap.size, 1, none⟩ : Addr).block by simp) (.slice none 0 0)).setCell (show w.heap.size ≤ (⟨w.heap.size, 2, none⟩ : Addr).block by simp) (.string (ByteArray.mk #[]))
          clear hr7 hb77
          rw [HM.out]
          go_wp2
          have cF0 := hFX.cell 0
          have cF1 := hFX.cell 1
          have cF2 := hFX.cell 2
          refine bodyPost_ret (v := .tuple #[.agg #[.int .i64 0, .slice none 0 0, .string (S [])], .bool false]) (by simp [results, Try.results28, go_sem, S_nil, *]) rfl ?_
          rw [HNo.out]
          exact ⟨none, 0, 0, rfl, Rd.none_, hFB⟩
end Go.Proofs.Ytnhnofiimidagaa
